import PyProof.Rows.All
import Wide.All
import OpenK.AllK
import Wide.FinOn
import HandS.ForMost
import HandS.ForExc
import HandS.CallSlots
import HandS.Style
import HandS.HeadHook1
import HandS.TupMul
import HandS.IsInst
import HandS.Wide
import HandS.Exc
import HandS.HeadHook2
import HandS.TupAny
import HandS.ExcIs
import KE.KTupSum
import HandS.Defaults
import HandS.ExcOwn
import HandS.SetFor
import HandS.Zip
import HandS.Strs
import KE.GoesEnum
import KE.GoesMore
import KE.GoesZip
import HandS.Conv
import HandS.New0
import HandS.ExcValue
import PyProof.ListRange
import PyProof.RangeFor
import HandS.NamedTupGet
import HandS.EndBits
import HandS.Head0
import HandS.Head1
import HandS.Head2
import PyProof.StrLawsRepr
import PyProof.FitsInt
import HandS.Words
import PySem.Challenge.RW_fadewalk_k43_slips_looked_at
set_option Elab.async false
set_option linter.all false
set_option maxRecDepth 100000
set_option autoImplicit false
/-! ## Fw0: values, a small heap, a small language and what it computes -/
namespace Fw
open PySem

/-- a raised one: its class, all classes that it is of, its fields -/
structure Exc where
  cls : Str
  sups : List Str
  fs : List (Str × Int) := []
  deriving DecidableEq, Inhabited
/-- a value: what is never changed stands whole, what is changed by its place (level, number) -/
inductive D where
  | non | bl (b : Bool) | int (i : Int) | str (x : Str)
  | tup (xs : List D) | lst (xs : List D)
  | ref (l i : Nat)
  /-- a dict that nobody changes; a caught exception -/
  | dct (ks : List Int) (xs : List D)
  /-- the script: a list that is read alone -/
  | scr (xs : List D)
  | exc (x : Exc)
  /-- an instance of an own class whose attributes nobody changes -/
  | ins (c : Str) (ns : List Str) (xs : List D)
  /-- a thing of which nothing is known -/
  | any
  deriving Inhabited

/-- an object that is changed -/
inductive MO where
  | lst (xs : List D)
  deriving Inhabited

/-- the frames' objects, the running frame's first -/
abbrev MH := List (List MO)

def get : MH → Nat → Nat → Option MO
  | [], _, _ => none
  | fr :: r, l, i => if l = r.length then fr[i]? else get r l i
def put : MH → Nat → Nat → MO → MH
  | [], _, _, _ => []
  | fr :: r, l, i, o => if l = r.length then fr.set i o :: r else fr :: put r l i o

inductive Res (α : Type) where
  | ok (a : α) (m : MH)
  | exc (x : Exc) (m : MH)
  | fail
def Res.bind {α β : Type} (r : Res α) (f : α → MH → Res β) : Res β :=
  match r with
  | .ok a m => f a m
  | .exc x m => .exc x m
  | .fail => .fail
@[simp] theorem Res.bind_ok {α β : Type} (a : α) (m : MH) (f : α → MH → Res β) : (Res.ok a m).bind f = f a m := rfl
@[simp] theorem Res.bind_exc {α β : Type} (x : Exc) (m : MH) (f : α → MH → Res β) : (Res.exc x m).bind f = .exc x m := rfl
@[simp] theorem Res.bind_fail {α β : Type} (f : α → MH → Res β) : (Res.fail : Res α).bind f = .fail := rfl
/-- where nothing may be raised -/
def Res.nox {α : Type} (r : Res α) : Res α := match r with
  | .exc _ _ => .fail
  | r => r
@[simp] theorem Res.nox_ok {α : Type} (a : α) (m : MH) : (Res.ok a m).nox = .ok a m := rfl
/-- a thing that may not be there -/
def Res.of {α : Type} (o : Option α) (m : MH) : Res α := match o with
  | some a => .ok a m
  | none => .fail
@[simp] theorem Res.of_some {α : Type} (a : α) (m : MH) : Res.of (some a) m = .ok a m := rfl
@[simp] theorem Res.of_none {α : Type} (m : MH) : (Res.of none m : Res α) = .fail := rfl

/-! ### levels -/
mutual
/-- all places within stand below level n -/
def D.bd (n : Nat) : D → Bool
  | .ref l _ => decide (l < n)
  | .tup xs => bdL n xs
  | .lst xs => bdL n xs
  | .dct _ xs => bdL n xs
  | .scr xs => bdL n xs
  | .ins _ _ xs => bdL n xs
  | .exc _ => false
  | _ => true
def bdL (n : Nat) : List D → Bool
  | [] => true
  | x :: xs => x.bd n && bdL n xs
end
def MO.bd (n : Nat) : MO → Bool
  | .lst xs => bdL n xs

/-- a new object of the running frame -/
def alloc (m : MH) (o : MO) : Res D := match m with
  | fr :: r => if o.bd (r.length + 1) then .ok (.ref r.length fr.length) ((fr ++ [o]) :: r) else .fail
  | [] => .fail

/-! ### numbers' sizes -/
def nb (i : Int) : Nat := if i == 0 then 0 else i.natAbs.log2 + 1

/-! ### the language -/
inductive Op2 where
  | add | sub | mul | fdiv | mod | pow
  deriving DecidableEq
inductive Cm where
  | eq | ne | lt | le | gt | ge | is_ | isnot
  deriving DecidableEq
inductive Lit where
  | non | bl (b : Bool) | int (i : Int) | str (x : Str)
  deriving DecidableEq
inductive Bi where
  | len | abs | min | max | repr | sum | all | any | tuple | list | sorted | int
  deriving DecidableEq
inductive Ty where
  | int | bool | tuple | list | str
  deriving DecidableEq

/-- a list's method that tells of it -/
inductive Mk where
  | cnt | idx
  deriving DecidableEq
/-- what is made of a range: a list, a tuple, a list to be changed -/
inductive Lr where
  | lst | tup | new
  deriving DecidableEq
/-- a comprehension's target -/
inductive Pt where
  | name (i : Nat)
  | nil | cons (a b : Pt)
  | tup (n : Nat) (ts : Pt)

inductive E (ι : Type) where
  | lit (c : Lit)
  | var (i : Nat)
  | nil | cons (a b : E ι)
  | tup (es : E ι) | lst (es : E ι) | new (es : E ι)
  | bin (o : Op2) (a b : E ι)
  | neg (a : E ι)
  | cmp (o : Cm) (a b : E ι)
  | and (a b : E ι) | or (a b : E ι) | not (a : E ι)
  | ite (c a b : E ι)
  | call (f : ι) (es : E ι)
  | bi (b : Bi) (es : E ι)
  | isi (a : E ι) (t : Ty)
  | idx (a i : E ι)
  | app (a b : E ι)
  | rng1 (a : E ι) | rng2 (a b : E ι)
  | chain (o o2 : Cm) (a b c : E ι)
  /-- a[lo:hi]; nil: left out -/
  | sl (a lo hi : E ι)
  | glob (x : Str) (i : Int)
  | dlit (ks vs : List Int)
  /-- [e for t in it if c]; c nil: no test; own: the block's own slots; mu: it will be changed -/
  | lc (mu : Bool) (own : List (Str × Nat)) (t : Pt) (it c e : E ι)
  /-- isinstance(e, X) of a caught exception -/
  | isE (a : E ι) (x : Str)
  /-- a[::-1]; a.count(b), a.index(b); a.pop(b) -/
  | rev (a : E ι)
  | m1 (k : Mk) (a b : E ι)
  | pop (a b : E ι)
  /-- zip(a, b), enumerate(a), walked -/
  | zip (a b : E ι) | enum (a : E ι)
  /-- a * b, list(a), to be changed -/
  | nbin (o : Op2) (a b : E ι) | nlst (a : E ι)
  /-- a.f of an instance of c; the maker f called; an instance as a maker gives it; nothing known -/
  | fld (c : Str) (a : E ι) (f : Str) | mk (f : ι) (a : E ι) | ins (c : Str) (ns : List Str) (es : E ι) | anyv
  /-- len(a) by the own def f of the class c; list(range(a)), tuple(range(a)); len(set(a)) -/
  | lenI (c : Str) (f : ι) (a : E ι) | lrng (k : Lr) (a : E ι) | setLen (a : E ι)
  /-- a place that is never reached -/
  | bad

inductive T (ι : Type) where
  | name (i : Nat)
  | nil | cons (a b : T ι)
  | tup (n : Nat) (ts : T ι)
  | sub (o i : E ι)

inductive S (ι : Type) where
  | nil | cons (a b : S ι)
  | pass
  | asg (t : T ι) (e : E ι)
  | par (i j : Nat) (es : E ι)
  | exp (e : E ι)
  | ret (e : E ι) | retN
  | ifs (c : E ι) (a b : S ι)
  | whl (c : E ι) (b : S ι)
  | for_ (t : T ι) (it : E ι) (b : S ι)
  | setLc (i : Nat) (e : E ι)
  | raise (x : Str) (sups : List Str)
  | tryE (x : Str) (i : Nat) (a b : S ι)
  /-- i op= e; a[j] op= e -/
  | aug (i : Nat) (o : Op2) (e : E ι)
  | augS (a j : E ι) (o : Op2) (e : E ι)
  | par3 (i j l : Nat) (es : E ι)
  /-- a place that is never reached -/
  | bad

/-! ### what an operation gives -/
def arithI (o : Op2) (x y : D) (m : MH) : Res D := match x, y with
  | .int a, .int b => (match o with
    | .add => .ok (.int (a + b)) m
    | .sub => .ok (.int (a - b)) m
    | .mul => if a.natAbs.log2 + b.natAbs.log2 < 1000000 then .ok (.int (a * b)) m else .fail
    | .fdiv => if 0 < b ∧ b.natAbs.log2 < 9000 then .ok (.int (a / b)) m else .fail
    | .mod => if 0 < b then .ok (.int (a % b)) m else .fail
    | .pow => if 0 ≤ b ∧ b ≤ 1000000 ∧ a.natAbs < 2 ^ 64 then .ok (.int (a ^ b.toNat)) m else .fail)
  | _, _ => .fail

/-! ### data -/
mutual
/-- a value without places as data -/
def pd : D → Option PyData
  | .non => some .none
  | .bl b => some (.bool b)
  | .int i => some (.int i)
  | .str x => some (.str x)
  | .tup xs => (pdL xs).map .tuple
  | .lst xs => (pdL xs).map .list
  | .ref _ _ => none
  | .dct ks xs => (pdL xs).map fun ds => .dict ((ks.map .int).zip ds)
  | .scr xs => (pdL xs).map .list
  | .exc _ => none
  | .ins _ _ _ => none
  | .any => none
def pdL : List D → Option (List PyData)
  | [] => some []
  | x :: xs => match pd x, pdL xs with
    | some a, some b => some (a :: b)
    | _, _ => none
end
/-- a value, or a changed list of such, as data -/
def dat (m : MH) (d : D) : Option PyData := match d with
  | .ref l i => (match get m l i with
    | some (.lst xs) => (pdL xs).map .list
    | _ => none)
  | d => pd d
def strs2 : D → D → Option Bool
  | .str a, .str b => some (decide (a = b))
  | _, _ => none
def eqS (m : MH) (x y : D) : Option Bool := match dat m x, dat m y with
  | some a, some b => if SeqAt.shaped a && SeqAt.shaped b then some (PyData.eqv a b) else none
  | _, _ => none
/-- any tuple and the empty one -/
def eqN : D → D → Option Bool
  | .tup xs, .tup [] => some (decide (xs = []))
  | _, _ => none
def orN : Option Bool → Option Bool → Option Bool
  | some k, _ => some k
  | none, z => z
@[simp] theorem orN_some (k : Bool) (z : Option Bool) : orN (some k) z = some k := rfl
def eqD (m : MH) (x y : D) : Option Bool := match strs2 x y with
  | some k => some k
  | none => orN (eqS m x y) (eqN x y)
mutual
/-- no list in it -/
def noList : PyData → Bool
  | .list _ => false
  | .tuple xs => noListAll xs
  | .dict kvs => noListKv kvs
  | _ => true
def noListAll : List PyData → Bool
  | [] => true
  | x :: xs => noList x && noListAll xs
def noListKv : List (PyData × PyData) → Bool
  | [] => true
  | (_, v) :: r => noList v && noListKv r
end
def reprD (m : MH) (x : D) : Option Str := match dat m x with
  | some a => if a.showable && decide (a.depth ≤ 60) && decide (a.shown.length ≤ sizeLine) then some a.shown else none
  | none => none
/-- the items of a list or tuple -/
def seqOf (m : MH) (d : D) : Option (List D) := match d with
  | .tup xs => some xs
  | .lst xs => some xs
  | .scr xs => some xs
  | .ref l i => (match get m l i with
    | some (.lst xs) => some xs
    | _ => none)
  | _ => none
/-- of a list alone -/
def lstOf (m : MH) (d : D) : Option (List D) := match d with
  | .tup _ => none
  | .scr _ => none
  | d => seqOf m d
def intsOf : List D → Option (List Int)
  | [] => some []
  | .int i :: r => (intsOf r).map (i :: ·)
  | _ :: _ => none
def blsOf : List D → Option (List Bool)
  | [] => some []
  | .bl b :: r => (blsOf r).map (b :: ·)
  | _ :: _ => none
/-- an item's place -/
abbrev place (n : Nat) (i : Int) : Option Nat := L2.ixN n i
def truth (m : MH) (d : D) : Option Bool := match d with
  | .bl b => some b
  | _ => none
def cmpI (o : Cm) (a b : Int) : Option Bool := match o with
  | .lt => some (decide (a < b))
  | .le => some (decide (a ≤ b))
  | .gt => some (decide (b < a))
  | .ge => some (decide (b ≤ a))
  | _ => none
def isNon : D → Bool
  | .non => true
  | _ => false
/-- is, by values -/
def isAny : D → Bool
  | .any => true
  | _ => false
def isD (x y : D) : Option Bool := match y with
  | .non => if isAny x then none else some (isNon x)
  | .bl b => (match x with
    | .bl a => some (decide (a = b))
    | _ => none)
  | _ => none
def compare (m : MH) (o : Cm) (x y : D) : Option Bool := match o with
  | .eq => eqD m x y
  | .ne => (eqD m x y).map (!·)
  | .is_ => isD x y
  | .isnot => (isD x y).map (!·)
  | o => (match x, y with
    | .int a, .int b => cmpI o a b
    | _, _ => none)
def isTy (m : MH) (t : Ty) (d : D) : Bool := match t, d with
  | .int, .int _ => true
  | .int, .bl _ => true
  | .bool, .bl _ => true
  | .str, .str _ => true
  | .tuple, .tup _ => true
  | .list, .lst _ => true
  | .list, .scr _ => true
  | .list, .ref l i => (match get m l i with
    | some (.lst _) => true
    | _ => false)
  | _, _ => false
/-- does the type of a thing show? -/
def tyKnown (m : MH) (d : D) : Bool := match d with
  | .exc _ => false
  | .ins _ _ _ => false
  | .any => false
  | .ref l i => (match get m l i with
    | some (.lst _) => true
    | _ => false)
  | _ => true
def maxI : List Int → Int
  | [] => 0
  | x :: xs => xs.foldl (fun a b => if b > a then b else a) x
def minI : List Int → Int
  | [] => 0
  | x :: xs => xs.foldl (fun a b => if b < a then b else a) x
def int2 (f : Int → Int → Int) (x y : D) : Option D := match x, y with
  | .int i, .int j => some (.int (f i j))
  | _, _ => none
def int1 (f : Int → Int) (x : D) : Option D := match x with
  | .int i => some (.int (f i))
  | _ => none
def lenD (m : MH) (x : D) : Option D := match x with
  | .str s => if s.length ≤ sizeLine then some (.int s.length) else none
  | x => (seqOf m x).map fun l => .int l.length
def ints1 (m : MH) (f : List Int → Int) (x : D) : Option D := (lstOf m x).bind fun l => (intsOf l).bind fun ns => if ns = [] then none else some (.int (f ns))
def sumD (m : MH) (x : D) : Option D := (seqOf m x).bind fun l => (intsOf l).map fun ns => .int ns.sum
def bls1 (m : MH) (f : List Bool → Bool) (x : D) : Option D := (lstOf m x).bind fun l => (blsOf l).map fun bs => .bl (f bs)
def built (b : Bi) (xs : List D) (m : MH) : Option D := match xs with
  | [x] => (match b with
    | .len => lenD m x
    | .abs => int1 (fun i => if i < 0 then -i else i) x
    | .min => ints1 m minI x
    | .max => ints1 m maxI x
    | .repr => (reprD m x).map .str
    | .sum => sumD m x
    | .all => bls1 m (fun bs => bs.all id) x
    | .any => bls1 m (fun bs => bs.any id) x
    | .tuple => (seqOf m x).map .tup
    | .list => (seqOf m x).map .lst
    | .int => (match x with
      | .bl b => some (.int (if b then 1 else 0))
      | .int i => some (.int i)
      | _ => none)
    | .sorted => none)
  | [x, y] => (match b with
    | .min => int2 (fun i j => if j < i then j else i) x y
    | .max => int2 (fun i j => if j > i then j else i) x y
    | _ => none)
  | _ => none

/-- tuples, lists put together, repeated -/
def seqOp (o : Op2) (x y : D) (m : MH) : Option D := match o with
  | .add => (match x, y with
    | .tup xs, .tup ys => if xs.length + ys.length ≤ sizeLine then some (.tup (xs ++ ys)) else none
    | .str a, .str b => if a.length + b.length ≤ sizeLine then some (.str (a ++ b)) else none
    | .bl b, .int i => some (.int ((if b then 1 else 0) + i))
    | x, y => (lstOf m x).bind fun xs => (lstOf m y).bind fun ys => if xs.length + ys.length ≤ sizeLine then some (.lst (xs ++ ys)) else none)
  | .mul => (match y with
    | .int k => (match x with
      | .tup xs => if (1 ≤ k ∧ k ≤ 1000) ∧ xs.length ≤ 1000 then some (.tup (List.replicate k.toNat xs).flatten) else none
      | x => (lstOf m x).bind fun xs => if (-(2 ^ 63) ≤ k ∧ k < 2 ^ 63) ∧ xs.length * k.toNat ≤ sizeLine then some (.lst (List.replicate k.toNat xs).flatten) else none)
    | _ => none)
  | .sub => (match x, y with
    | .bl b, .int i => some (.int ((if b then 1 else 0) - i))
    | .int i, .bl b => some (.int (i - if b then 1 else 0))
    | _, _ => none)
  | _ => none
def isInt2 : D → D → Bool
  | .int _, .int _ => true
  | _, _ => false
def arith (o : Op2) (x y : D) (m : MH) : Res D := if isInt2 x y then arithI o x y m else .of (seqOp o x y m) m
/-- a part of a list, a tuple -/
def cut (xs : List D) (lo hi : Option Int) : List D := (xs.drop (HT.sIx xs.length 0 lo)).take (HT.sIx xs.length xs.length hi - HT.sIx xs.length 0 lo)
def slD (m : MH) (x : D) (lo hi : Option Int) : Option D := match x with
  | .tup xs => some (.tup (cut xs lo hi))
  | .scr xs => some (.lst (cut xs lo hi))
  | x => (lstOf m x).map fun xs => .lst (cut xs lo hi)
def isED (x : Str) : D → Option D
  | .exc z => some (.bl (decide (x ∈ z.sups)))
  | _ => none
abbrev Env := List (Option D)
def ptg : Pt → (D → Env → Option Env) × (List D → Env → Option Env)
  | .name i => (fun d v => if i < v.length then some (v.set i (some d)) else none, fun _ _ => none)
  | .nil => (fun _ _ => none, fun ds v => match ds with
    | [] => some v
    | _ => none)
  | .cons a b => (fun _ _ => none, fun ds v => match ds with
    | d :: r => ((ptg a).1 d v).bind fun v => (ptg b).2 r v
    | _ => none)
  | .tup n ts => (fun d v => (match d with
    | .tup xs => if xs.length = n then (ptg ts).2 xs v else none
    | _ => none), fun _ _ => none)
/-- a block's own slots are empty at first -/
def wipeE (v : Env) : List Nat → Env
  | [] => v
  | i :: is => (wipeE v is).set i none
def Env.at_ (e : Env) (i : Nat) : Option D := (e[i]?).getD none
/-- what a loop walks: items that stay, a list as it stands at each turn -/
inductive Wk where
  | items (xs : List D)
  | live (l i n : Nat)
/-- what the i-th turn meets -/
def stepW (w : Wk) (i : Nat) (m : MH) : Option (Option D) := match w with
  | .items xs => some xs[i]?
  | .live l j _ => (match get m l j with
    | some (.lst ys) => some ys[i]?
    | _ => none)
def lenW : Wk → Nat
  | .items xs => xs.length
  | .live _ _ n => n
/-- a comprehension's turns from the i-th on, k at most -/
def lcW (tg : D → Env → Option Env) (c : Env → MH → Res Bool) (e : Env → MH → Res D) (v : Env) (w : Wk) : Nat → Nat → MH → Res (List D)
  | 0, _, _ => .fail
  | k + 1, i, m => (match stepW w i m with
    | none => .fail
    | some none => .ok [] m
    | some (some x) => (match tg x v with
      | none => .fail
      | some v' => (c v' m).bind fun t m => if t then (e v' m).bind fun y m => (lcW tg c e v w k (i + 1) m).bind fun ys m => .ok (y :: ys) m else lcW tg c e v w k (i + 1) m))
/-- an expression, a list of such, a test, what is walked -/
structure Sm where
  e : Env → MH → Res D
  l : Env → MH → Res (List D) := fun _ _ => .fail
  /-- a slice's part; a comprehension's test (nil: none) -/
  o : Env → MH → Res (Option Int) := fun v m => (e v m).bind fun x m => (match x with
    | .int i => .ok (some i) m
    | _ => .fail)
  t : Env → MH → Res Bool := fun v m => (e v m).bind fun x m => .of (truth m x) m
  w : Env → MH → Res Wk := fun v m => (e v m).bind fun x m => (match x with
    | .tup xs => .ok (.items xs) m
    | .lst xs => .ok (.items xs) m
    | .scr xs => .ok (.items xs) m
    | .ref l i => (match get m l i with
      | some (.lst xs) => .ok (.live l i xs.length) m
      | _ => .fail)
    | _ => .fail)

def litD : Lit → D
  | .non => .non
  | .bl b => .bl b
  | .int i => .int i
  | .str x => .str x
def getAt (m : MH) (x y : D) : Option D := match y with
  | .int k => (seqOf m x).bind fun l => (place l.length k).bind fun n => l[n]?
  | _ => none
def setAt (x i y : D) (m : MH) : Res Unit := match x, i with
  | .ref l a, .int k => (match get m l a with
    | some (.lst xs) => (match place xs.length k with
      | some n => if y.bd (l + 1) then .ok () (put m l a (.lst (xs.set n y))) else .fail
      | none => .fail)
    | _ => .fail)
  | _, _ => .fail
/-- a list that is changed? -/
def isL (m : MH) (x : D) : Bool := match x with
  | .ref l i => (match get m l i with
    | some (.lst _) => true
    | _ => false)
  | _ => false
def append (x y : D) (m : MH) : Res D := match x with
  | .ref l i => (match get m l i with
    | some (.lst xs) => if y.bd (l + 1) && decide (xs.length < sizeLine) then .ok .non (put m l i (.lst (xs ++ [y]))) else .fail
    | _ => .fail)
  | _ => .fail
/-- a value that needs no room -/
def flat : D → Bool
  | .non | .bl _ | .int _ | .str _ => true
  | _ => false
def flatV' : D → L2.V
  | .non => .non
  | .bl b => .bl b
  | .int i => .int i
  | .str x => .str x
  | _ => .non
/-- == of flat things -/
def eqF (x y : D) : Bool := L2.eqV (flatV' x) (flatV' y)
def revD (m : MH) (x : D) : Option D := match x with
  | .tup xs => some (.tup xs.reverse)
  | x => (lstOf m x).map fun xs => .lst xs.reverse
/-- the first place of an item that is as asked -/
def findF (y : D) : List D → Nat → Option Nat
  | [], _ => none
  | x :: xs, i => if eqF x y then some i else findF y xs (i + 1)
def m1D (k : Mk) (m : MH) (x y : D) : Option D := (lstOf m x).bind fun xs => if flat y && xs.all flat then (match k with
  | .cnt => some (.int ((xs.countP fun z => eqF z y : Nat) : Int))
  | .idx => (findF y xs 0).map fun (i : Nat) => D.int ((i : Nat) : Int)) else none
def isLs (m : MH) (x : D) : Bool := (lstOf m x).isSome
/-- an item of a list, counted from the left -/
def getL (m : MH) (x y : D) : Option D := match y with
  | .int k => if 0 ≤ k then (lstOf m x).bind fun xs => xs[k.toNat]? else none
  | _ => none
def popD (x y : D) (m : MH) : Res D := match x, y with
  | .ref l i, .int k => (match get m l i with
    | some (.lst xs) => if 0 ≤ k ∧ k < xs.length then (match xs[k.toNat]? with
      | some d => .ok d (put m l i (.lst (xs.eraseIdx k.toNat)))
      | none => .fail) else .fail
    | _ => .fail)
  | _, _ => .fail
/-- the items of what stands still -/
def seqC : D → Option (List D)
  | .tup xs => some xs
  | .lst xs => some xs
  | _ => none
def zipD (x y : D) : Option (List D) := (seqC x).bind fun xs => (seqC y).map fun ys => (xs.zip ys).map fun p => .tup [p.1, p.2]
def enumD (x : D) : Option (List D) := (seqC x).map fun xs => xs.zipIdx.map fun p => .tup [.int (p.2 : Nat), p.1]
/-- lists put together, repeated, the new one to be changed -/
def nbinD (o : Op2) (x y : D) (m : MH) : Res D := match o, y with
  | .mul, .int k => (match lstOf m x with
    | some xs => if (-(2 ^ 63) ≤ k ∧ k < 2 ^ 63) ∧ xs.length * k.toNat ≤ sizeLine then alloc m (.lst (List.replicate k.toNat xs).flatten) else .fail
    | none => .fail)
  | .add, y => (match lstOf m x, lstOf m y with
    | some xs, some ys => if xs.length + ys.length ≤ sizeLine then alloc m (.lst (xs ++ ys)) else .fail
    | _, _ => .fail)
  | _, _ => .fail
def fldD (c f : Str) : D → Option D
  | .ins c' ns xs => if c' = c then (ns.zip xs).lookup f else none
  | _ => none
def isIns (c : Str) : D → Bool
  | .ins c' _ _ => decide (c' = c)
  | _ => false
/-- how many there are, twice the same one counted once -/
def dcnt : List Int → Nat
  | [] => 0
  | n :: ns => if n ∈ ns then dcnt ns else dcnt ns + 1
def setLenD : D → Option D
  | .tup xs => (intsOf xs).bind fun ns => if ns.length ≤ 1000 then some (.int (dcnt ns : Nat)) else none
  | _ => none
def rangeD (a b : Int) : List D := (List.range (b - a).toNat).map fun (k : Nat) => D.int (a + (k : Int))
def lrngR (k : Lr) (x : D) (m : MH) : Res D := match x with
  | .int n => if 0 ≤ n ∧ n ≤ 10000 then (match k with
    | .lst => .ok (.lst (rangeD 0 n)) m
    | .tup => .ok (.tup (rangeD 0 n)) m
    | .new => alloc m (.lst (rangeD 0 n))) else .fail
  | _ => .fail

section
variable {ι : Type} (call : ι → List D → MH → Res D)
def sem : E ι → Sm
  | .lit c => { e := fun _ m => .ok (litD c) m }
  | .var i => { e := fun v m => .of (v.at_ i) m }
  | .nil => { e := fun _ _ => .fail, l := fun _ m => .ok [] m, o := fun _ m => .ok none m, t := fun _ m => .ok true m }
  | .cons a b => { e := fun _ _ => .fail, l := fun v m => ((sem a).e v m).bind fun x m => ((sem b).l v m).bind fun xs m => .ok (x :: xs) m }
  | .tup es => { e := fun v m => ((sem es).l v m).bind fun xs m => if xs.length ≤ sizeLine then .ok (.tup xs) m else .fail }
  | .lst es => { e := fun v m => ((sem es).l v m).bind fun xs m => if xs.length ≤ sizeLine then .ok (.lst xs) m else .fail }
  | .new es => { e := fun v m => ((sem es).l v m).bind fun xs m => if xs.length ≤ sizeLine then alloc m (.lst xs) else .fail }
  | .bin o a b => { e := fun v m => ((sem a).e v m).bind fun x m => ((sem b).e v m).bind fun y m => arith o x y m }
  | .neg a => { e := fun v m => ((sem a).e v m).bind fun x m => (match x with
    | .int i => .ok (.int (-i)) m
    | _ => .fail) }
  | .cmp o a b => { e := fun v m => ((sem a).e v m).bind fun x m => ((sem b).e v m).bind fun y m => .of ((compare m o x y).map .bl) m }
  | .and a b => {
      e := fun v m => ((sem a).e v m).bind fun x m => (match x with
        | .bl true => (sem b).e v m
        | .bl false => .ok (.bl false) m
        | _ => .fail)
      t := fun v m => ((sem a).t v m).bind fun t m => if t then (sem b).t v m else .ok false m }
  | .or a b => {
      e := fun v m => ((sem a).e v m).bind fun x m => (match x with
        | .bl true => .ok (.bl true) m
        | .bl false => (sem b).e v m
        | _ => .fail)
      t := fun v m => ((sem a).t v m).bind fun t m => if t then .ok true m else (sem b).t v m }
  | .not a => {
      e := fun v m => ((sem a).e v m).bind fun x m => (match x with
        | .bl b => .ok (.bl (!b)) m
        | _ => .fail)
      t := fun v m => ((sem a).t v m).bind fun t m => .ok (!t) m }
  | .ite c a b => { e := fun v m => ((sem c).t v m).bind fun t m => if t then (sem a).e v m else (sem b).e v m, t := fun _ _ => .fail }
  | .call f es => { e := fun v m => ((sem es).l v m).bind fun xs m => call f xs m }
  | .bi b es => { e := fun v m => ((sem es).l v m).bind fun xs m => .of (built b xs m) m }
  | .isi a t => { e := fun v m => ((sem a).e v m).bind fun x m => if tyKnown m x then .ok (.bl (isTy m t x)) m else .fail }
  | .idx a i => { e := fun v m => ((sem a).e v m).bind fun x m => ((sem i).e v m).bind fun y m => .of (getAt m x y) m }
  | .app a b => { e := fun v m => ((sem a).e v m).bind fun x m => if isL m x then ((sem b).e v m).bind fun y m => append x y m else .fail }
  | .rng1 a => { e := fun _ _ => .fail, w := fun v m => ((sem a).e v m).bind fun x m => (match x with
    | .int n => if -(2 ^ 62) ≤ n ∧ n < 2 ^ 62 then .ok (.items (rangeD 0 n)) m else .fail
    | _ => .fail) }
  | .rng2 a b => { e := fun _ _ => .fail, w := fun v m => ((sem a).e v m).bind fun x m => ((sem b).e v m).bind fun y m => (match x, y with
    | .int i, .int n => if (-(2 ^ 62) ≤ i ∧ i < 2 ^ 62) ∧ (-(2 ^ 62) ≤ n ∧ n < 2 ^ 62) then .ok (.items (rangeD i n)) m else .fail
    | _, _ => .fail) }
  | .chain o o2 a b c => { e := fun v m => ((sem a).e v m).bind fun x m => ((sem b).e v m).bind fun y m => (Res.of (compare m o x y) m).bind fun t m => if t then ((sem c).e v m).bind fun z m => .of ((compare m o2 y z).map .bl) m else .ok (.bl false) m }
  | .sl a lo hi => { e := fun v m => ((sem a).e v m).bind fun x m => ((sem lo).o v m).bind fun l m => ((sem hi).o v m).bind fun h m => .of (slD m x l h) m }
  | .glob _ i => { e := fun _ m => .ok (.int i) m }
  | .dlit ks vs => { e := fun _ m => .ok (.dct ks (vs.map .int)) m }
  | .lc mu own t it c e => { e := fun v m => ((sem it).w v m).bind fun w m => if lenW w ≤ sizeLine then (lcW (ptg t).1 (sem c).t (sem e).e (wipeE v (own.map (·.2))) w (lenW w + 1) 0 m).nox.bind fun ys m => if mu then alloc m (.lst ys) else .ok (.lst ys) m else .fail }
  | .isE a x => { e := fun v m => ((sem a).e v m).bind fun y m => .of (isED x y) m }
  | .rev a => { e := fun v m => ((sem a).e v m).bind fun x m => .of (revD m x) m }
  | .m1 k a b => { e := fun v m => ((sem a).e v m).bind fun x m => if isLs m x then ((sem b).e v m).bind fun y m => .of (m1D k m x y) m else .fail }
  | .pop a b => { e := fun v m => ((sem a).e v m).bind fun x m => if isL m x then ((sem b).e v m).bind fun y m => popD x y m else .fail }
  | .zip a b => { e := fun _ _ => .fail, w := fun v m => ((sem a).e v m).bind fun x m => ((sem b).e v m).bind fun y m => .of ((zipD x y).map .items) m }
  | .enum a => { e := fun _ _ => .fail, w := fun v m => ((sem a).e v m).bind fun x m => .of ((enumD x).map .items) m }
  | .nbin o a b => { e := fun v m => ((sem a).e v m).bind fun x m => ((sem b).e v m).bind fun y m => nbinD o x y m }
  | .nlst a => { e := fun v m => ((sem a).e v m).bind fun x m => (match seqOf m x with
    | some xs => alloc m (.lst xs)
    | none => .fail) }
  | .fld c a f => { e := fun v m => ((sem a).e v m).bind fun x m => .of (fldD c f x) m }
  | .mk f a => { e := fun v m => ((sem a).e v m).bind fun x m => call f [x] m }
  | .ins c ns es => { e := fun v m => ((sem es).l v m).bind fun xs m => if xs.length = ns.length then .ok (.ins c ns xs) m else .fail }
  | .anyv => { e := fun _ m => .ok .any m }
  | .lenI c f a => { e := fun v m => ((sem a).e v m).bind fun x m => if isIns c x then (call f [x] m).nox.bind fun y m => (match y with
    | .int i => if 0 ≤ i ∧ i < 2 ^ 62 then .ok (.int i) m else .fail
    | _ => .fail) else .fail }
  | .lrng k a => { e := fun v m => ((sem a).e v m).bind fun x m => lrngR k x m }
  | .setLen a => { e := fun v m => ((sem a).e v m).bind fun x m => .of (setLenD x) m }
  | .bad => { e := fun _ _ => .fail, t := fun _ _ => .fail, w := fun _ _ => .fail }
abbrev ev (e : E ι) (v : Env) (m : MH) : Res D := (sem call e).e v m
abbrev evs (e : E ι) (v : Env) (m : MH) : Res (List D) := (sem call e).l v m
abbrev tst (e : E ι) (v : Env) (m : MH) : Res Bool := (sem call e).t v m
abbrev evw (e : E ι) (v : Env) (m : MH) : Res Wk := (sem call e).w v m

/-! ### targets -/
structure Tm where
  g : D → Env → MH → Res Env
  gs : List D → Env → MH → Res Env := fun _ _ _ => .fail
def tgt : T ι → Tm
  | .name i => { g := fun d v m => if i < v.length then .ok (v.set i (some d)) m else .fail }
  | .nil => { g := fun _ _ _ => .fail, gs := fun ds v m => (match ds with
    | [] => .ok v m
    | _ => .fail) }
  | .cons a b => { g := fun _ _ _ => .fail, gs := fun ds v m => (match ds with
    | d :: r => ((tgt a).g d v m).bind fun v m => (tgt b).gs r v m
    | _ => .fail) }
  | .tup n ts => { g := fun d v m => (match d with
    | .tup xs => if xs.length = n then (tgt ts).gs xs v m else .fail
    | _ => .fail) }
  | .sub o i => { g := fun d v m => (ev call o v m).bind fun x m => (ev call i v m).bind fun y m => (setAt x y d m).bind fun _ m => .ok v m }

/-! ### statements -/
inductive Fl where
  | nx (v : Env)
  | rt (d : D)
  | ex (x : Exc) (v : Env)
/-- an expression's answer in a statement -/
def Res.st {α : Type} (r : Res α) (v : Env) (f : α → MH → Res Fl) : Res Fl := match r with
  | .ok a m => f a m
  | .exc x m => .ok (.ex x v) m
  | .fail => .fail
@[simp] theorem Res.st_ok {α : Type} (a : α) (m : MH) (v : Env) (f : α → MH → Res Fl) : (Res.ok a m).st v f = f a m := rfl
@[simp] theorem Res.st_exc {α : Type} (x : Exc) (m : MH) (v : Env) (f : α → MH → Res Fl) : (Res.exc x m : Res α).st v f = .ok (.ex x v) m := rfl
@[simp] theorem Res.st_fail {α : Type} (v : Env) (f : α → MH → Res Fl) : (Res.fail : Res α).st v f = .fail := rfl
/-- a target's answer: none raises -/
def Res.tg (r : Res Env) (f : Env → MH → Res Fl) : Res Fl := match r with
  | .ok v m => f v m
  | _ => .fail
@[simp] theorem Res.tg_ok (v : Env) (m : MH) (f : Env → MH → Res Fl) : (Res.ok v m).tg f = f v m := rfl
/-- a turn and the next -/
def Res.then_ (r : Res Fl) (f : Env → MH → Res Fl) : Res Fl := match r with
  | .ok (.nx v) m => f v m
  | .ok fl m => .ok fl m
  | _ => .fail
@[simp] theorem Res.then_nx (v : Env) (m : MH) (f : Env → MH → Res Fl) : (Res.ok (.nx v) m).then_ f = f v m := rfl
@[simp] theorem Res.then_rt (d : D) (m : MH) (f : Env → MH → Res Fl) : (Res.ok (.rt d) m).then_ f = .ok (.rt d) m := rfl
@[simp] theorem Res.then_ex (x : Exc) (v : Env) (m : MH) (f : Env → MH → Res Fl) : (Res.ok (.ex x v) m).then_ f = .ok (.ex x v) m := rfl
@[simp] theorem Res.then_fail (f : Env → MH → Res Fl) : (Res.fail : Res Fl).then_ f = .fail := rfl

def forL (g : D → Env → MH → Res Env) (b : Env → MH → Res Fl) : List D → Env → MH → Res Fl
  | [], v, m => .ok (.nx v) m
  | x :: xs, v, m => (g x v m).tg fun v m => (b v m).then_ fun v m => forL g b xs v m
def forN (g : D → Env → MH → Res Env) (b : Env → MH → Res Fl) (l i n : Nat) : Nat → Env → MH → Res Fl
  | 0, v, m => (match get m l i with
    | some (.lst xs) => if xs.length = n then .ok (.nx v) m else .fail
    | _ => .fail)
  | k + 1, v, m => (match get m l i with
    | some (.lst xs) => (match xs[n - (k + 1)]? with
      | some x => (g x v m).tg fun v m => (b v m).then_ fun v m => forN g b l i n k v m
      | none => .fail)
    | _ => .fail)
/-- at most k turns -/
def whlN (c : Env → MH → Res Bool) (b : Env → MH → Res Fl) : Nat → Env → MH → Res Fl
  | 0, _, _ => .fail
  | k + 1, v, m => (c v m).st v fun t m => if t then (b v m).then_ fun v m => whlN c b k v m else .ok (.nx v) m
open Classical in
/-- as many turns as it takes -/
noncomputable def whl (c : Env → MH → Res Bool) (b : Env → MH → Res Fl) (v : Env) (m : MH) : Res Fl :=
  if h : ∃ k, whlN c b k v m ≠ .fail then whlN c b h.choose v m else .fail
mutual
/-- no exception in it -/
def noX : D → Bool
  | .tup xs => noXL xs
  | .lst xs => noXL xs
  | .scr xs => noXL xs
  | .dct _ xs => noXL xs
  | .ins _ _ xs => noXL xs
  | .exc _ => false
  | _ => true
def noXL : List D → Bool
  | [] => true
  | x :: xs => noX x && noXL xs
end
def noXE (v : Env) : Bool := v.all fun o => match o with
  | none => true
  | some d => noX d
/-- behind an except suite: its name is gone -/
def Res.gone (r : Res Fl) (i : Nat) : Res Fl := match r with
  | .ok (.nx v) m => if noXE (v.set i none) then .ok (.nx (v.set i none)) m else .fail
  | .ok (.rt d) m => if noX d then .ok (.rt d) m else .fail
  | _ => .fail
@[simp] theorem Res.gone_nx (v : Env) (m : MH) (i : Nat) : (Res.ok (.nx v) m).gone i = if noXE (v.set i none) then .ok (.nx (v.set i none)) m else .fail := rfl
@[simp] theorem Res.gone_rt (d : D) (m : MH) (i : Nat) : (Res.ok (.rt d) m).gone i = if noX d then .ok (.rt d) m else .fail := rfl
/-- try .. except x as i -/
def tryF (x : Str) (i : Nat) (r : Res Fl) (b : Env → MH → Res Fl) : Res Fl := match r with
  | .ok (.ex z v) m => if x ∈ z.sups then (if i < v.length then (b (v.set i (some (.exc z))) m).gone i else .fail) else .ok (.ex z v) m
  | .ok fl m => .ok fl m
  | _ => .fail
@[simp] theorem tryF_nx (x : Str) (i : Nat) (v : Env) (m : MH) (b : Env → MH → Res Fl) : tryF x i (.ok (.nx v) m) b = .ok (.nx v) m := rfl
@[simp] theorem tryF_rt (x : Str) (i : Nat) (d : D) (m : MH) (b : Env → MH → Res Fl) : tryF x i (.ok (.rt d) m) b = .ok (.rt d) m := rfl
@[simp] theorem tryF_ex (x : Str) (i : Nat) (z : Exc) (v : Env) (m : MH) (b : Env → MH → Res Fl) : tryF x i (.ok (.ex z v) m) b = if x ∈ z.sups then (if i < v.length then (b (v.set i (some (.exc z))) m).gone i else .fail) else .ok (.ex z v) m := rfl

noncomputable def exec : S ι → Env → MH → Res Fl
  | .nil, v, m => .ok (.nx v) m
  | .cons a b, v, m => (exec a v m).then_ fun v m => exec b v m
  | .pass, v, m => .ok (.nx v) m
  | .asg t e, v, m => (ev call e v m).st v fun x m => ((tgt call t).g x v m).tg fun v m => .ok (.nx v) m
  | .par i j es, v, m => (evs call es v m).st v fun xs m => (match xs with
    | [x, y] => if i < v.length ∧ j < v.length then .ok (.nx ((v.set i (some x)).set j (some y))) m else .fail
    | _ => .fail)
  | .exp e, v, m => (ev call e v m).st v fun _ m => .ok (.nx v) m
  | .ret e, v, m => (ev call e v m).st v fun x m => .ok (.rt x) m
  | .retN, _, m => .ok (.rt .non) m
  | .ifs c a b, v, m => (tst call c v m).st v fun t m => if t then exec a v m else exec b v m
  | .whl c b, v, m => whl (fun v m => tst call c v m) (fun v m => exec b v m) v m
  | .for_ t it b, v, m => (evw call it v m).st v fun w m => (match w with
    | .items xs => forL (fun x v m => (tgt call t).g x v m) (fun v m => exec b v m) xs v m
    | .live l i n => forN (fun x v m => (tgt call t).g x v m) (fun v m => exec b v m) l i n n v m)
  | .setLc i e, v, m => (ev call e v m).st v fun x m => if i < v.length then .ok (.nx (v.set i (some x))) m else .fail
  | .raise x sups, v, m => .ok (.ex ⟨x, sups, []⟩ v) m
  | .tryE x i a b, v, m => tryF x i (exec a v m) fun v m => exec b v m
  | .aug i o e, v, m => (Res.of (v.at_ i) m).st v fun x m => (ev call e v m).st v fun y m => (arithI o x y m).st v fun z m => if i < v.length then .ok (.nx (v.set i (some z))) m else .fail
  | .augS a j o e, v, m => (ev call a v m).st v fun x m => (ev call j v m).st v fun y m => (Res.of (getL m x y) m).st v fun z m => (ev call e v m).st v fun w m => (arithI o z w m).st v fun u m => (setAt x y u m).st v fun _ m => .ok (.nx v) m
  | .par3 i j l es, v, m => (evs call es v m).st v fun xs m => (match xs with
    | [x, y, z] => if i < v.length ∧ j < v.length ∧ l < v.length then .ok (.nx (((v.set i (some x)).set j (some y)).set l (some z))) m else .fail
    | _ => .fail)
  | .bad, _, _ => .fail
end

/-! ### defs -/
/-- a def: its parameters' number, its slots' number, its body -/
structure Fn (ι : Type) where
  np : Nat
  ns : Nat
  body : S ι
/-- a result leaves its frame: what it names of it is handed on -/
def leave (d : D) (m : MH) : Res D := match m with
  | fr :: r => (match d with
    | .ref l i => if l = r.length then (match fr[i]? with
        | some o => if o.bd r.length then alloc r o else .fail
        | none => .fail) else .ok d r
    | d => if d.bd r.length then .ok d r else .fail)
  | [] => .fail
def left (x : Res Fl) : Res D := match x with
  | .ok (.nx _) m => leave .non m
  | .ok (.rt d) m => leave d m
  | .ok (.ex x _) (_ :: r) => .exc x r
  | _ => .fail
/-- a def run, d calls deep at most -/
noncomputable def run {ι : Type} (P : ι → Fn ι) : Nat → ι → List D → MH → Res D
  | 0, _, _, _ => .fail
  | d + 1, f, xs, m =>
    if xs.length = (P f).np then
      left (exec (run P d) (P f).body (xs.map some ++ List.replicate ((P f).ns - (P f).np) none) ([] :: m))
    else .fail
end Fw

set_option Elab.async false
set_option linter.all false
set_option maxRecDepth 100000
set_option autoImplicit false
/-! ## Fw1: how the small heap stands in the abstract heap -/
namespace Fw
open PySem PySem.Spec PyProof.Rows L2

/-! ### the heap's own facts -/
theorem get_lt {m : MH} {l i : Nat} {o : MO} (h : get m l i = some o) : l < m.length := by
  induction m with
  | nil => simp [get] at h
  | cons fr r ih =>
    unfold get at h
    split at h
    · simp; omega
    · have := ih h; simp; omega
theorem get_put {m : MH} {l i : Nat} {o o' : MO} (h : get m l i = some o) (l' i' : Nat) :
    get (put m l i o') l' i' = if l' = l ∧ i' = i then some o' else get m l' i' := by
  induction m with
  | nil => simp [get] at h
  | cons fr r ih =>
    unfold get at h
    by_cases e : l = r.length
    · subst e
      simp only [if_true] at h
      have hi : i < fr.length := by
        rcases Nat.lt_or_ge i fr.length with q | q
        · exact q
        · rw [List.getElem?_eq_none q] at h; cases h
      simp only [put, if_true, get]
      by_cases e2 : l' = r.length
      · simp only [e2, if_true, true_and]
        by_cases e3 : i' = i
        · simp [e3, hi]
        · simp [e3, Ne.symm e3]
      · simp [e2]
    · rw [if_neg e] at h
      have hl := get_lt h
      have hlen : (put r l i o').length = r.length := by
        clear ih h hl e
        induction r with
        | nil => rfl
        | cons a b ih => unfold put; split <;> simp [*]
      simp only [put, if_neg e, get, hlen]
      by_cases e2 : l' = r.length
      · have : l' ≠ l := by omega
        simp [e2, if_pos, this]
        intro q; omega
      · simp only [if_neg e2]
        exact ih h
theorem put_length (m : MH) (l i : Nat) (o : MO) : (put m l i o).length = m.length := by
  induction m with
  | nil => rfl
  | cons a b ih => unfold put; split <;> simp [*]
theorem get_cons {fr : List MO} {r : MH} {l i : Nat} : get (fr :: r) l i = if l = r.length then fr[i]? else get r l i := rfl
theorem get_snoc {fr : List MO} {r : MH} {o : MO} {l i : Nat} : get ((fr ++ [o]) :: r) l i = if l = r.length ∧ i = fr.length then some o else get (fr :: r) l i := by
  simp only [get]
  by_cases e : l = r.length
  · subst e
    simp only [if_true, true_and]
    rcases Nat.lt_trichotomy i fr.length with q | q | q
    · rw [List.getElem?_append_left q, if_neg (by omega)]
    · subst q; simp
    · rw [List.getElem?_eq_none (by simp; omega), List.getElem?_eq_none (by omega), if_neg (by omega)]
  · simp [e]

/-! ### values -/
/-- the written part, and which exception stands where (in an except suite) -/
structure KX where
  k : PySem.W.Frag
  ex : Exc → Addr → Prop
abbrev Ro := Nat → Nat → Addr
abbrev Lv (m : MH) (l i : Nat) : Prop := (get m l i).isSome = true
mutual
def Rep (K : KX) (F : Hp) (ρ : Ro) (m : MH) : D → V → Prop
  | .non, v => v = .non
  | .bl b, v => v = .bl b
  | .int i, v => v = .int i
  | .str x, v => v = .str x
  | .tup xs, v => ∃ a vs, v = .ref a ∧ SqT K.k F a vs ∧ xs.length ≤ sizeLine ∧ RepL K F ρ m xs vs
  | .lst xs, v => ∃ a vs, v = .ref a ∧ F a = some (.lst vs) ∧ xs.length ≤ sizeLine ∧ RepL K F ρ m xs vs
  | .scr xs, v => ∃ a vs, v = .ref a ∧ SqL K.k F a vs ∧ xs.length ≤ sizeLine ∧ RepL K F ρ m xs vs
  | .ref l i, v => v = .ref (ρ l i) ∧ Lv m l i
  | .dct ks xs, v => ∃ a vs, v = .ref a ∧ F a = some (.dK ((ks.map Sum.inl).zip vs)) ∧ ks.length = xs.length ∧ RepL K F ρ m xs vs
  | .exc x, v => ∃ a, v = .ref a ∧ K.ex x a
  | .any, _ => True
  | .ins c ns xs, v => ∃ a dx vs, v = .ref a ∧ F a = some (.ins (He.ga K.k c) dx (ns.zip vs)) ∧ ns.length = xs.length ∧ RepL K F ρ m xs vs
def RepL (K : KX) (F : Hp) (ρ : Ro) (m : MH) : List D → List V → Prop
  | [], vs => vs = []
  | x :: xs, vs => ∃ v r, vs = v :: r ∧ Rep K F ρ m x v ∧ RepL K F ρ m xs r
end

/-- a later state: more is fixed, places stay -/
structure Ext (F : Hp) (ρ : Ro) (m : MH) (F' : Hp) (ρ' : Ro) (m' : MH) : Prop where
  f : ∀ a o, F a = some o → F' a = some o
  r : ∀ l i, Lv m l i → ρ' l i = ρ l i ∧ Lv m' l i
theorem Ext.refl {F : Hp} {ρ : Ro} {m : MH} : Ext F ρ m F ρ m := ⟨fun _ _ h => h, fun _ _ h => ⟨rfl, h⟩⟩
theorem Ext.trans {F F1 F2 : Hp} {ρ ρ1 ρ2 : Ro} {m m1 m2 : MH} (a : Ext F ρ m F1 ρ1 m1) (b : Ext F1 ρ1 m1 F2 ρ2 m2) : Ext F ρ m F2 ρ2 m2 :=
  ⟨fun x o h => b.f x o (a.f x o h), fun l i h => by
    obtain ⟨e, h1⟩ := a.r l i h
    obtain ⟨e2, h2⟩ := b.r l i h1
    exact ⟨e2.trans e, h2⟩⟩
theorem SqT.ext {K : KX} {F F' : Hp} (h : ∀ a o, F a = some o → F' a = some o) {a : Addr} {vs : List V} (q : SqT K.k F a vs) : SqT K.k F' a vs := by
  rcases q with (q | ⟨o, q⟩) | q
  · exact .inl (.inl (h _ _ q))
  · exact .inl (.inr ⟨o, h _ _ q⟩)
  · exact .inr q
theorem SqL.ext {K : KX} {F F' : Hp} (h : ∀ a o, F a = some o → F' a = some o) {a : Addr} {vs : List V} (q : SqL K.k F a vs) : SqL K.k F' a vs := by
  rcases q with (q | ⟨o, q⟩) | q
  · exact .inl (.inl (h _ _ q))
  · exact .inl (.inr ⟨o, h _ _ q⟩)
  · exact .inr q
section
variable {K : KX} {F F' : Hp} {ρ ρ' : Ro} {m m' : MH}
mutual
theorem Rep.ext (x : Ext F ρ m F' ρ' m') : ∀ {d : D} {v : V}, Rep K F ρ m d v → Rep K F' ρ' m' d v
  | .non, _, h => h
  | .bl _, _, h => h
  | .int _, _, h => h
  | .str _, _, h => h
  | .tup xs, v, h => by
    unfold Rep at h ⊢
    obtain ⟨a, vs, e, q, z, r⟩ := h
    exact ⟨a, vs, e, SqT.ext x.f q, z, RepL.ext x r⟩
  | .lst xs, v, h => by
    unfold Rep at h ⊢
    obtain ⟨a, vs, e, q, z, r⟩ := h
    exact ⟨a, vs, e, x.f _ _ q, z, RepL.ext x r⟩
  | .scr xs, v, h => by
    unfold Rep at h ⊢
    obtain ⟨a, vs, e, q, z, r⟩ := h
    exact ⟨a, vs, e, SqL.ext x.f q, z, RepL.ext x r⟩
  | .ref l i, v, h => by
    unfold Rep at h ⊢
    obtain ⟨e, q⟩ := h
    obtain ⟨e2, q2⟩ := x.r l i q
    exact ⟨by rw [e, e2], q2⟩
  | .dct ks xs, v, h => by
    unfold Rep at h ⊢
    obtain ⟨a, vs, e, q, z, r⟩ := h
    exact ⟨a, vs, e, x.f _ _ q, z, RepL.ext x r⟩
  | .exc _, v, h => by
    unfold Rep at h ⊢
    exact h
  | .ins c ns xs, v, h => by
    unfold Rep at h ⊢
    obtain ⟨a, dx, vs, e, q, z, r⟩ := h
    exact ⟨a, dx, vs, e, x.f _ _ q, z, RepL.ext x r⟩
  | .any, v, h => by unfold Rep; trivial
theorem RepL.ext (x : Ext F ρ m F' ρ' m') : ∀ {ds : List D} {vs : List V}, RepL K F ρ m ds vs → RepL K F' ρ' m' ds vs
  | [], _, h => h
  | d :: ds, vs, h => by
    unfold RepL at h ⊢
    obtain ⟨v, r, e, h1, h2⟩ := h
    exact ⟨v, r, e, Rep.ext x h1, RepL.ext x h2⟩
end
theorem RepL.length : ∀ {ds : List D} {vs : List V}, RepL K F ρ m ds vs → ds.length = vs.length
  | [], _, h => by unfold RepL at h; subst h; rfl
  | d :: ds, vs, h => by
    unfold RepL at h
    obtain ⟨v, r, e, h1, h2⟩ := h
    subst e
    simp [RepL.length h2]
theorem RepL.get : ∀ {ds : List D} {vs : List V} {i : Nat} {d : D}, RepL K F ρ m ds vs → ds[i]? = some d → ∃ v, vs[i]? = some v ∧ Rep K F ρ m d v
  | [], _, _, _, _, e => by simp at e
  | d :: ds, vs, 0, x, h, e => by
    unfold RepL at h
    obtain ⟨v, r, rfl, h1, h2⟩ := h
    simp at e; subst e
    exact ⟨v, rfl, h1⟩
  | d :: ds, vs, i + 1, x, h, e => by
    unfold RepL at h
    obtain ⟨v, r, rfl, h1, h2⟩ := h
    obtain ⟨u, q, r'⟩ := RepL.get (i := i) (d := x) h2 (by simpa using e)
    exact ⟨u, by simpa using q, r'⟩
theorem RepL.set {x : D} {y : V} (hx : Rep K F ρ m x y) : ∀ {ds : List D} {vs : List V} (i : Nat), RepL K F ρ m ds vs → RepL K F ρ m (ds.set i x) (vs.set i y)
  | [], _, _, h => by unfold RepL at h; subst h; simp [RepL]
  | d :: ds, vs, 0, h => by
    unfold RepL at h
    obtain ⟨v, r, rfl, h1, h2⟩ := h
    simp only [List.set_cons_zero]
    unfold RepL
    exact ⟨y, r, rfl, hx, h2⟩
  | d :: ds, vs, i + 1, h => by
    unfold RepL at h
    obtain ⟨v, r, rfl, h1, h2⟩ := h
    simp only [List.set_cons_succ]
    unfold RepL
    exact ⟨v, _, rfl, h1, RepL.set hx i h2⟩
theorem RepL.append {ds es : List D} {vs us : List V} (h : RepL K F ρ m ds vs) (h' : RepL K F ρ m es us) : RepL K F ρ m (ds ++ es) (vs ++ us) := by
  induction ds generalizing vs with
  | nil => unfold RepL at h; subst h; exact h'
  | cons d ds ih =>
    unfold RepL at h
    obtain ⟨v, r, rfl, h1, h2⟩ := h
    simp only [List.cons_append]
    unfold RepL
    exact ⟨v, _, rfl, h1, ih h2⟩
theorem RepL.one {d : D} {v : V} (h : Rep K F ρ m d v) : RepL K F ρ m [d] [v] := by
  unfold RepL
  exact ⟨v, [], rfl, h, by unfold RepL; rfl⟩
theorem RepL.nil : RepL K F ρ m [] [] := by unfold RepL; rfl
theorem RepL.cons {d : D} {v : V} {ds : List D} {vs : List V} (h : Rep K F ρ m d v) (t : RepL K F ρ m ds vs) : RepL K F ρ m (d :: ds) (v :: vs) := by
  unfold RepL
  exact ⟨v, vs, rfl, h, t⟩
theorem RepL.ints : ∀ {ds : List D} {vs : List V} {ns : List Int}, RepL K F ρ m ds vs → intsOf ds = some ns → vs = ns.map V.int
  | [], _, _, h, e => by unfold RepL at h; subst h; simp [intsOf] at e; subst e; rfl
  | d :: ds, vs, ns, h, e => by
    unfold RepL at h
    obtain ⟨v, r, rfl, h1, h2⟩ := h
    cases d with
    | int i =>
      unfold intsOf at e
      obtain ⟨l, e1, e2⟩ := Option.map_eq_some_iff.mp e
      subst e2
      unfold Rep at h1
      subst h1
      rw [RepL.ints h2 e1]; rfl
    | _ => simp [intsOf] at e
theorem RepL.bls : ∀ {ds : List D} {vs : List V} {ns : List Bool}, RepL K F ρ m ds vs → blsOf ds = some ns → vs = ns.map V.bl
  | [], _, _, h, e => by unfold RepL at h; subst h; simp [blsOf] at e; subst e; rfl
  | d :: ds, vs, ns, h, e => by
    unfold RepL at h
    obtain ⟨v, r, rfl, h1, h2⟩ := h
    cases d with
    | bl i =>
      unfold blsOf at e
      obtain ⟨l, e1, e2⟩ := Option.map_eq_some_iff.mp e
      subst e2
      unfold Rep at h1
      subst h1
      rw [RepL.bls h2 e1]; rfl
    | _ => simp [blsOf] at e
end

/-! ### the state -/
def ObR (K : KX) (F : Hp) (ρ : Ro) (m : MH) (o : MO) (h : Option HO) : Prop := match o with
  | .lst xs => ∃ vs, h = some (.lst vs) ∧ xs.length ≤ sizeLine ∧ RepL K F ρ m xs vs
structure Rl (K : KX) (F : Hp) (ρ : Ro) (m : MH) (H : Hp) : Prop where
  fh : ∀ a o, F a = some o → H a = some o
  ob : ∀ l i o, get m l i = some o → F (ρ l i) = none ∧ ObR K F ρ m o (H (ρ l i))
  inj : ∀ l i l' i', Lv m l i → Lv m l' i' → ρ l i = ρ l' i' → l = l' ∧ i = i'
  wf : ∀ l i o, get m l i = some o → o.bd (l + 1) = true
theorem ObR.ext {K : KX} {F F' : Hp} {ρ ρ' : Ro} {m m' : MH} (x : Ext F ρ m F' ρ' m') {o : MO} {h : Option HO} (q : ObR K F ρ m o h) : ObR K F' ρ' m' o h := by
  cases o with
  | lst xs =>
    obtain ⟨vs, e, z, r⟩ := q
    exact ⟨vs, e, z, r.ext x⟩
theorem ObR.some {K : KX} {F : Hp} {ρ : Ro} {m : MH} {o : MO} {h : Option HO} (q : ObR K F ρ m o h) : ∃ u, h = some u ∧ Mut (some u) := by
  cases o with
  | lst xs =>
    obtain ⟨vs, e, _⟩ := q
    exact ⟨_, e, trivial⟩
/-- what holds all through a def's body -/
structure Bs where
  F0 : Hp
  ρ0 : Ro
  m0 : MH
structure RS (K : KX) (b : Bs) (env : Env) (hd : List (D × V)) (G : Hp) (m : MH) (ρ : Ro) (F : Hp) (σ : L2.St) (H : Hp) : Prop where
  rl : Rl K F ρ m H
  len : env.length = σ.length
  env : ∀ i d, env.at_ i = some d → ∃ v, σ[i]? = some (some v) ∧ Rep K F ρ m d v
  hd : ∀ p ∈ hd, Rep K F ρ m p.1 p.2
  pin : ∀ a o, G a = some o → H a = some o ∧ F a = none ∧ ∀ l i, Lv m l i → ρ l i ≠ a
  ml : m.length = b.m0.length + 1
  xt : Ext b.F0 b.ρ0 b.m0 F ρ m
section
variable {K : KX} {b : Bs} {env : Env} {hd hd' : List (D × V)} {G : Hp} {m : MH} {ρ : Ro} {F : Hp} {σ : L2.St} {H : Hp}
theorem RS.held (R : RS K b env hd G m ρ F σ H) (h : ∀ p ∈ hd', p ∈ hd) : RS K b env hd' G m ρ F σ H :=
  ⟨R.rl, R.len, R.env, fun p q => R.hd p (h p q), R.pin, R.ml, R.xt⟩
theorem RS.hold (R : RS K b env hd G m ρ F σ H) {d : D} {v : V} (h : Rep K F ρ m d v) : RS K b env ((d, v) :: hd) G m ρ F σ H :=
  ⟨R.rl, R.len, R.env, fun p q => by
    rcases List.mem_cons.mp q with e | q
    · subst e; exact h
    · exact R.hd p q, R.pin, R.ml, R.xt⟩
theorem RS.top {d : D} {v : V} (R : RS K b env ((d, v) :: hd) G m ρ F σ H) : Rep K F ρ m d v := R.hd _ List.mem_cons_self
theorem Ext.newF {p : Addr} {o : HO} (h : F p = none) : Ext F ρ m (upd F p o) ρ m :=
  ⟨fun a u e => by rw [upd_ne (by intro z; subst z; rw [h] at e; cases e)]; exact e, fun _ _ h => ⟨rfl, h⟩⟩
/-- a new thing that never changes -/
theorem RS.newF (R : RS K b env hd G m ρ F σ H) {p : Addr} (o : HO) (hp : H p = none) : RS K b env hd G m ρ (upd F p o) σ (upd H p o) := by
  have hF : F p = none := by
    cases e : F p with
    | none => rfl
    | some u => rw [R.rl.fh _ _ e] at hp; cases hp
  have x : Ext F ρ m (upd F p o) ρ m := .newF hF
  have neR : ∀ l i u, get m l i = some u → ρ l i ≠ p := fun l i u e z => by
    obtain ⟨h', q, _⟩ := (R.rl.ob l i u e).2.some
    rw [z, hp] at q; cases q
  refine ⟨⟨fun a u e => ?_, fun l i u e => ?_, R.rl.inj, R.rl.wf⟩, R.len, fun i d e => ?_, fun q h => (R.hd q h).ext x, fun a u e => ?_, R.ml, R.xt.trans x⟩
  · by_cases h : a = p
    · subst h; rw [upd_same] at e ⊢; exact e
    · rw [upd_ne h] at e ⊢; exact R.rl.fh a u e
  · have := R.rl.ob l i u e
    rw [upd_ne (neR l i u e), upd_ne (neR l i u e)]
    exact ⟨this.1, this.2.ext x⟩
  · obtain ⟨v, h1, h2⟩ := R.env i d e
    exact ⟨v, h1, h2.ext x⟩
  · obtain ⟨h1, h2, h3⟩ := R.pin a u e
    have : a ≠ p := fun z => by rw [z, hp] at h1; cases h1
    rw [upd_ne this, upd_ne this]
    exact ⟨h1, h2, h3⟩
theorem Lv.put {l i : Nat} {o o' : MO} (h : get m l i = some o) {l' i' : Nat} : Lv (put m l i o') l' i' ↔ Lv m l' i' := by
  unfold Lv
  rw [get_put h]
  split
  · rename_i q; obtain ⟨rfl, rfl⟩ := q; simp [h]
  · rfl
/-- a changed object changes -/
theorem RS.put (R : RS K b env hd G m ρ F σ H) {l i : Nat} {o : MO} (h : get m l i = some o) {xs : List D} {vs : List V} (hz : xs.length ≤ sizeLine) (hb : bdL (l + 1) xs = true) (hr : RepL K F ρ m xs vs) :
    RS K b env hd G (put m l i (.lst xs)) ρ F σ (upd H (ρ l i) (.lst vs)) := by
  have x : Ext F ρ m F ρ (Fw.put m l i (.lst xs)) := ⟨fun _ _ h => h, fun l' i' q => ⟨rfl, (Lv.put h).mpr q⟩⟩
  have hlv : Lv m l i := by unfold Lv; rw [h]; rfl
  refine ⟨⟨fun a u e => ?_, fun l' i' u e => ?_, fun a c a' c' h1 h2 => R.rl.inj a c a' c' ((Lv.put h).mp h1) ((Lv.put h).mp h2), fun l' i' u e => ?_⟩, R.len, fun i d e => ?_, fun q h => (R.hd q h).ext x, fun a u e => ?_, by rw [put_length]; exact R.ml, R.xt.trans x⟩
  · have : a ≠ ρ l i := fun z => by rw [z, (R.rl.ob l i o h).1] at e; cases e
    rw [upd_ne this]; exact R.rl.fh a u e
  · rw [get_put h] at e
    by_cases q : l' = l ∧ i' = i
    · rw [if_pos q] at e
      obtain ⟨rfl, rfl⟩ := q
      cases e
      rw [upd_same]
      exact ⟨(R.rl.ob _ _ _ h).1, vs, rfl, hz, hr.ext x⟩
    · rw [if_neg q] at e
      have hlv' : Lv m l' i' := by unfold Lv; rw [e]; rfl
      have : ρ l' i' ≠ ρ l i := fun z => q (R.rl.inj _ _ _ _ hlv' hlv z)
      rw [upd_ne this]
      have := R.rl.ob l' i' u e
      exact ⟨this.1, this.2.ext x⟩
  · rw [get_put h] at e
    by_cases q : l' = l ∧ i' = i
    · rw [if_pos q] at e
      obtain ⟨rfl, rfl⟩ := q
      cases e
      exact hb
    · rw [if_neg q] at e
      exact R.rl.wf l' i' u e
  · obtain ⟨v, h1, h2⟩ := R.env i d e
    exact ⟨v, h1, h2.ext x⟩
  · obtain ⟨h1, h2, h3⟩ := R.pin a u e
    have : a ≠ ρ l i := fun z => h3 l i hlv z.symm
    rw [upd_ne this]
    exact ⟨h1, h2, fun l' i' q => h3 l' i' ((Lv.put h).mp q)⟩
theorem Lv.snoc {fr : List MO} {r : MH} {o : MO} {l i : Nat} : Lv ((fr ++ [o]) :: r) l i ↔ (l = r.length ∧ i = fr.length) ∨ Lv (fr :: r) l i := by
  unfold Lv
  rw [get_snoc]
  split <;> simp [*]
def Ro.put (ρ : Ro) (l i : Nat) (a : Addr) : Ro := fun l' i' => if l' = l ∧ i' = i then a else ρ l' i'
theorem Ro.put_same {ρ : Ro} {l i : Nat} {a : Addr} : (ρ.put l i a) l i = a := by simp [Ro.put]
theorem Ro.put_ne {ρ : Ro} {l i l' i' : Nat} {a : Addr} (h : ¬ (l' = l ∧ i' = i)) : (ρ.put l i a) l' i' = ρ l' i' := by simp only [Ro.put, if_neg h]
theorem not_lv_end {fr : List MO} {r : MH} : ¬ Lv (fr :: r) r.length fr.length := by
  unfold Lv
  simp [get]
/-- a new object that will be changed -/
theorem RS.alloc {fr : List MO} {r : MH} (R : RS K b env hd G (fr :: r) ρ F σ H) {p : Addr} (hp : H p = none) {xs : List D} {vs : List V} (hz : xs.length ≤ sizeLine) (hb : bdL (r.length + 1) xs = true) (hr : RepL K F ρ (fr :: r) xs vs) :
    RS K b env hd G ((fr ++ [.lst xs]) :: r) (ρ.put r.length fr.length p) F σ (upd H p (.lst vs)) := by
  have x : Ext F ρ (fr :: r) F (ρ.put r.length fr.length p) ((fr ++ [.lst xs]) :: r) := ⟨fun _ _ h => h, fun l' i' q => ⟨Ro.put_ne fun z => not_lv_end (z.1 ▸ z.2 ▸ q), Lv.snoc.mpr (.inr q)⟩⟩
  have hF : F p = none := by
    cases e : F p with
    | none => rfl
    | some u => rw [R.rl.fh _ _ e] at hp; cases hp
  have neR : ∀ l i, Lv (fr :: r) l i → ρ l i ≠ p := fun l i q z => by
    obtain ⟨u, e⟩ := Option.isSome_iff_exists.mp q
    obtain ⟨h', q, _⟩ := (R.rl.ob l i u e).2.some
    rw [z, hp] at q; cases q
  have old : ∀ l i, Lv (fr :: r) l i → (ρ.put r.length fr.length p) l i = ρ l i := fun l i q => (x.r l i q).1
  refine ⟨⟨fun a u e => ?_, fun l' i' u e => ?_, fun a c a' c' h1 h2 z => ?_, fun l' i' u e => ?_⟩, R.len, fun i d e => ?_, fun q h => (R.hd q h).ext x, fun a u e => ?_, R.ml, R.xt.trans x⟩
  · have : a ≠ p := fun z => by rw [z, hF] at e; cases e
    rw [upd_ne this]; exact R.rl.fh a u e
  · rw [get_snoc] at e
    by_cases q : l' = r.length ∧ i' = fr.length
    · rw [if_pos q] at e
      obtain ⟨rfl, rfl⟩ := q
      cases e
      rw [Ro.put_same, upd_same]
      exact ⟨hF, vs, rfl, hz, hr.ext x⟩
    · rw [if_neg q] at e
      have hlv' : Lv (fr :: r) l' i' := by unfold Lv; rw [e]; rfl
      rw [old _ _ hlv', upd_ne (neR _ _ hlv')]
      have := R.rl.ob l' i' u e
      exact ⟨this.1, this.2.ext x⟩
  · rcases Lv.snoc.mp h1 with ⟨rfl, rfl⟩ | h1 <;> rcases Lv.snoc.mp h2 with ⟨rfl, rfl⟩ | h2
    · exact ⟨rfl, rfl⟩
    · rw [Ro.put_same, old _ _ h2] at z
      exact absurd z.symm (neR _ _ h2)
    · rw [Ro.put_same, old _ _ h1] at z
      exact absurd z (neR _ _ h1)
    · rw [old _ _ h1, old _ _ h2] at z
      exact R.rl.inj _ _ _ _ h1 h2 z
  · rw [get_snoc] at e
    by_cases q : l' = r.length ∧ i' = fr.length
    · rw [if_pos q] at e
      obtain ⟨rfl, rfl⟩ := q
      cases e
      exact hb
    · rw [if_neg q] at e
      exact R.rl.wf l' i' u e
  · obtain ⟨v, h1, h2⟩ := R.env i d e
    exact ⟨v, h1, h2.ext x⟩
  · obtain ⟨h1, h2, h3⟩ := R.pin a u e
    have : a ≠ p := fun z => by rw [z, hp] at h1; cases h1
    rw [upd_ne this]
    refine ⟨h1, h2, fun l' i' q => ?_⟩
    rcases Lv.snoc.mp q with ⟨rfl, rfl⟩ | q
    · rw [Ro.put_same]; exact this.symm
    · rw [old _ _ q]; exact h3 _ _ q
end
end Fw

set_option Elab.async false
set_option linter.all false
set_option maxRecDepth 100000
set_option maxHeartbeats 2000000
set_option autoImplicit false
/-! ## Fw1a: a tuple once -/
namespace Fw
open PySem PySem.Spec PyProof.Rows L2
/-! ### t * 1, () * k -/
theorem tuple_mul1 (l : Addr) (items : Array Value) (n : Nat) (dd : Option Addr) (sl : Array (Option Value)) (x : Int) (u : Tok) (c0 : (decide (x < -(2 ^ 63)) || decide (x ≥ 2 ^ 63)) = false) (c1 : (items.isEmpty || x == 1) = true) :
    Meets (Builtin.«tuple.__mul__» ⟨[.ref l, .int x u], []⟩) (fun _ R s => s.heap.get? l = some { cls := .type "tuple", dict := dd, data := .seq items n, slots := sl } ∧ R (.ok (.ret (Value.ref l))) s) :=
  .of_wp fun prog w A R s h => by
    obtain ⟨hp, g, d, tk, os⟩ := s
    obtain ⟨hl, h⟩ := h
    have f1 := AutoSeq1.idx_int
    wp_walk using wpAny_loadPart' hl
    repeat (first
      | (refine wpAny_ite_false (decide_eq_false (by rw [c0]; exact Bool.false_ne_true)) ?_; wp_walk using wpAny_loadPart' hl)
      | (refine wpAny_ite_true (decide_eq_true c1) ?_; wp_walk using wpAny_loadPart' hl))
    exact ⟨_, rfl, h⟩
def rRep1 (K : PySem.W.Frag) : R2 := fun x y H Q => ∃ l k xs, x = .ref l ∧ y = .int k ∧ SqT K H l xs ∧ (xs = [] ∨ k = 1) ∧ -(2 ^ 63) ≤ k ∧ k < 2 ^ 63 ∧ Q (.ref l) H
section
variable {X : Cx}
theorem op_rep1 : OpR X (binaryOp .Mult) (rRep1 X.K) := by
  intro pins s σ H x y v u Q I rx ry h
  obtain ⟨l, k, xs, rfl, rfl, hT, hone, h1, h2, q⟩ := h
  cases rx
  obtain ⟨t, rfl⟩ := ry
  obtain ⟨its, r, ⟨⟨cls, dd, data, sl⟩, ho, hc, n, hd⟩, hs⟩ := I.tuple hT
  simp only at hc hd
  subst hc hd
  have c0 : (decide (k < -(2 ^ 63)) || decide (k ≥ 2 ^ 63)) = false := by
    rw [decide_eq_false (by omega), decide_eq_false (by omega)] <;> rfl
  have c1 : (its.toArray.isEmpty || k == 1) = true := by
    rcases hone with e | e
    · subst e
      cases r
      rfl
    · subst e
      rw [Bool.or_eq_true]
      exact .inr rfl
  exact wpAny_binaryOp_repeat_ref (T := "tuple") (U := "int") (by decide) ⟨_, ho, rfl⟩ (fun s' => typeIs_int s' k t) noFill_tuple_mul F.fills_int_mul F.slot_int_rmul repeat_tuple F.slot_int_index.lookup
    (call_meets F.slot_int_rmul (typeIs_int s k t) F.entry_int_rmul (F.args_int_rmul_2 _ _) (int_rmul_tuple k t l its.toArray n dd sl)
      ⟨ho, rfl, ⟨_, ho, rfl⟩, call_meets F.slot_tuple_mul ⟨_, ho, rfl⟩ F.entry_tuple_mul (F.args_tuple_mul_2 _ _) (tuple_mul1 l its.toArray n dd sl k t c0 c1) ⟨ho, .ref l, H, I, rfl, q⟩⟩)
end
end Fw

set_option Elab.async false
set_option linter.all false
set_option maxRecDepth 100000
set_option maxHeartbeats 1000000
set_option autoImplicit false
/-! ## Fw2: expressions do what sem says -/
namespace Fw
open PySem PySem.Spec PyProof.Rows L2

/-! ### a caught exception's place -/
/-- the own classes without a body of their own, each with all that it is of -/
def clsOf (P : Program) : List (Str × List Str) := P.main.body.foldl (fun acc s => match s with
  | .ClassDef name [.Name b _] _ [.Pass _] _ _ _ _ _ _ _ => acc ++ [(name, name :: (match acc.lookup b with
    | some l => l
    | none => [b]))]
  | _ => acc) []
/-- in an except suite of a: x is what a holds -/
def ExcAt (X : Cx) (x : Exc) (a : Addr) : Prop := ∃ (X0 : Cx) (oe : Obj) (pn : List (Addr × Obj)), X = Cx.suite X0 a ((a, oe) :: pn) ∧ Zc (.ref (He.ga X.K x.cls)) none oe ∧ (∃ vs, oe.data = .fields vs) ∧ (x.cls, x.sups) ∈ clsOf X.prog
/-- how a raised one stands for an Exc -/
def rxO (cl : List (Str × List Str)) : PySem.W.Frag → Exc → Value → Option Addr → Hp → Prop := fun K x c dd _ => (x.cls, x.sups) ∈ cl ∧ c = .ref (He.ga K x.cls) ∧ dd = none
/-- what is told of an own exception class -/
structure ExcFacts (K : PySem.W.Frag) (mg : Str → Option Value) (cl : List (Str × List Str)) (p : Str × List Str) : Prop where
  gl : mg p.1 = some (.ref (He.ga K p.1))
  exc : PySem.W.excIn K (He.ga K p.1) He.veBase "ValueError.__new__" = true
  kp : PySem.W.keepIn K (.ref (He.ga K p.1)) = true
  sub : PySem.W.subIn K (.ref (He.ga K p.1)) (.type "BaseException") = some true
  ty : PySem.W.typeIn K (.ref (He.ga K p.1)) = some (.type "type")
  cc : ExcC K (He.ga K p.1)
  exm : ∀ q ∈ cl, PySem.W.exmOne K (.ref (He.ga K p.1)) (.ref (He.ga K q.1)) = some (decide (q.1 ∈ p.2))
  kit : ∀ q ∈ cl, PySem.W.kitOne K (.ref (He.ga K p.1)) (.ref (He.ga K q.1)) = some (decide (q.1 ∈ p.2))
  kitV : PySem.W.kitOne K (.ref (He.ga K p.1)) (.type "ValueError") = some (decide (("ValueError" : Str) ∈ p.2))
abbrev kx (X : Cx) : KX := ⟨X.K, ExcAt X⟩
/-- where no exception is caught -/
abbrev k0 (K : PySem.W.Frag) : KX := ⟨K, fun _ _ => False⟩
theorem kx_calm {X : Cx} (h : X.calm = true) : kx X = k0 X.K := by
  have : ExcAt X = fun _ _ => False := by
    funext x a
    refine propext ⟨fun ⟨X0, oe, pn, e, _⟩ => ?_, fun z => z.elim⟩
    rw [e] at h
    cases h
  show KX.mk X.K (ExcAt X) = _
  rw [this]

/-! ### outcomes -/
def Post {α : Type} (r : Res α) (ok : α → MH → Prop) (ex : Exc → MH → Prop) : Prop := match r with
  | .ok a m => ok a m
  | .exc x m => ex x m
  | .fail => False
theorem Post.bind {α β : Type} {r : Res α} {f : α → MH → Res β} {ok : β → MH → Prop} {ex : Exc → MH → Prop} (h : Post (r.bind f) ok ex) : Post r (fun a m => Post (f a m) ok ex) ex := by
  cases r <;> exact h
theorem Post.imp {α : Type} {r : Res α} {ok ok' : α → MH → Prop} {ex ex' : Exc → MH → Prop} (h : Post r ok ex) (h1 : ∀ a m, ok a m → ok' a m) (h2 : ∀ x m, ex x m → ex' x m) : Post r ok' ex' := by
  cases r
  · exact h1 _ _ h
  · exact h2 _ _ h
  · exact h
theorem Post.of {α : Type} {o : Option α} {m : MH} {ok : α → MH → Prop} {ex : Exc → MH → Prop} (h : Post (Res.of o m) ok ex) : ∃ a, o = some a ∧ ok a m := by
  cases o with
  | none => exact h.elim
  | some a => exact ⟨a, rfl, h⟩

section
variable (K : KX) (rx : PySem.W.Frag → Exc → Value → Option Addr → Hp → Prop) (W : WX)
/-- what is wanted where it raises -/
abbrev Ex (b : Bs) (env : Env) (hd : List (D × V)) (G : Hp) (σ : L2.St) : Exc → MH → Prop := fun x m' => ∀ ρ' F' H' c dd, RS K b env hd G m' ρ' F' σ H' → rx K.k x c dd H' → W c dd σ H'
def SE (e : Env → MH → Res D) : TE := fun σ H Q => ∃ b env hd G m ρ F, RS K b env hd G m ρ F σ H ∧
  Post (e env m) (fun d m' => ∀ ρ' F' H' v, RS K b env ((d, v) :: hd) G m' ρ' F' σ H' → Q v H') (Ex K rx W b env hd G σ)
def ST (t : Env → MH → Res Bool) : TT := fun σ H Q => ∃ b env hd G m ρ F, RS K b env hd G m ρ F σ H ∧
  Post (t env m) (fun c m' => ∀ ρ' F' H', RS K b env hd G m' ρ' F' σ H' → Q c H') (Ex K rx W b env hd G σ)
def SA (l : Env → MH → Res (List D)) : TA := fun σ H Q => ∃ b env hd G m ρ F, RS K b env hd G m ρ F σ H ∧
  Post (l env m) (fun ds m' => ∀ ρ' F' H' vs, RS K b env (ds.zip vs ++ hd) G m' ρ' F' σ H' → ds.length = vs.length → Q vs H') (Ex K rx W b env hd G σ)
end
theorem RS.list {K : KX} {b : Bs} {env : Env} {hd : List (D × V)} {G : Hp} {m : MH} {ρ : Ro} {F : Hp} {σ : L2.St} {H : Hp} : ∀ {ds : List D} {vs : List V}, RS K b env (ds.zip vs ++ hd) G m ρ F σ H → ds.length = vs.length → RepL K F ρ m ds vs
  | [], [], _, _ => RepL.nil
  | [], _ :: _, _, e => by simp at e
  | _ :: _, [], _, e => by simp at e
  | d :: ds, v :: vs, R, e => .cons (R.hd (d, v) (by simp)) (RS.list (ds := ds) (vs := vs) (R.held fun p hp => by simp only [List.zip_cons_cons, List.cons_append]; exact List.mem_cons_of_mem _ hp) (by simpa using e))

theorem PE.weak {X : Cx} {e : Expr} {t t' : TE} (h : PE X e t') (k : ∀ σ H Q, t σ H Q → t' σ H Q) : PE X e t := ⟨fun pins s σ H Q I q => h.run pins s σ H Q I (k σ H Q q)⟩
theorem PT.weak {X : Cx} {e : Expr} {t t' : TT} (h : PT X e t') (k : ∀ σ H Q, t σ H Q → t' σ H Q) : PT X e t := ⟨fun pins s σ H Q I q => h.run pins s σ H Q I (k σ H Q q)⟩
theorem PW.weak {X : Cx} {e : Expr} {t t' : TT} (h : PW X e t') (k : ∀ σ H Q, t σ H Q → t' σ H Q) : PW X e t := ⟨fun wh pins s σ H Q I q => h.run wh pins s σ H Q I (k σ H Q q)⟩
theorem PA.weak {X : Cx} {e : List Expr} {t t' : TA} (h : PA X e t') (k : ∀ σ H Q, t σ H Q → t' σ H Q) : PA X e t := ⟨fun pos pins s σ H Q I q => h.run pos pins s σ H Q I (k σ H Q q)⟩
theorem PI.weak {X : Cx} {tg e : Expr} {t t' : TI} (h : PI X tg e t') (k : ∀ σ H Q, t σ H Q → t' σ H Q) : PI X tg e t := ⟨fun pins s σ H Q I q => h.run pins s σ H Q I (k σ H Q q)⟩
theorem PE.no {X : Cx} {e : Expr} {t : TE} (k : ∀ σ H Q, ¬ t σ H Q) : PE X e t := ⟨fun _ _ σ H Q _ q => (k σ H Q q).elim⟩
theorem PT.no {X : Cx} {e : Expr} {t : TT} (k : ∀ σ H Q, ¬ t σ H Q) : PT X e t := ⟨fun _ _ σ H Q _ q => (k σ H Q q).elim⟩
theorem PA.no {X : Cx} {e : List Expr} {t : TA} (k : ∀ σ H Q, ¬ t σ H Q) : PA X e t := ⟨fun _ _ _ σ H Q _ q => (k σ H Q q).elim⟩
theorem PI.no {X : Cx} {tg e : Expr} {t : TI} (k : ∀ σ H Q, ¬ t σ H Q) : PI X tg e t := ⟨fun _ _ σ H Q _ q => (k σ H Q q).elim⟩

/-! ### the written text's forms -/
def notStar : Expr → Bool
  | .Starred .. => false
  | _ => true
theorem star_ok {e : Expr} {es : List Expr} {env : PySem.Env} (h : notStar e = true) : starEach (e :: es) env = (false, eval e env) :: starEach es env := by
  cases e <;> first | rfl | cases h
theorem star_none {env : PySem.Env} {pos : Pos} : ∀ {es : List Expr}, es.all notStar = true → (backTo pos (starEach es env)).any (·.1) = false
  | [], _ => rfl
  | e :: es, h => by
    simp only [List.all_cons, Bool.and_eq_true] at h
    rw [star_ok h.1]
    show (false || (backTo pos (starEach es env)).any (·.1)) = false
    rw [star_none h.2]; rfl
/-- a test that asks its value -/
def plainTest : Expr → Bool
  | .UnaryOp .Not _ _ => false
  | .BoolOp .. => false
  | .IfExp .. => false
  | .Compare .. => false
  | _ => true
theorem test_ok {e : Expr} {env : PySem.Env} (h : plainTest e = true) : ∀ whole, isTrue e env whole = (do let v ← whole; standAt e.pos; holding [v] (truthy v)) := by
  intro whole
  cases e with
  | UnaryOp op x pos => cases op <;> first | rfl | cases h
  | _ => first | rfl | cases h
theorem notSet_ok {e : Expr} {env : PySem.Env} (h : (match e with | .Set .. => false | _ => true) = true) : ∀ x, foldedSetIterable e env x = pure x := by
  intro x
  cases e <;> first | rfl | cases h
def plainIx : Expr → Bool
  | .Slice .. => false
  | .Tuple .. => false
  | _ => true
theorem plainIx_ok {b : Expr} (h : plainIx b = true) : PlainIx b := by
  intro o i
  cases b <;> first | rfl | cases h


/-! ### operations by values -/
section
variable {X : Cx} {K : KX} {rx : PySem.W.Frag → Exc → Value → Option Addr → Hp → Prop} {W : WX} {e a b c : Expr} {fa fb fc : Env → MH → Res D} {pos : Pos}
theorem Rep.non_of {F : Hp} {ρ : Ro} {m : MH} {v : V} (h : Rep K F ρ m .non v) : v = .non := by unfold Rep at h; exact h
theorem Rep.bl_of {F : Hp} {ρ : Ro} {m : MH} {v : V} {x : Bool} (h : Rep K F ρ m (.bl x) v) : v = .bl x := by unfold Rep at h; exact h
theorem Rep.int_of {F : Hp} {ρ : Ro} {m : MH} {v : V} {x : Int} (h : Rep K F ρ m (.int x) v) : v = .int x := by unfold Rep at h; exact h
theorem Rep.str_of {F : Hp} {ρ : Ro} {m : MH} {v : V} {x : Str} (h : Rep K F ρ m (.str x) v) : v = .str x := by unfold Rep at h; exact h
theorem Rep.tup_of {F : Hp} {ρ : Ro} {m : MH} {v : V} {xs : List D} (h : Rep K F ρ m (.tup xs) v) : ∃ a vs, v = .ref a ∧ SqT K.k F a vs ∧ xs.length ≤ sizeLine ∧ RepL K F ρ m xs vs := by unfold Rep at h; exact h
theorem Rep.lst_of {F : Hp} {ρ : Ro} {m : MH} {v : V} {xs : List D} (h : Rep K F ρ m (.lst xs) v) : ∃ a vs, v = .ref a ∧ F a = some (.lst vs) ∧ xs.length ≤ sizeLine ∧ RepL K F ρ m xs vs := by unfold Rep at h; exact h
theorem Rep.ref_of {F : Hp} {ρ : Ro} {m : MH} {v : V} {l i : Nat} (h : Rep K F ρ m (.ref l i) v) : v = .ref (ρ l i) ∧ Lv m l i := by unfold Rep at h; exact h
theorem Rep.non {F : Hp} {ρ : Ro} {m : MH} : Rep K F ρ m .non .non := by unfold Rep; rfl
theorem Rep.bl {F : Hp} {ρ : Ro} {m : MH} (x : Bool) : Rep K F ρ m (.bl x) (.bl x) := by unfold Rep; rfl
theorem Rep.int {F : Hp} {ρ : Ro} {m : MH} (x : Int) : Rep K F ρ m (.int x) (.int x) := by unfold Rep; rfl
theorem Rep.str {F : Hp} {ρ : Ro} {m : MH} (x : Str) : Rep K F ρ m (.str x) (.str x) := by unfold Rep; rfl
theorem Rep.tup {F : Hp} {ρ : Ro} {m : MH} {a : Addr} {xs : List D} {vs : List V} (h : SqT K.k F a vs) (z : xs.length ≤ sizeLine) (r : RepL K F ρ m xs vs) : Rep K F ρ m (.tup xs) (.ref a) := by unfold Rep; exact ⟨a, vs, rfl, h, z, r⟩
theorem Rep.lst {F : Hp} {ρ : Ro} {m : MH} {a : Addr} {xs : List D} {vs : List V} (h : F a = some (.lst vs)) (z : xs.length ≤ sizeLine) (r : RepL K F ρ m xs vs) : Rep K F ρ m (.lst xs) (.ref a) := by unfold Rep; exact ⟨a, vs, rfl, h, z, r⟩
theorem Rep.ref {F : Hp} {ρ : Ro} {m : MH} {l i : Nat} (h : Lv m l i) : Rep K F ρ m (.ref l i) (.ref (ρ l i)) := by unfold Rep; exact ⟨rfl, h⟩

theorem Rep.scr_of {F : Hp} {ρ : Ro} {m : MH} {v : V} {xs : List D} (h : Rep K F ρ m (.scr xs) v) : ∃ a vs, v = .ref a ∧ SqL K.k F a vs ∧ xs.length ≤ sizeLine ∧ RepL K F ρ m xs vs := by unfold Rep at h; exact h
theorem Rep.scr {F : Hp} {ρ : Ro} {m : MH} {a : Addr} {xs : List D} {vs : List V} (h : SqL K.k F a vs) (z : xs.length ≤ sizeLine) (r : RepL K F ρ m xs vs) : Rep K F ρ m (.scr xs) (.ref a) := by unfold Rep; exact ⟨a, vs, rfl, h, z, r⟩
theorem Rep.dct_of {F : Hp} {ρ : Ro} {m : MH} {v : V} {ks : List Int} {xs : List D} (h : Rep K F ρ m (.dct ks xs) v) : ∃ a vs, v = .ref a ∧ F a = some (.dK ((ks.map Sum.inl).zip vs)) ∧ ks.length = xs.length ∧ RepL K F ρ m xs vs := by unfold Rep at h; exact h
theorem Rep.dct {F : Hp} {ρ : Ro} {m : MH} {a : Addr} {ks : List Int} {xs : List D} {vs : List V} (h : F a = some (.dK ((ks.map Sum.inl).zip vs))) (z : ks.length = xs.length) (r : RepL K F ρ m xs vs) : Rep K F ρ m (.dct ks xs) (.ref a) := by unfold Rep; exact ⟨a, vs, rfl, h, z, r⟩
theorem Rep.ins_of {F : Hp} {ρ : Ro} {m : MH} {v : V} {c : Str} {ns : List Str} {xs : List D} (h : Rep K F ρ m (.ins c ns xs) v) : ∃ a dx vs, v = .ref a ∧ F a = some (.ins (He.ga K.k c) dx (ns.zip vs)) ∧ ns.length = xs.length ∧ RepL K F ρ m xs vs := by unfold Rep at h; exact h
theorem Rep.ins {F : Hp} {ρ : Ro} {m : MH} {a dx : Addr} {c : Str} {ns : List Str} {xs : List D} {vs : List V} (h : F a = some (.ins (He.ga K.k c) dx (ns.zip vs))) (z : ns.length = xs.length) (r : RepL K F ρ m xs vs) : Rep K F ρ m (.ins c ns xs) (.ref a) := by unfold Rep; exact ⟨a, dx, vs, rfl, h, z, r⟩
theorem Rep.exc_of {F : Hp} {ρ : Ro} {m : MH} {v : V} {x : Exc} (h : Rep K F ρ m (.exc x) v) : ∃ a, v = .ref a ∧ K.ex x a := by unfold Rep at h; exact h
/-- what a rule by values is to give -/
def Op2R (K : KX) (f : D → D → MH → Res D) (r : R2) : Prop :=
  ∀ b env hd G m ρ F σ H x y v u (Q : VK) ex, RS K b env hd G m ρ F σ H → Rep K F ρ m x v → Rep K F ρ m y u →
    Post (f x y m) (fun d m' => ∀ ρ' F' H' v, RS K b env ((d, v) :: hd) G m' ρ' F' σ H' → Q v H') ex → r v u H Q
theorem se_bin {f : D → D → MH → Res D} {r : R2} (h : Op2R K f r) {σ : L2.St} {H : Hp} {Q : VK}
    (q : SE K rx W (fun v m => (fa v m).bind fun x m => (fb v m).bind fun y m => f x y m) σ H Q) : tOp r (SE K rx W fa) (SE K rx W fb) σ H Q := by
  obtain ⟨b, env, hd, G, m, ρ, F, R, p⟩ := q
  refine ⟨b, env, hd, G, m, ρ, F, R, p.bind.imp (fun x m1 p1 ρ1 F1 H1 v R1 => ?_) fun _ _ z => z⟩
  refine ⟨b, env, (x, v) :: hd, G, m1, ρ1, F1, R1, p1.bind.imp (fun y m2 p2 ρ2 F2 H2 u R2 => ?_) fun _ _ z ρ' F' H' c dd R' => z ρ' F' H' c dd (R'.held fun _ => List.mem_cons_of_mem _)⟩
  exact h b env hd G m2 ρ2 F2 σ H2 x y v u Q _ (R2.held fun _ z => List.mem_cons_of_mem _ (List.mem_cons_of_mem _ z)) (R2.hd (x, v) (by simp)) R2.top p2
theorem Rep.flat {F : Hp} {ρ : Ro} {m : MH} {d : D} (h : Fw.flat d = true) : Rep K F ρ m d (flatV' d) := by
  cases d <;> first | exact .non | exact .bl _ | exact .int _ | exact .str _ | cases h
theorem Rep.flat_of {F : Hp} {ρ : Ro} {m : MH} {d : D} {v : V} (r : Rep K F ρ m d v) (h : Fw.flat d = true) : v = flatV' d := by
  cases d <;> first | exact r.non_of | exact r.bl_of | exact r.int_of | exact r.str_of | cases h
/-- two ints, an int -/
theorem op2_ints {f : D → D → MH → Res D} {C : Int → Int → Prop} {g : Int → Int → D} {g' : Int → Int → V} (hfl : ∀ i j, flat (g i j) = true ∧ flatV' (g i j) = g' i j)
    (h : ∀ x y m d m', f x y m = .ok d m' → ∃ i j, x = .int i ∧ y = .int j ∧ C i j ∧ d = g i j ∧ m' = m) (hx : ∀ x y m e m', f x y m ≠ .exc e m') : Op2R K f (rI C g') := by
  intro b env hd G m ρ F σ H x y v u Q ex R rx ry p
  cases e : f x y m with
  | ok d m' =>
    rw [e] at p
    obtain ⟨i, j, rfl, rfl, hc, rfl, rfl⟩ := h _ _ _ _ _ e
    refine ⟨i, j, rx.int_of, ry.int_of, hc, ?_⟩
    rw [← (hfl i j).2]
    exact p ρ F H _ (R.hold (.flat (hfl i j).1))
  | exc => exact (hx _ _ _ _ _ e).elim
  | fail => rw [e] at p; exact p.elim
theorem op2_ints0 {f : D → D → MH → Res D} {g : Int → Int → D} {g' : Int → Int → V} (hfl : ∀ i j, flat (g i j) = true ∧ flatV' (g i j) = g' i j)
    (h : ∀ x y m d m', f x y m = .ok d m' → ∃ i j, x = .int i ∧ y = .int j ∧ d = g i j ∧ m' = m) (hx : ∀ x y m e m', f x y m ≠ .exc e m') : Op2R K f (rI0 g') := by
  intro b env hd G m ρ F σ H x y v u Q ex R rx ry p
  cases e : f x y m with
  | ok d m' =>
    rw [e] at p
    obtain ⟨i, j, rfl, rfl, rfl, rfl⟩ := h _ _ _ _ _ e
    refine ⟨i, j, rx.int_of, ry.int_of, ?_⟩
    rw [← (hfl i j).2]
    exact p ρ F H _ (R.hold (.flat (hfl i j).1))
  | exc => exact (hx _ _ _ _ _ e).elim
  | fail => rw [e] at p; exact p.elim
theorem arith_ints {o : Op2} {x y : D} {m : MH} {r : Res D} (h : arithI o x y m = r) (hr : r ≠ .fail) : ∃ i j, x = .int i ∧ y = .int j := by
  cases x <;> cases y <;> first | exact ⟨_, _, rfl, rfl⟩ | exact (hr h.symm).elim
theorem arith_exc {o : Op2} {x y : D} {m m' : MH} {e : Exc} : arithI o x y m ≠ .exc e m' := by
  intro h
  obtain ⟨i, j, rfl, rfl⟩ := arith_ints h (by simp)
  cases o <;> simp only [arithI] at h <;> first | cases h | (split at h <;> cases h)
def opOf : Op2 → Operator
  | .add => .Add | .sub => .Sub | .mul => .Mult | .fdiv => .FloorDiv | .mod => .Mod | .pow => .Pow
/-- the rule of an operation: ints; tuples, lists -/
def arR : Op2 → R2
  | .add => rI0 fun i j => .int (i + j)
  | .sub => rI0 fun i j => .int (i - j)
  | .mul => rI (fun i j => i.natAbs.log2 + j.natAbs.log2 < 1000000) fun i j => .int (i * j)
  | .fdiv => rI (fun _ j => 0 < j ∧ j.natAbs.log2 < 9000) fun i j => .int (i / j)
  | .mod => rI (fun _ j => 0 < j) fun i j => .int (i % j)
  | .pow => rI (fun i j => 0 ≤ j ∧ j ≤ 1000000 ∧ i.natAbs < 2 ^ 64) fun i j => .int (i ^ j.toNat)
def rCatS : R2 := fun x y H Q => ∃ i j, x = V.str i ∧ y = V.str j ∧ i.length + j.length ≤ sizeLine ∧ Q (V.str (i ++ j)) H
def rBI (g : Int → Int → Int) : R2 := fun x y H Q => ∃ b i, x = V.bl b ∧ y = V.int i ∧ Q (V.int (g (if b then 1 else 0) i)) H
def rIB (g : Int → Int → Int) : R2 := fun x y H Q => ∃ b i, x = V.int i ∧ y = V.bl b ∧ Q (V.int (g i (if b then 1 else 0))) H
theorem op_addBI {X : Cx} : OpR X (binaryOp .Add) (rBI (· + ·)) := by
  intro pins s σ H x y v u Q I rx ry ⟨b, i, ex, ey, q⟩
  subst ex ey
  obtain rfl : v = Value.bool b := rx
  obtain ⟨t, rfl⟩ := ry
  exact IntBool.add_bool_int ⟨.int _, H, I.tok _, ⟨_, rfl⟩, q⟩
theorem op_subBI {X : Cx} : OpR X (binaryOp .Sub) (rBI (· - ·)) := by
  intro pins s σ H x y v u Q I rx ry ⟨b, i, ex, ey, q⟩
  subst ex ey
  obtain rfl : v = Value.bool b := rx
  obtain ⟨t, rfl⟩ := ry
  exact IntBool.sub_bool_int ⟨.int _, H, I.tok _, ⟨_, rfl⟩, q⟩
theorem op_subIB {X : Cx} : OpR X (binaryOp .Sub) (rIB (· - ·)) := by
  intro pins s σ H x y v u Q I rx ry ⟨b, i, ex, ey, q⟩
  subst ex ey
  obtain rfl : u = Value.bool b := ry
  obtain ⟨t, rfl⟩ := rx
  exact IntBool.sub_int_bool ⟨.int _, H, I.tok _, ⟨_, rfl⟩, q⟩
def sqR (K : PySem.W.Frag) : Op2 → R2
  | .add => fun x y H Q => rCatA K x y H Q ∨ rCat x y H Q ∨ rCatS x y H Q ∨ rBI (· + ·) x y H Q
  | .sub => fun x y H Q => rBI (· - ·) x y H Q ∨ rIB (· - ·) x y H Q
  | .mul => fun x y H Q => rRep x y H Q ∨ rRep1 K x y H Q ∨ rRepT K x y H Q
  | _ => fun _ _ _ _ => False
theorem ar_op {X : Cx} (o : Op2) : OpR X (binaryOp (opOf o)) (arR o) := by
  cases o
  · exact op_add
  · exact op_sub
  · exact op_mulW
  · exact op_fdivW
  · exact op_mod
  · exact op_pow
theorem sq_op {X : Cx} (o : Op2) : OpR X (binaryOp (opOf o)) (sqR X.K o) := by
  have no : ∀ f, OpR X f (fun _ _ _ _ => False) := fun f _ _ _ _ _ _ _ _ _ _ _ _ h => h.elim
  cases o
  · exact op_catA.or (op_cat.or (op_add_str.or op_addBI))
  · exact op_subBI.or op_subIB
  · exact op_rep.or (op_rep1.or op_repT)
  · exact no _
  · exact no _
  · exact no _
theorem ar_rep (o : Op2) : Op2R K (arithI o) (arR o) := by
  cases o with
  | add =>
    refine op2_ints0 (g := fun i j => .int (i + j)) (fun _ _ => ⟨rfl, rfl⟩) (fun x y m d m' h => ?_) fun _ _ _ _ _ => arith_exc
    obtain ⟨i, j, rfl, rfl⟩ := arith_ints h (by simp)
    cases h; exact ⟨i, j, rfl, rfl, rfl, rfl⟩
  | sub =>
    refine op2_ints0 (g := fun i j => .int (i - j)) (fun _ _ => ⟨rfl, rfl⟩) (fun x y m d m' h => ?_) fun _ _ _ _ _ => arith_exc
    obtain ⟨i, j, rfl, rfl⟩ := arith_ints h (by simp)
    cases h; exact ⟨i, j, rfl, rfl, rfl, rfl⟩
  | mul =>
    refine op2_ints (g := fun i j => .int (i * j)) (fun _ _ => ⟨rfl, rfl⟩) (fun x y m d m' h => ?_) fun _ _ _ _ _ => arith_exc
    obtain ⟨i, j, rfl, rfl⟩ := arith_ints h (by simp)
    simp only [arithI] at h
    split at h <;> cases h
    exact ⟨i, j, rfl, rfl, by assumption, rfl, rfl⟩
  | fdiv =>
    refine op2_ints (g := fun i j => .int (i / j)) (fun _ _ => ⟨rfl, rfl⟩) (fun x y m d m' h => ?_) fun _ _ _ _ _ => arith_exc
    obtain ⟨i, j, rfl, rfl⟩ := arith_ints h (by simp)
    simp only [arithI] at h
    split at h <;> cases h
    exact ⟨i, j, rfl, rfl, by assumption, rfl, rfl⟩
  | mod =>
    refine op2_ints (g := fun i j => .int (i % j)) (fun _ _ => ⟨rfl, rfl⟩) (fun x y m d m' h => ?_) fun _ _ _ _ _ => arith_exc
    obtain ⟨i, j, rfl, rfl⟩ := arith_ints h (by simp)
    simp only [arithI] at h
    split at h <;> cases h
    exact ⟨i, j, rfl, rfl, by assumption, rfl, rfl⟩
  | pow =>
    refine op2_ints (g := fun i j => .int (i ^ j.toNat)) (fun _ _ => ⟨rfl, rfl⟩) (fun x y m d m' h => ?_) fun _ _ _ _ _ => arith_exc
    obtain ⟨i, j, rfl, rfl⟩ := arith_ints h (by simp)
    simp only [arithI] at h
    split at h <;> cases h
    exact ⟨i, j, rfl, rfl, by assumption, rfl, rfl⟩
end

/-! ### data, dicts of ints as keys among it -/
mutual
inductive Dq (K : PySem.W.Frag) (H : Hp) : V → PyData → Prop
  | non : Dq K H .non .none
  | bl (b : Bool) : Dq K H (.bl b) (.bool b)
  | int (i : Int) : Dq K H (.int i) (.int i)
  | str (x : Str) : Dq K H (.str x) (.str x)
  | lst {a : Addr} {xs : List V} {ds : List PyData} : SqL K H a xs → DqAll K H xs ds → Dq K H (.ref a) (.list ds)
  | tup {a : Addr} {xs : List V} {ds : List PyData} : SqT K H a xs → DqAll K H xs ds → Dq K H (.ref a) (.tuple ds)
  | dct {a : Addr} {ks : List Int} {xs : List V} {ds : List PyData} : H a = some (.dK ((ks.map Sum.inl).zip xs)) → ks.length = xs.length → DqAll K H xs ds → Dq K H (.ref a) (.dict ((ks.map .int).zip ds))
inductive DqAll (K : PySem.W.Frag) (H : Hp) : List V → List PyData → Prop
  | nil : DqAll K H [] []
  | cons {v : V} {vs : List V} {d : PyData} {ds : List PyData} : Dq K H v d → DqAll K H vs ds → DqAll K H (v :: vs) (d :: ds)
end
section
variable {K : PySem.W.Frag} {H : Hp}
mutual
theorem Dq.plain : ∀ {d : PyData} {v : V}, Dq K H v d → d.hasDict = false → Dp K H v d
  | _, _, .non, _ => .non
  | _, _, .bl b, _ => .bl b
  | _, _, .int i, _ => .int i
  | _, _, .str x, _ => .str x
  | _, _, .lst h1 h2, h => .lst h1 (DqAll.plain h2 (by simpa [PyData.hasDict] using h))
  | _, _, .tup h1 h2, h => .tup h1 (DqAll.plain h2 (by simpa [PyData.hasDict] using h))
  | _, _, .dct _ _ _, h => by simp [PyData.hasDict] at h
theorem DqAll.plain : ∀ {ds : List PyData} {vs : List V}, DqAll K H vs ds → PyData.hasDictAll ds = false → DpAll K H vs ds
  | _, _, .nil, _ => .nil
  | _, _, .cons h1 h2, h => by
    simp only [PyData.hasDictAll, Bool.or_eq_false_iff] at h
    exact .cons (h1.plain h.1) (h2.plain h.2)
end
theorem DqAll.length : ∀ {ds : List PyData} {vs : List V}, DqAll K H vs ds → vs.length = ds.length
  | _, _, .nil => rfl
  | _, _, .cons _ h => by simp [h.length]
end
theorem noListKv_zip : ∀ (ks : List Int) (ds : List PyData), ks.length = ds.length → noListKv ((ks.map PyData.int).zip ds) = true → noListAll ds = true
  | [], [], _, _ => rfl
  | [], _ :: _, h, _ => by simp at h
  | _ :: _, [], h, _ => by simp at h
  | k :: ks, d :: ds, h, q => by
    simp only [List.map_cons, List.zip_cons_cons, noListKv, Bool.and_eq_true] at q
    simp only [noListAll, Bool.and_eq_true]
    exact ⟨q.1, noListKv_zip ks ds (by simpa using h) q.2⟩
theorem key_reads {h : Heap} {P : Program} {w : World} : ∀ {es : List DictEntry} {ks : List Int} {vs : List V} {rs : List (Key × Value)}, KV ((ks.map Sum.inl).zip vs) rs → Pairs (mixKind P w) es rs → ks.length = vs.length →
    (∃ as, ReadsAll h (es.map (·.key)) (ks.map PyData.int) as ∧ as = []) ∧ Vals vs (es.map (·.val)) := by
  intro es ks
  induction ks generalizing es with
  | nil =>
    intro vs rs r q hl
    cases vs with
    | cons => simp at hl
    | nil =>
      cases r
      cases q
      exact ⟨⟨_, .nil, rfl⟩, .nil⟩
  | cons k ks ih =>
    intro vs rs r q hl
    cases vs with
    | nil => simp at hl
    | cons v vs =>
      cases r with
      | cons hk hr =>
        cases q with
        | cons hp hv hq =>
          obtain ⟨⟨as, i1, i2⟩, i3⟩ := ih hr hq (by simpa using hl)
          subst i2
          obtain ⟨hk1, hk2⟩ := hk
          rename_i q' rs' e es'
          have hp' : keyIs q'.1 e.key = true := hp
          rw [← hk1] at hp'
          rcases keyIs_shape hp' with ⟨i, t, e1, e2⟩ | ⟨x, t, e1, e2⟩
          · cases e1
            refine ⟨⟨[] ++ [], ?_, rfl⟩, ?_⟩
            · show ReadsAll h (e.key :: es'.map (·.key)) (PyData.int k :: ks.map PyData.int) _
              rw [e2]
              exact .cons (Reads.int k t) i1
            · show Vals (v :: vs) (e.val :: es'.map (·.val))
              rw [hv]
              exact .cons hk2 i3
          · cases e1
section
variable {X : Cx} {pins : List (Addr × Obj)} {σ : L2.St} {H : Hp} {s : Shared}
/-- the place of sys.modules holds a dict -/
def SmD (K : PySem.W.Frag) : Prop := ∃ o es ep, K.lookup sysModules = some o ∧ o.data = .dict es ep
mutual
theorem Dq.reads (I : Inv X pins σ H s) (sm : SmD X.K) : ∀ {d : PyData} {v : V}, Dq X.K H v d → ∀ u : Value, RelV v u → ∃ as, Reads s.heap u d as ∧ sysModules ∉ as
  | _, _, .non, u, r => by
    cases (show u = Value.none from r)
    exact ⟨[], Reads.none, by simp⟩
  | _, _, .bl b, u, r => by
    cases (show u = Value.bool b from r)
    exact ⟨[], Reads.bool b, by simp⟩
  | _, _, .int i, u, r => by
    obtain ⟨t, rfl⟩ := (show ∃ t, u = Value.int i t from r)
    exact ⟨[], Reads.int i t, by simp⟩
  | _, _, .str x, u, r => by
    obtain ⟨t, rfl⟩ := (show ∃ t, u = Value.str x t from r)
    exact ⟨[], Reads.str x t, by simp⟩
  | _, _, .lst hs ha, u, r => by
    cases r
    obtain ⟨its, rv, ⟨o, n, ho, hc, _, hd⟩, _⟩ := I.list hs
    obtain ⟨as, q, hn⟩ := DqAll.reads I sm ha its rv
    refine ⟨_, Reads.list ho hc hd q, ?_⟩
    simp only [List.mem_cons, not_or]
    refine ⟨fun e => ?_, hn⟩
    obtain ⟨o', es, ep, l, dd⟩ := sm
    have := I.kIn _ _ l
    rw [e, ho] at this
    cases this
    rw [hd] at dd
    cases dd
  | _, _, .tup hs ha, u, r => by
    cases r
    obtain ⟨its, rv, ⟨o, ho, hc, n, hd⟩, _⟩ := I.tuple hs
    obtain ⟨as, q, hn⟩ := DqAll.reads I sm ha its rv
    exact ⟨as, Reads.tuple ho hc hd q, hn⟩
  | _, _, .dct (a := a) (ks := ks) (xs := xs) (ds := ds) hs hl ha, u, r => by
    cases r
    obtain ⟨hz, hsm, vs, kv, o, es, ep, ho, hex, hdt, hk, hp, hnd⟩ := dk_of I.hok hs
    obtain ⟨⟨as, q1, q2⟩, q3⟩ := key_reads (h := s.heap) kv hp hl
    subst q2
    obtain ⟨bs, q4, hn⟩ := DqAll.reads I sm ha _ q3
    have hl2 : ks.length = ds.length := by rw [hl, ha.length]
    refine ⟨_, Reads.dict ho hex.1 hdt (as := []) (bs := bs) ?_ ?_, ?_⟩
    · rw [List.map_fst_zip (by simp [hl2])]
      exact q1
    · rw [List.map_snd_zip (by simp [hl2])]
      exact q4
    · simp only [List.append_nil, List.cons_append, List.nil_append, List.mem_cons, not_or]
      refine ⟨fun e => ?_, hn⟩
      rw [← e] at hsm
      simp at hsm
theorem DqAll.reads (I : Inv X pins σ H s) (sm : SmD X.K) : ∀ {ds : List PyData} {vs : List V}, DqAll X.K H vs ds → ∀ us : List Value, Vals vs us → ∃ as, ReadsAll s.heap us ds as ∧ sysModules ∉ as
  | _, _, .nil, _, r => by
    cases r
    exact ⟨[], .nil, by simp⟩
  | _, _, .cons h1 h2, _, r => by
    cases r with
    | cons r1 r2 =>
      obtain ⟨as, q1, n1⟩ := Dq.reads I sm h1 _ r1
      obtain ⟨bs, q2, n2⟩ := DqAll.reads I sm h2 _ r2
      refine ⟨_, .cons q1 q2, ?_⟩
      simp only [List.mem_append, not_or]
      exact ⟨n1, n2⟩
end
end
section
variable {K : KX} {F H : Hp} {ρ : Ro} {m : MH}
mutual
theorem dq_pd (fh : ∀ a o, F a = some o → H a = some o) : ∀ {d : D} {p : PyData} {v : V}, pd d = some p → Rep K F ρ m d v → Dq K.k H v p
  | .non, p, v, e, r => by simp only [pd] at e; cases e; cases r.non_of; exact .non
  | .bl x, p, v, e, r => by simp only [pd] at e; cases e; cases r.bl_of; exact .bl x
  | .int x, p, v, e, r => by simp only [pd] at e; cases e; cases r.int_of; exact .int x
  | .str x, p, v, e, r => by simp only [pd] at e; cases e; cases r.str_of; exact .str x
  | .tup xs, p, v, e, r => by
    simp only [pd] at e
    obtain ⟨ps, e1, rfl⟩ := Option.map_eq_some_iff.mp e
    obtain ⟨a, vs, rfl, q, z, rs⟩ := r.tup_of
    exact .tup (SqT.ext fh q) (dq_pdL fh e1 rs)
  | .lst xs, p, v, e, r => by
    simp only [pd] at e
    obtain ⟨ps, e1, rfl⟩ := Option.map_eq_some_iff.mp e
    obtain ⟨a, vs, rfl, q, z, rs⟩ := r.lst_of
    exact .lst (SqL.of (fh _ _ q)) (dq_pdL fh e1 rs)
  | .scr xs, p, v, e, r => by
    simp only [pd] at e
    obtain ⟨ps, e1, rfl⟩ := Option.map_eq_some_iff.mp e
    obtain ⟨a, vs, rfl, q, z, rs⟩ := r.scr_of
    exact .lst (SqL.ext fh q) (dq_pdL fh e1 rs)
  | .ref l i, p, v, e, r => by simp [pd] at e
  | .dct ks xs, p, v, e, r => by
    simp only [pd] at e
    obtain ⟨ps, e1, rfl⟩ := Option.map_eq_some_iff.mp e
    obtain ⟨a, vs, rfl, q, z, rs⟩ := r.dct_of
    exact .dct (fh _ _ q) (z.trans rs.length) (dq_pdL fh e1 rs)
  | .exc x, p, v, e, r => by simp [pd] at e
  | .ins _ _ _, p, v, e, r => by simp [pd] at e
  | .any, p, v, e, r => by simp [pd] at e
theorem dq_pdL (fh : ∀ a o, F a = some o → H a = some o) : ∀ {ds : List D} {ps : List PyData} {vs : List V}, pdL ds = some ps → RepL K F ρ m ds vs → DqAll K.k H vs ps
  | [], ps, vs, e, r => by
    simp only [pdL] at e; cases e
    unfold RepL at r; subst r; exact .nil
  | d :: ds, ps, vs, e, r => by
    simp only [pdL] at e
    unfold RepL at r
    obtain ⟨v, vr, rfl, r1, r2⟩ := r
    cases e1 : pd d with
    | none => rw [e1] at e; cases e
    | some p =>
      cases e2 : pdL ds with
      | none => rw [e1, e2] at e; cases e
      | some q =>
        rw [e1, e2] at e; cases e
        exact .cons (dq_pd fh e1 r1) (dq_pdL fh e2 r2)
end
theorem dq_dat (R : Rl K F ρ m H) {d : D} {p : PyData} {v : V} (e : dat m d = some p) (r : Rep K F ρ m d v) : Dq K.k H v p := by
  cases d with
  | ref l i =>
    obtain ⟨rfl, hl⟩ := r.ref_of
    unfold dat at e
    cases g : get m l i with
    | none => simp only [g] at e; cases e
    | some o =>
      cases o with
      | lst xs =>
        simp only [g] at e
        obtain ⟨ps, e1, rfl⟩ := Option.map_eq_some_iff.mp e
        obtain ⟨_, vs, hv, z, rs⟩ := R.ob l i _ g
        exact .lst (SqL.of hv) (dq_pdL R.fh e1 rs)
  | _ => exact dq_pd R.fh e r
theorem dp_dat (R : Rl K F ρ m H) {d : D} {p : PyData} {v : V} (e : dat m d = some p) (hs : SeqAt.shaped p = true) (r : Rep K F ρ m d v) : Dp K.k H v p := (dq_dat R e r).plain (PyData.hasDict_of_canLay _ (SeqAt.canLay_of_shaped hs))
/-- a list, a tuple that is read -/
theorem seq_ofT (R : Rl K F ρ m H) {d : D} {xs : List D} {v : V} (e : seqOf m d = some xs) (r : Rep K F ρ m d v) : ∃ a vs, v = .ref a ∧ (SqL K.k H a vs ∨ (SqT K.k H a vs ∧ ∃ ys, d = .tup ys)) ∧ xs.length ≤ sizeLine ∧ RepL K F ρ m xs vs := by
  cases d with
  | ref l i =>
    obtain ⟨rfl, hl⟩ := r.ref_of
    unfold seqOf at e
    cases g : get m l i with
    | none => simp only [g] at e; cases e
    | some o =>
      cases o with
      | lst ys =>
        simp only [g] at e; cases e
        obtain ⟨_, vs, hv, z, rs⟩ := R.ob l i _ g
        exact ⟨_, vs, rfl, .inl (SqL.of hv), z, rs⟩
  | tup ys =>
    simp only [seqOf] at e; cases e
    obtain ⟨a, vs, rfl, q, z, rs⟩ := r.tup_of
    exact ⟨a, vs, rfl, .inr ⟨SqT.ext R.fh q, _, rfl⟩, z, rs⟩
  | lst ys =>
    simp only [seqOf] at e; cases e
    obtain ⟨a, vs, rfl, q, z, rs⟩ := r.lst_of
    exact ⟨a, vs, rfl, .inl (SqL.of (R.fh _ _ q)), z, rs⟩
  | scr ys =>
    simp only [seqOf] at e; cases e
    obtain ⟨a, vs, rfl, q, z, rs⟩ := r.scr_of
    exact ⟨a, vs, rfl, .inl (SqL.ext R.fh q), z, rs⟩
  | _ => simp [seqOf] at e
theorem seq_of (R : Rl K F ρ m H) {d : D} {xs : List D} {v : V} (e : seqOf m d = some xs) (r : Rep K F ρ m d v) : ∃ a vs, v = .ref a ∧ (SqL K.k H a vs ∨ SqT K.k H a vs) ∧ xs.length ≤ sizeLine ∧ RepL K F ρ m xs vs := by
  obtain ⟨a, vs, e, h, z, rs⟩ := seq_ofT R e r
  exact ⟨a, vs, e, h.imp id And.left, z, rs⟩
/-- a tracked list -/
theorem lst_of (R : Rl K F ρ m H) {d : D} {xs : List D} {v : V} (e : lstOf m d = some xs) (r : Rep K F ρ m d v) : ∃ a vs, v = .ref a ∧ H a = some (.lst vs) ∧ xs.length ≤ sizeLine ∧ RepL K F ρ m xs vs := by
  cases d with
  | tup => cases e
  | scr => cases e
  | lst ys =>
    have e : some ys = some xs := e
    cases e
    obtain ⟨a, vs, rfl, q, z, rs⟩ := r.lst_of
    exact ⟨a, vs, rfl, R.fh _ _ q, z, rs⟩
  | ref l i =>
    obtain ⟨rfl, hl⟩ := r.ref_of
    have e : seqOf m (.ref l i) = some xs := e
    unfold seqOf at e
    cases g : get m l i with
    | none => simp only [g] at e; cases e
    | some o =>
      cases o with
      | lst ys =>
        simp only [g] at e; cases e
        obtain ⟨_, vs, hv, z, rs⟩ := R.ob l i _ g
        exact ⟨_, vs, rfl, hv, z, rs⟩
  | _ => simp [lstOf, seqOf] at e
end

theorem noF {F H : Hp} (fh : ∀ a o, F a = some o → H a = some o) {p : Addr} (hp : H p = none) : F p = none := by
  cases e : F p with
  | none => rfl
  | some u => rw [fh _ _ e] at hp; cases hp
theorem RepL.rep {K : KX} {F : Hp} {ρ : Ro} {m : MH} {ds : List D} {vs : List V} (h : RepL K F ρ m ds vs) : ∀ k, RepL K F ρ m (List.replicate k ds).flatten (List.replicate k vs).flatten
  | 0 => .nil
  | k + 1 => by
    simp only [List.replicate_succ, List.flatten_cons]
    exact h.append (RepL.rep h k)
theorem flat_len {α : Type} (xs : List α) (k : Nat) : (List.replicate k xs).flatten.length = xs.length * k := by
  simp [Nat.mul_comm]
/-- a value and what is got of it, a new list -/
theorem new_lst {K : KX} {b : Bs} {env : Env} {hd : List (D × V)} {G : Hp} {m : MH} {ρ : Ro} {F : Hp} {σ : L2.St} {H : Hp} {ds : List D} {vs : List V} (R : RS K b env hd G m ρ F σ H) (z : ds.length ≤ sizeLine) (r : RepL K F ρ m ds vs) {p : Addr} (hp : H p = none) :
    RS K b env ((.lst ds, .ref p) :: hd) G m ρ (upd F p (.lst vs)) σ (upd H p (.lst vs)) := (R.newF (.lst vs) hp).hold (.lst upd_same z (r.ext (.newF (noF R.rl.fh hp))))
theorem new_tup {K : KX} {b : Bs} {env : Env} {hd : List (D × V)} {G : Hp} {m : MH} {ρ : Ro} {F : Hp} {σ : L2.St} {H : Hp} {ds : List D} {vs : List V} (R : RS K b env hd G m ρ F σ H) (z : ds.length ≤ sizeLine) (r : RepL K F ρ m ds vs) {p : Addr} (hp : H p = none) :
    RS K b env ((.tup ds, .ref p) :: hd) G m ρ (upd F p (.tup vs)) σ (upd H p (.tup vs)) := (R.newF (.tup vs) hp).hold (.tup (SqT.of upd_same) z (r.ext (.newF (noF R.rl.fh hp))))
theorem RepL.nil_iff {K : KX} {F : Hp} {ρ : Ro} {m : MH} {ds : List D} {vs : List V} (h : RepL K F ρ m ds vs) : vs = [] ↔ ds = [] := by
  have := h.length
  constructor
  · intro e; subst e; exact List.length_eq_zero_iff.mp this
  · intro e; subst e; exact List.length_eq_zero_iff.mp this.symm
theorem catL_rep {K : KX} {b : Bs} {env : Env} {hd : List (D × V)} {G : Hp} {m : MH} {ρ : Ro} {F : Hp} {σ : L2.St} {H : Hp} {x y d : D} {v u : V} {Q : VK} (R : RS K b env hd G m ρ F σ H) (r1 : Rep K F ρ m x v) (r2 : Rep K F ρ m y u)
    (e : ((lstOf m x).bind fun xs => (lstOf m y).bind fun ys => if xs.length + ys.length ≤ sizeLine then some (D.lst (xs ++ ys)) else none) = some d) (q : ∀ ρ' F' H' v, RS K b env ((d, v) :: hd) G m ρ' F' σ H' → Q v H') : rCat v u H Q := by
  obtain ⟨xs, e1, e⟩ := Option.bind_eq_some_iff.mp e
  obtain ⟨ys, e2, e⟩ := Option.bind_eq_some_iff.mp e
  split at e
  · rename_i z
    cases e
    obtain ⟨a1, vs, rfl, h1, z1, rr1⟩ := lst_of R.rl e1 r1
    obtain ⟨a2, us, rfl, h2, z2, rr2⟩ := lst_of R.rl e2 r2
    have l1 := rr1.length
    have l2 := rr2.length
    exact ⟨a1, a2, vs, us, rfl, rfl, h1, h2, by omega, fun p hp => q _ _ _ _ (new_lst R (by simpa using z) (rr1.append rr2) hp)⟩
  · cases e
theorem sq_rep {K : KX} (o : Op2) : Op2R K (fun x y m => .of (seqOp o x y m) m) (sqR K.k o) := by
  intro b env hd G m ρ F σ H x y v u Q ex R r1 r2 p
  obtain ⟨d, e, q⟩ := p.of
  cases o with
  | add =>
    by_cases ht : ∃ xs ys, x = .tup xs ∧ y = .tup ys
    · obtain ⟨xs, ys, rfl, rfl⟩ := ht
      simp only [seqOp] at e
      split at e
      · rename_i z
        cases e
        obtain ⟨a1, vs, rfl, h1, z1, rr1⟩ := r1.tup_of
        obtain ⟨a2, us, rfl, h2, z2, rr2⟩ := r2.tup_of
        have l1 := rr1.length
        have l2 := rr2.length
        refine .inl ⟨a1, a2, vs, us, rfl, rfl, SqT.ext R.rl.fh h1, SqT.ext R.rl.fh h2, by omega, fun e => ?_, fun _ e => ?_, fun _ _ p hp => q _ _ _ _ (new_tup R (by simpa using z) (rr1.append rr2) hp)⟩
        · have := rr1.nil_iff.mp e
          subst this
          exact q ρ F H _ (R.hold r2)
        · have := rr2.nil_iff.mp e
          subst this
          rw [List.append_nil] at q
          exact q ρ F H _ (R.hold r1)
      · cases e
    · by_cases hst : ∃ a b, x = .str a ∧ y = .str b
      · obtain ⟨i, j, rfl, rfl⟩ := hst
        simp only [seqOp] at e
        split at e
        · rename_i z
          cases e
          exact .inr (.inr (.inl ⟨i, j, r1.str_of, r2.str_of, z, q ρ F H _ (R.hold (.str _))⟩))
        · cases e
      · by_cases hbi : ∃ b i, x = .bl b ∧ y = .int i
        · obtain ⟨b, i, rfl, rfl⟩ := hbi
          cases e
          exact .inr (.inr (.inr ⟨b, i, r1.bl_of, r2.int_of, q ρ F H _ (R.hold (.int _))⟩))
        refine .inr (.inl (catL_rep R r1 r2 ?_ q))
        simp only [seqOp] at e
        split at e
        · exact absurd ⟨_, _, rfl, rfl⟩ ht
        · exact absurd ⟨_, _, rfl, rfl⟩ hst
        · exact absurd ⟨_, _, rfl, rfl⟩ hbi
        · exact e
  | sub =>
    simp only [seqOp] at e
    split at e
    · cases e
      exact .inl ⟨_, _, r1.bl_of, r2.int_of, q ρ F H _ (R.hold (.int _))⟩
    · cases e
      exact .inr ⟨_, _, r1.int_of, r2.bl_of, q ρ F H _ (R.hold (.int _))⟩
    · cases e
  | mul =>
    unfold seqOp at e
    cases y with
    | int k =>
      simp only at e
      by_cases ht : ∃ xs, x = .tup xs
      · obtain ⟨xs, rfl⟩ := ht
        simp only at e
        split at e
        · rename_i z
          cases e
          obtain ⟨a1, vs, rfl, h1, z1, rr1⟩ := r1.tup_of
          have l1 := rr1.length
          have h1' := SqT.ext R.rl.fh h1
          by_cases hk : vs = [] ∨ k = 1
          · refine .inr (.inl ⟨a1, k, vs, rfl, r2.int_of, h1', hk, by omega, by omega, ?_⟩)
            have : (List.replicate k.toNat xs).flatten = xs := by
              rcases hk with hk | hk
              · have := rr1.nil_iff.mp hk
                subst this
                simp
              · subst hk
                simp
            rw [this] at q
            exact q ρ F H _ (R.hold r1)
          · simp only [not_or] at hk
            exact .inr (.inr ⟨a1, k, vs, rfl, r2.int_of, h1', hk.1, by omega, by omega, by omega, fun p hp => q _ _ _ _ (new_tup R (by
              rw [flat_len]
              have : xs.length * k.toNat ≤ 1000 * 1000 := Nat.mul_le_mul z.2 (by omega)
              exact Nat.le_trans this (by decide)) (rr1.rep k.toNat) hp)⟩)
        · cases e
      · have e : ((lstOf m x).bind fun xs => if (-(2 ^ 63) ≤ k ∧ k < 2 ^ 63) ∧ xs.length * k.toNat ≤ sizeLine then some (D.lst (List.replicate k.toNat xs).flatten) else none) = some d := by
          split at e
          · exact absurd ⟨_, rfl⟩ ht
          · exact e
        obtain ⟨xs, e1, e⟩ := Option.bind_eq_some_iff.mp e
        split at e
        · rename_i z
          cases e
          obtain ⟨a1, vs, rfl, h1, z1, rr1⟩ := lst_of R.rl e1 r1
          have l1 := rr1.length
          exact .inl ⟨a1, k, vs, rfl, r2.int_of, h1, z.1.1, z.1.2, by rw [← l1]; exact z.2, fun p hp => q _ _ _ _ (new_lst R (by rw [flat_len]; exact z.2) (rr1.rep k.toNat) hp)⟩
        · cases e
    | _ => cases e
  | _ => simp [seqOp] at e
section
variable {X : Cx} {rx : PySem.W.Frag → Exc → Value → Option Addr → Hp → Prop} {W : WX} {a b : Expr} {fa fb : Env → MH → Res D} {pos : Pos}
theorem pe_bin (o : Op2) (ha : PE X a (SE (kx X) rx W fa)) (hb : PE X b (SE (kx X) rx W fb)) : PE X (.BinOp a (opOf o) b pos) (SE (kx X) rx W fun v m => (fa v m).bind fun x m => (fb v m).bind fun y m => arith o x y m) := by
  refine PE.weak (pe_op ((ar_op o).or (sq_op o)) ha hb) fun σ H Q q => se_bin (fun b env hd G m ρ F σ H x y v u Q ex R r1 r2 p => ?_) q
  unfold arith at p
  split at p
  · exact .inl (ar_rep (K := kx X) o b env hd G m ρ F σ H x y v u Q ex R r1 r2 p)
  · exact .inr (sq_rep (K := kx X) o b env hd G m ρ F σ H x y v u Q ex R r1 r2 p)
end

section
variable {X : Cx} {K : KX} {rx : PySem.W.Frag → Exc → Value → Option Addr → Hp → Prop} {W : WX} {e a b c : Expr} {fa fb fc : Env → MH → Res D} {pos : Pos}
/-- a comparison's answer -/
theorem op2_cmp {g : MH → D → D → Option Bool} {r : R2}
    (h : ∀ m F ρ H x y v u (k : Bool) (Q : VK), Rl K F ρ m H → Rep K F ρ m x v → Rep K F ρ m y u → g m x y = some k → Q (.bl k) H → r v u H Q) :
    Op2R K (fun x y m => .of ((g m x y).map .bl) m) r := by
  intro b env hd G m ρ F σ H x y v u Q ex R rx ry p
  obtain ⟨d, e1, q⟩ := p.of
  obtain ⟨k, e2, rfl⟩ := Option.map_eq_some_iff.mp e1
  exact h m F ρ H x y v u k Q R.rl rx ry e2 (q ρ F H _ (R.hold (.bl k)))
theorem eqS_some {m : MH} {x y : D} {k : Bool} (h : eqS m x y = some k) : ∃ a b, dat m x = some a ∧ dat m y = some b ∧ SeqAt.shaped a = true ∧ SeqAt.shaped b = true ∧ k = PyData.eqv a b := by
  unfold eqS at h
  cases e1 : dat m x with
  | none => rw [e1] at h; cases h
  | some a =>
    cases e2 : dat m y with
    | none => rw [e1, e2] at h; cases h
    | some b =>
      rw [e1, e2] at h
      simp only at h
      split at h
      · rename_i z
        cases h
        simp only [Bool.and_eq_true] at z
        exact ⟨a, b, rfl, rfl, z.1, z.2, rfl⟩
      · cases h
theorem eqD_some {m : MH} {x y : D} {k : Bool} (h : eqD m x y = some k) : (∃ a b, x = .str a ∧ y = .str b ∧ k = decide (a = b)) ∨ (∃ a b, dat m x = some a ∧ dat m y = some b ∧ (SeqAt.shaped a = true ∧ SeqAt.shaped b = true ∧ k = PyData.eqv a b)) ∨ ∃ xs, x = .tup xs ∧ y = .tup [] ∧ k = decide (xs = []) := by
  unfold eqD at h
  split at h
  · rename_i k' e
    cases h
    cases x <;> cases y <;> first | (simp only [strs2, Option.some.injEq] at e; exact .inl ⟨_, _, rfl, rfl, e.symm⟩) | cases e
  · cases e : eqS m x y with
    | some k' =>
      rw [e, orN_some] at h
      cases h
      obtain ⟨a, b, e1, e2, e3, e4, e5⟩ := eqS_some e
      exact .inr (.inl ⟨a, b, e1, e2, e3, e4, e5⟩)
    | none =>
      rw [e] at h
      have h : eqN x y = some k := h
      unfold eqN at h
      split at h
      · cases h
        exact .inr (.inr ⟨_, rfl, rfl, rfl⟩)
      · cases h
theorem isNon_rep {F : Hp} {ρ : Ro} {m : MH} {d : D} {v : V} (r : Rep K F ρ m d v) (ha : isAny d = false) : decide (v = .non) = isNon d := by
  cases d with
  | non => cases r.non_of; rfl
  | bl => cases r.bl_of; rfl
  | int => cases r.int_of; rfl
  | str => cases r.str_of; rfl
  | tup => obtain ⟨a, vs, rfl, _⟩ := r.tup_of; rfl
  | lst => obtain ⟨a, vs, rfl, _⟩ := r.lst_of; rfl
  | ref => obtain ⟨rfl, _⟩ := r.ref_of; rfl
  | dct => obtain ⟨a, vs, rfl, _⟩ := r.dct_of; rfl
  | scr => obtain ⟨a, vs, rfl, _⟩ := r.scr_of; rfl
  | exc => obtain ⟨a, rfl, _⟩ := r.exc_of; rfl
  | ins => obtain ⟨a, dx, vs, rfl, _⟩ := r.ins_of; rfl
  | any => cases ha
def cmOf : Cm → CmpOp
  | .eq => .Eq | .ne => .NotEq | .lt => .Lt | .le => .LtE | .gt => .Gt | .ge => .GtE | .is_ => .Is | .isnot => .IsNot
theorem cmOf_in (o : Cm) (b : Expr) : behindInMarks (cmOf o) b = false := by cases o <;> exact nomark b (by decide) (by decide)
theorem cmp_ints {o : Cm} {m : MH} {x y : D} {k : Bool} (h : compare m o x y = some k) (ho : o = .lt ∨ o = .le ∨ o = .gt ∨ o = .ge) : ∃ i j, x = .int i ∧ y = .int j ∧ cmpI o i j = some k := by
  rcases ho with rfl | rfl | rfl | rfl <;> (cases x <;> cases y <;> first | exact ⟨_, _, rfl, rfl, h⟩ | (simp [compare] at h))
/-- any tuple and the empty one -/
def rEqN (K : PySem.W.Frag) : R2 := fun x y H Q => ∃ a b xs, x = .ref a ∧ y = .ref b ∧ SqT K H a xs ∧ SqT K H b [] ∧ Q (.bl (decide (xs = []))) H
def rNeN (K : PySem.W.Frag) : R2 := fun x y H Q => ∃ a b xs, x = .ref a ∧ y = .ref b ∧ SqT K H a xs ∧ SqT K H b [] ∧ Q (.bl (!decide (xs = []))) H
theorem op_eqN {X : Cx} (hu : X.A.units + 64 < cLine) : OpR X (compareOp .Eq) (rEqN X.K) := by
  intro pins s σ H x y v u Q I rx ry ⟨a, b, xs, ex, ey, hx, hy, q⟩
  subst ex ey
  obtain rfl : v = Value.ref a := rx
  obtain rfl : u = Value.ref b := ry
  obtain ⟨its, r1, t1, _⟩ := I.tuple hx
  obtain ⟨its2, r2, t2, _⟩ := I.tuple hy
  cases r2
  refine SeqAt.RcAt.tuples (e := fun _ => true) t1 t2 (by omega) (fun j h1 h2 => absurd h2 (by simp)) X.prog X.w X.xe _ ⟨.bl (decide (xs = [])), H, I, ?_, q⟩
  show Value.bool _ = Value.bool _
  congr 1
  cases r1 <;> simp
theorem op_neN {X : Cx} (hu : X.A.units + 64 < cLine) : OpR X (compareOp .NotEq) (rNeN X.K) := by
  intro pins s σ H x y v u Q I rx ry ⟨a, b, xs, ex, ey, hx, hy, q⟩
  subst ex ey
  obtain rfl : v = Value.ref a := rx
  obtain rfl : u = Value.ref b := ry
  obtain ⟨its, r1, t1, _⟩ := I.tuple hx
  obtain ⟨its2, r2, t2, _⟩ := I.tuple hy
  cases r2
  refine SeqAt.RcNeAt.tuples (e := fun _ => true) t1 t2 (by omega) (fun j h1 h2 => absurd h2 (by simp)) X.prog X.w X.xe _ ⟨.bl (!decide (xs = [])), H, I, ?_, q⟩
  show Value.bool _ = Value.bool _
  congr 1
  cases r1 <;> simp
/-- the rule of a comparison by values -/
def cmR (K : PySem.W.Frag) : Cm → R2
  | .eq => fun x y H Q => rEq x y H Q ∨ rEqD K x y H Q ∨ rEqN K x y H Q
  | .ne => fun x y H Q => rNe x y H Q ∨ rNeD K x y H Q ∨ rNeN K x y H Q
  | .lt => rI0 fun i j => .bl (decide (i < j))
  | .le => rI0 fun i j => .bl (decide (i ≤ j))
  | .gt => rI0 fun i j => .bl (decide (j < i))
  | .ge => rI0 fun i j => .bl (decide (j ≤ i))
  | .is_ => fun x y H Q => (y = .non ∧ Q (.bl (decide (x = .non))) H) ∨ rIsB x y H Q
  | .isnot => fun x y H Q => (y = .non ∧ Q (.bl (!decide (x = .non))) H) ∨ rNotB x y H Q
theorem cm_op {X : Cx} (hu : X.A.units + 64 < cLine) (o : Cm) : OpR X (compareOp (cmOf o)) (cmR X.K o) := by
  cases o
  · exact op_eq.or ((op_eqD hu).or (op_eqN hu))
  · exact op_ne.or ((op_neD hu).or (op_neN hu))
  · exact op_lt
  · exact op_le
  · exact op_gt
  · exact op_ge
  · exact op_isN.or op_isBl
  · exact op_notN.or op_notBl
theorem isD_some {x y : D} {k : Bool} (h : isD x y = some k) : (y = .non ∧ k = isNon x ∧ isAny x = false) ∨ ∃ a b, x = .bl a ∧ y = .bl b ∧ k = decide (a = b) := by
  cases y with
  | non =>
    unfold isD at h
    simp only at h
    split at h
    · cases h
    · rename_i ha
      cases h
      exact .inl ⟨rfl, rfl, by simpa using ha⟩
  | bl b =>
    cases x with
    | bl a => cases h; exact .inr ⟨a, b, rfl, rfl, rfl⟩
    | _ => cases h
  | _ => cases h
theorem cm_rep (o : Cm) : Op2R K (fun x y m => .of ((compare m o x y).map .bl) m) (cmR K.k o) := by
  refine op2_cmp (g := fun m x y => compare m o x y) fun m F ρ H x y v u k Q R rx ry h q => ?_
  cases o with
  | eq =>
    rcases eqD_some h with ⟨a, b, rfl, rfl, rfl⟩ | ⟨a, b, e1, e2, s1, s2, rfl⟩ | ⟨xs, rfl, rfl, rfl⟩
    · cases rx.str_of
      cases ry.str_of
      exact .inl ⟨rfl, by simpa using q⟩
    · exact .inr (.inl ⟨a, b, dp_dat R e1 s1 rx, dp_dat R e2 s2 ry, s1, s2, q⟩)
    · obtain ⟨a, vs, rfl, h1, z1, r1⟩ := rx.tup_of
      obtain ⟨b, us, rfl, h2, z2, r2⟩ := ry.tup_of
      have : us = [] := by unfold RepL at r2; exact r2
      subst this
      refine .inr (.inr ⟨a, b, vs, rfl, rfl, SqT.ext R.fh h1, SqT.ext R.fh h2, ?_⟩)
      rw [show decide (vs = []) = decide (xs = []) by have := r1.length; cases vs <;> cases xs <;> simp at this ⊢]
      exact q
  | ne =>
    obtain ⟨k', h1, rfl⟩ := Option.map_eq_some_iff.mp (show (eqD m x y).map (!·) = some k from h)
    rcases eqD_some h1 with ⟨a, b, rfl, rfl, rfl⟩ | ⟨a, b, e1, e2, s1, s2, rfl⟩ | ⟨xs, rfl, rfl, rfl⟩
    · cases rx.str_of
      cases ry.str_of
      exact .inl ⟨rfl, by simpa using q⟩
    · exact .inr (.inl ⟨a, b, dp_dat R e1 s1 rx, dp_dat R e2 s2 ry, s1, s2, q⟩)
    · obtain ⟨a, vs, rfl, h1, z1, r1⟩ := rx.tup_of
      obtain ⟨b, us, rfl, h2, z2, r2⟩ := ry.tup_of
      have : us = [] := by unfold RepL at r2; exact r2
      subst this
      refine .inr (.inr ⟨a, b, vs, rfl, rfl, SqT.ext R.fh h1, SqT.ext R.fh h2, ?_⟩)
      rw [show decide (vs = []) = decide (xs = []) by have := r1.length; cases vs <;> cases xs <;> simp at this ⊢]
      exact q
  | is_ =>
    rcases isD_some (show isD x y = some k from h) with ⟨rfl, rfl, hy⟩ | ⟨a, b, rfl, rfl, rfl⟩
    · refine .inl ⟨ry.non_of, ?_⟩
      rw [isNon_rep rx hy]
      exact q
    · exact .inr ⟨a, b, rx.bl_of, ry.bl_of, q⟩
  | isnot =>
    obtain ⟨k', h1, rfl⟩ := Option.map_eq_some_iff.mp (show (isD x y).map (!·) = some k from h)
    rcases isD_some h1 with ⟨rfl, rfl, hy⟩ | ⟨a, b, rfl, rfl, rfl⟩
    · refine .inl ⟨ry.non_of, ?_⟩
      rw [isNon_rep rx hy]
      exact q
    · exact .inr ⟨a, b, rx.bl_of, ry.bl_of, q⟩
  | _ =>
    obtain ⟨i, j, rfl, rfl, hc⟩ := cmp_ints h (by simp)
    simp only [cmpI] at hc; cases hc
    exact ⟨i, j, rx.int_of, ry.int_of, q⟩
theorem pe_cm (hu : X.A.units + 64 < cLine) (o : Cm) (ha : PE X a (SE (kx X) rx W fa)) (hb : PE X b (SE (kx X) rx W fb)) : PE X (.Compare a [cmOf o] [b] pos) (SE (kx X) rx W fun v m => (fa v m).bind fun x m => (fb v m).bind fun y m => .of ((compare m o x y).map .bl) m) :=
  PE.weak (pe_cmpR (cm_op hu o) ha hb (cmOf_in o b)) fun σ H Q q => se_bin (cm_rep o) q
/-- a value's test -/
theorem st_of {fe : Env → MH → Res D} {σ : L2.St} {H : Hp} {Q : Bool → Hp → Prop} (q : ST K rx W (fun v m => (fe v m).bind fun x m => .of (truth m x) m) σ H Q) : SE K rx W fe σ H fun x H1 => ∃ k, x = .bl k ∧ Q k H1 := by
  obtain ⟨b, env, hd, G, m, ρ, F, R, p⟩ := q
  refine ⟨b, env, hd, G, m, ρ, F, R, p.bind.imp (fun x m1 p1 ρ1 F1 H1 v R1 => ?_) fun _ _ z => z⟩
  obtain ⟨k, e1, q⟩ := p1.of
  cases x with
  | bl k' =>
    cases e1
    exact ⟨k, R1.top.bl_of, q ρ1 F1 H1 (R1.held fun _ => List.mem_cons_of_mem _)⟩
  | _ => cases e1
theorem pt_cm (hu : X.A.units + 64 < cLine) (o : Cm) (ha : PE X a (SE (kx X) rx W fa)) (hb : PE X b (SE (kx X) rx W fb)) :
    PT X (.Compare a [cmOf o] [b] pos) (ST (kx X) rx W fun v m => ((fa v m).bind fun x m => (fb v m).bind fun y m => .of ((compare m o x y).map .bl) m).bind fun x m => .of (truth m x) m) :=
  PT.weak (pt_cmpR (cm_op hu o) ha hb (cmOf_in o b)) fun σ H Q q => se_bin (rx := rx) (W := W) (cm_rep o) (st_of q)
theorem pt_plain {fe : Env → MH → Res D} (h : PE X e (SE (kx X) rx W fe)) (hp : plainTest e = true) : PT X e (ST (kx X) rx W fun v m => (fe v m).bind fun x m => .of (truth m x) m) :=
  PT.weak (pt_val h (test_ok hp)) fun σ H Q q => st_of q
end
end Fw

set_option Elab.async false
set_option linter.all false
set_option maxRecDepth 100000
set_option maxHeartbeats 1000000
set_option autoImplicit false
/-! ## Fw3: expressions, the other forms -/
namespace Fw
open PySem PySem.Spec PyProof.Rows L2

section
variable {X : Cx} {K : KX} {rx : PySem.W.Frag → Exc → Value → Option Addr → Hp → Prop} {W : WX} {e a b c : Expr} {es : List Expr} {fa fb fc : Env → MH → Res D} {fl : Env → MH → Res (List D)} {ft : Env → MH → Res Bool} {pos : Pos}

theorem pe_ret {v : V} {d : D} (h : PE X e (tC v)) (hf : flat d = true) (hv : flatV' d = v) : PE X e (SE (kx X) rx W fun _ m => .ok d m) :=
  PE.weak h fun σ H Q ⟨b, env, hd, G, m, ρ, F, R, p⟩ => by
    subst hv
    exact p ρ F H _ (R.hold (.flat hf))
theorem pe_local {i : Nat} {x : Str} (hN : X.N[i]? = some x) (hv : Vis X.env.scope x) (hd : (x == ("__debug__" : Str)) = false) (hcd : (x == ("__classdict__" : Str)) = false) : PE X (.Name x pos) (SE (kx X) rx W fun v m => .of (v.at_ i) m) :=
  PE.weak (pe_var (i := i) hN hv hd hcd) fun σ H Q ⟨b, env, hd, G, m, ρ, F, R, p⟩ => by
    obtain ⟨d, e, q⟩ := p.of
    obtain ⟨v, h1, h2⟩ := R.env i d e
    exact ⟨v, h1, q ρ F H v (R.hold h2)⟩
theorem pa_nil' : PA X [] (SA (kx X) rx W fun _ m => .ok [] m) :=
  PA.weak pa_nil fun σ H Q ⟨b, env, hd, G, m, ρ, F, R, p⟩ => p ρ F H [] R rfl
theorem pa_cons' (h1 : PE X a (SE (kx X) rx W fa)) (h2 : PA X es (SA (kx X) rx W fl)) (hs : notStar a = true) : PA X (a :: es) (SA (kx X) rx W fun v m => (fa v m).bind fun x m => (fl v m).bind fun xs m => .ok (x :: xs) m) :=
  PA.weak (pa_cons h1 h2 (star_ok hs)) fun σ H Q ⟨b, env, hd, G, m, ρ, F, R, p⟩ => by
    refine ⟨b, env, hd, G, m, ρ, F, R, p.bind.imp (fun x m1 p1 ρ1 F1 H1 v R1 => ?_) fun _ _ z => z⟩
    refine ⟨b, env, (x, v) :: hd, G, m1, ρ1, F1, R1, p1.bind.imp (fun xs m2 p2 ρ2 F2 H2 vs R2 hl => ?_) fun _ _ z ρ' F' H' c dd R' => z ρ' F' H' c dd (R'.held fun _ => List.mem_cons_of_mem _)⟩
    refine p2 ρ2 F2 H2 (v :: vs) (R2.held fun q hq => ?_) (by simp [hl])
    simp only [List.zip_cons_cons, List.cons_append, List.mem_cons, List.mem_append] at hq ⊢
    rcases hq with hq | hq | hq <;> simp [hq]
/-- from the items' list to what is made of it -/
theorem sa_then {g : List D → MH → Res D} {r : List V → Hp → VK → Prop} {σ : L2.St} {H : Hp} {Q : VK}
    (h : ∀ b env hd G m ρ F H xs vs, RS K b env hd G m ρ F σ H → RepL K F ρ m xs vs →
      Post (g xs m) (fun d m' => ∀ ρ' F' H' v, RS K b env ((d, v) :: hd) G m' ρ' F' σ H' → Q v H') (Ex K rx W b env hd G σ) → r vs H Q)
    (q : SE K rx W (fun v m => (fl v m).bind fun xs m => g xs m) σ H Q) : SA K rx W fl σ H fun vs H1 => r vs H1 Q := by
  obtain ⟨b, env, hd, G, m, ρ, F, R, p⟩ := q
  refine ⟨b, env, hd, G, m, ρ, F, R, p.bind.imp (fun xs m1 p1 ρ1 F1 H1 vs R1 hl => ?_) fun _ _ z => z⟩
  exact h b env hd G m1 ρ1 F1 H1 xs vs (R1.held fun _ z => List.mem_append_right _ z) (RS.list R1 hl) p1
theorem pe_tup' {x1 : Nat} (h : PA X es (SA (kx X) rx W fl)) : PE X (.Tuple es x1 pos) (SE (kx X) rx W fun v m => (fl v m).bind fun xs m => if xs.length ≤ sizeLine then .ok (.tup xs) m else .fail) :=
  PE.weak (pe_tup h) fun σ H Q q => sa_then (r := fun vs H1 Q => vs.length ≤ sizeLine ∧ ∀ p, H1 p = none → Q (.ref p) (upd H1 p (.tup vs))) (fun b env hd G m ρ F H xs vs R rr p => by
    have hl := rr.length
    split at p
    · rename_i z
      refine ⟨by omega, fun a ha => p ρ _ _ _ ((R.newF (.tup vs) ha).hold (.tup (SqT.of upd_same) z (rr.ext (.newF ?_))))⟩
      cases e : F a with
      | none => rfl
      | some u => rw [R.rl.fh _ _ e] at ha; cases ha
    · exact p.elim) q
theorem pe_lst' (h : PA X es (SA (kx X) rx W fl)) : PE X (.List es pos) (SE (kx X) rx W fun v m => (fl v m).bind fun xs m => if xs.length ≤ sizeLine then .ok (.lst xs) m else .fail) :=
  PE.weak (pe_lst h) fun σ H Q q => sa_then (r := fun vs H1 Q => vs.length ≤ sizeLine ∧ ∀ p, H1 p = none → Q (.ref p) (upd H1 p (.lst vs))) (fun b env hd G m ρ F H xs vs R rr p => by
    have hl := rr.length
    split at p
    · rename_i z
      exact ⟨by omega, fun a ha => p ρ _ _ _ (new_lst R z rr ha)⟩
    · exact p.elim) q
theorem pe_new' (h : PA X es (SA (kx X) rx W fl)) : PE X (.List es pos) (SE (kx X) rx W fun v m => (fl v m).bind fun xs m => if xs.length ≤ sizeLine then alloc m (.lst xs) else .fail) :=
  PE.weak (pe_lst h) fun σ H Q q => sa_then (r := fun vs H1 Q => vs.length ≤ sizeLine ∧ ∀ p, H1 p = none → Q (.ref p) (upd H1 p (.lst vs))) (fun b env hd G m ρ F H xs vs R rr p => by
    have hl := rr.length
    split at p
    · rename_i z
      refine ⟨by omega, fun a ha => ?_⟩
      cases m with
      | nil => exact p.elim
      | cons fr r =>
        simp only [alloc] at p
        split at p
        · rename_i hb
          have := p _ _ _ _ ((R.alloc ha z hb rr).hold (.ref (Lv.snoc.mpr (.inl ⟨rfl, rfl⟩))))
          rw [Ro.put_same] at this
          exact this
        · exact p.elim
    · exact p.elim) q
theorem pe_neg (h : PE X a (SE (kx X) rx W fa)) : PE X (.UnaryOp .USub a pos) (SE (kx X) rx W fun v m => (fa v m).bind fun x m => (match x with
    | .int i => .ok (.int (-i)) m
    | _ => .fail)) :=
  PE.weak (pe_un un_neg h) fun σ H Q ⟨b, env, hd, G, m, ρ, F, R, p⟩ => by
    refine ⟨b, env, hd, G, m, ρ, F, R, p.bind.imp (fun x m1 p1 ρ1 F1 H1 v R1 => ?_) fun _ _ z => z⟩
    cases x with
    | int i => exact ⟨i, R1.top.int_of, p1 ρ1 F1 H1 _ ((R1.held fun _ => List.mem_cons_of_mem _).hold (.int _))⟩
    | _ => exact p1.elim
theorem pe_not' (h : PE X a (SE (kx X) rx W fa)) : PE X (.UnaryOp .Not a pos) (SE (kx X) rx W fun v m => (fa v m).bind fun x m => (match x with
    | .bl k => .ok (.bl (!k)) m
    | _ => .fail)) :=
  PE.weak (pe_not h) fun σ H Q ⟨b, env, hd, G, m, ρ, F, R, p⟩ => by
    refine ⟨b, env, hd, G, m, ρ, F, R, p.bind.imp (fun x m1 p1 ρ1 F1 H1 v R1 => ?_) fun _ _ z => z⟩
    cases x with
    | bl i => exact ⟨i, R1.top.bl_of, p1 ρ1 F1 H1 _ ((R1.held fun _ => List.mem_cons_of_mem _).hold (.bl _))⟩
    | _ => exact p1.elim
theorem pe_and' {rest : List Expr} (h1 : PE X a (SE (kx X) rx W fa)) (h2 : PE X (.BoolOp .And (b :: rest) pos) (SE (kx X) rx W fb)) : PE X (.BoolOp .And (a :: b :: rest) pos) (SE (kx X) rx W fun v m => (fa v m).bind fun x m => (match x with
    | .bl true => fb v m
    | .bl false => .ok (.bl false) m
    | _ => .fail)) :=
  PE.weak (pe_and h1 h2) fun σ H Q ⟨b, env, hd, G, m, ρ, F, R, p⟩ => by
    refine ⟨b, env, hd, G, m, ρ, F, R, p.bind.imp (fun x m1 p1 ρ1 F1 H1 v R1 => ?_) fun _ _ z => z⟩
    cases x with
    | bl i =>
      refine ⟨i, R1.top.bl_of, ?_⟩
      have R2 := R1.held (hd' := hd) fun _ => List.mem_cons_of_mem _
      cases i with
      | true => exact ⟨b, env, hd, G, m1, ρ1, F1, R2, p1⟩
      | false => exact p1 ρ1 F1 H1 _ (R2.hold (.bl _))
    | _ => exact p1.elim
theorem pe_or' {rest : List Expr} (h1 : PE X a (SE (kx X) rx W fa)) (h2 : PE X (.BoolOp .Or (b :: rest) pos) (SE (kx X) rx W fb)) : PE X (.BoolOp .Or (a :: b :: rest) pos) (SE (kx X) rx W fun v m => (fa v m).bind fun x m => (match x with
    | .bl true => .ok (.bl true) m
    | .bl false => fb v m
    | _ => .fail)) :=
  PE.weak (pe_or h1 h2) fun σ H Q ⟨b, env, hd, G, m, ρ, F, R, p⟩ => by
    refine ⟨b, env, hd, G, m, ρ, F, R, p.bind.imp (fun x m1 p1 ρ1 F1 H1 v R1 => ?_) fun _ _ z => z⟩
    cases x with
    | bl i =>
      refine ⟨i, R1.top.bl_of, ?_⟩
      have R2 := R1.held (hd' := hd) fun _ => List.mem_cons_of_mem _
      cases i with
      | false => exact ⟨b, env, hd, G, m1, ρ1, F1, R2, p1⟩
      | true => exact p1 ρ1 F1 H1 _ (R2.hold (.bl _))
    | _ => exact p1.elim
theorem pe_one' {op : BoolOp} (h : PE X a (SE (kx X) rx W fa)) : PE X (.BoolOp op [a] pos) (SE (kx X) rx W fa) := pe_one h
/-! tests -/
variable {ga gb : Env → MH → Res Bool}
theorem pw_and' {rest : List Expr} (h1 : PT X a (ST (kx X) rx W ga)) (h2 : PW X (.BoolOp .And (b :: rest) pos) (ST (kx X) rx W gb)) : PW X (.BoolOp .And (a :: b :: rest) pos) (ST (kx X) rx W fun v m => (ga v m).bind fun t m => if t then gb v m else .ok false m) :=
  PW.weak (pw_and h1 h2) fun σ H Q ⟨b, env, hd, G, m, ρ, F, R, p⟩ => by
    refine ⟨b, env, hd, G, m, ρ, F, R, p.bind.imp (fun x m1 p1 ρ1 F1 H1 R1 => ?_) fun _ _ z => z⟩
    cases x with
    | true => exact ⟨b, env, hd, G, m1, ρ1, F1, R1, p1⟩
    | false => exact p1 ρ1 F1 H1 R1
theorem pw_or' {rest : List Expr} (h1 : PT X a (ST (kx X) rx W ga)) (h2 : PW X (.BoolOp .Or (b :: rest) pos) (ST (kx X) rx W gb)) : PW X (.BoolOp .Or (a :: b :: rest) pos) (ST (kx X) rx W fun v m => (ga v m).bind fun t m => if t then .ok true m else gb v m) :=
  PW.weak (pw_or h1 h2) fun σ H Q ⟨b, env, hd, G, m, ρ, F, R, p⟩ => by
    refine ⟨b, env, hd, G, m, ρ, F, R, p.bind.imp (fun x m1 p1 ρ1 F1 H1 R1 => ?_) fun _ _ z => z⟩
    cases x with
    | false => exact ⟨b, env, hd, G, m1, ρ1, F1, R1, p1⟩
    | true => exact p1 ρ1 F1 H1 R1
theorem pt_not' (h1 : PT X a (ST (kx X) rx W ga)) : PT X (.UnaryOp .Not a pos) (ST (kx X) rx W fun v m => (ga v m).bind fun t m => .ok (!t) m) :=
  PT.weak (pt_not h1) fun σ H Q ⟨b, env, hd, G, m, ρ, F, R, p⟩ =>
    ⟨b, env, hd, G, m, ρ, F, R, p.bind.imp (fun x m1 p1 ρ1 F1 H1 R1 => p1 ρ1 F1 H1 R1) fun _ _ z => z⟩
theorem pe_ite (h0 : PT X c (ST (kx X) rx W ft)) (h1 : PE X a (SE (kx X) rx W fa)) (h2 : PE X b (SE (kx X) rx W fb)) : PE X (.IfExp c a b pos) (SE (kx X) rx W fun v m => (ft v m).bind fun t m => if t then fa v m else fb v m) :=
  PE.weak (pe_ifExp h0 h1 h2) fun σ H Q ⟨b, env, hd, G, m, ρ, F, R, p⟩ => by
    refine ⟨b, env, hd, G, m, ρ, F, R, p.bind.imp (fun x m1 p1 ρ1 F1 H1 R1 => ?_) fun _ _ z => z⟩
    cases x with
    | true => exact ⟨b, env, hd, G, m1, ρ1, F1, R1, p1⟩
    | false => exact ⟨b, env, hd, G, m1, ρ1, F1, R1, p1⟩
/-! an item -/
def rIx (K : PySem.W.Frag) : R2 := fun x y H Q => rIxL K x y H Q ∨ rIxT K x y H Q
theorem getAt_rep {K : KX} : Op2R K (fun x y m => .of (getAt m x y) m) (rIx K.k) := by
  intro b env hd G m ρ F σ H x y v u Q ex R rx ry p
  obtain ⟨d, e, q⟩ := p.of
  unfold getAt at e
  cases y with
  | int k =>
    simp only at e
    obtain ⟨l, e1, e2⟩ := Option.bind_eq_some_iff.mp e
    obtain ⟨n, e3, e4⟩ := Option.bind_eq_some_iff.mp e2
    obtain ⟨a, vs, rfl, hs, z, rr⟩ := seq_of R.rl e1 rx
    obtain ⟨w, hw, rw'⟩ := rr.get e4
    have hk : atI vs k = some w := by
      unfold atI
      rw [← rr.length, show ixN l.length k = some n from e3]; exact hw
    have fin := q ρ F H w (R.hold rw')
    rcases hs with hs | hs
    · exact .inl ⟨a, vs, k, w, rfl, ry.int_of, hs, hk, fin⟩
    · exact .inr ⟨a, vs, k, w, rfl, ry.int_of, hs, hk, fin⟩
  | _ => cases e
theorem pe_idx (ha : PE X a (SE (kx X) rx W fa)) (hb : PE X b (SE (kx X) rx W fb)) (hp : plainIx b = true) : PE X (.Subscript a b pos) (SE (kx X) rx W fun v m => (fa v m).bind fun x m => (fb v m).bind fun y m => .of (getAt m x y) m) :=
  PE.weak (pe_ix (ix_list.or ix_tup) ha hb (plainIx_ok hp)) fun σ H Q q => se_bin getAt_rep q
/-! append -/
theorem isL_at {m : MH} {x : D} (h : isL m x = true) : ∃ l i xs, x = .ref l i ∧ get m l i = some (.lst xs) := by
  unfold isL at h
  cases x with
  | ref l i =>
    cases g : get m l i with
    | none => simp [g] at h
    | some o => cases o with
      | lst xs => exact ⟨l, i, xs, rfl, g⟩
  | _ => cases h
theorem pe_app {apos cpos : Pos} (ha : PE X a (SE (kx X) rx W fa)) (hb : PE X b (SE (kx X) rx W fb)) (hs : notStar b = true) (h1 : attributeBase a "append" X.env (eval a X.env) = eval a X.env) (h2 : (apos.endLine == cpos.line) = true) :
    PE X (.Call (.Attribute a "append" apos) [b] [] cpos) (SE (kx X) rx W fun v m => (fa v m).bind fun x m => if isL m x then (fb v m).bind fun y m => append x y m else .fail) := by
  have hpa : PA X [b] _ := pa_cons' hb pa_nil' hs
  refine PE.weak (pe_bm PySem.F.plainAttrs_list PySem.F.slot_list_append PySem.F.type_list_append mt_append ha hpa h1 ?_ h2 (star_ok hs) rfl) fun σ H Q ⟨b, env, hd, G, m, ρ, F, R, p⟩ => ?_
  · rw [star_ok hs]; rfl
  · refine ⟨b, env, hd, G, m, ρ, F, R, p.bind.imp (fun x m1 p1 ρ1 F1 H1 v R1 => ?_) fun _ _ z => z⟩
    split at p1
    · rename_i hx
      obtain ⟨l, i, xs, rfl, g⟩ := isL_at hx
      obtain ⟨rfl, hl⟩ := R1.top.ref_of
      obtain ⟨_, vs, hv, z, rr⟩ := R1.rl.ob l i _ g
      refine ⟨.inl ⟨rfl, vs, SqL.of hv⟩, ?_⟩
      refine ⟨b, env, (.ref l i, .ref (ρ1 l i)) :: hd, G, m1, ρ1, F1, R1, ?_⟩
      have p1 := p1.bind
      show Post ((fb env m1).bind fun x m => (Res.ok [] m).bind fun xs m => Res.ok (x :: xs) m) _ _
      cases hfb : fb env m1 with
      | fail => rw [hfb] at p1; exact p1.elim
      | exc e m2 =>
        rw [hfb] at p1
        show Ex (kx X) rx W b env ((.ref l i, .ref (ρ1 l i)) :: hd) G σ e m2
        exact fun ρ' F' H' c dd R' => p1 ρ' F' H' c dd (R'.held fun _ => List.mem_cons_of_mem _)
      | ok y m2 =>
        rw [hfb] at p1
        show ∀ ρ' F' H' vs, RS (kx X) b env ([y].zip vs ++ (.ref l i, .ref (ρ1 l i)) :: hd) G m2 ρ' F' σ H' → [y].length = vs.length → _
        intro ρ2 F2 H2 us R2 hlen
        obtain ⟨u, rfl⟩ : ∃ u, us = [u] := by
          match us, hlen with
          | [u], _ => exact ⟨u, rfl⟩
        have R3 : RS (kx X) b env ((y, u) :: (.ref l i, .ref (ρ1 l i)) :: hd) G m2 ρ2 F2 σ H2 := R2
        obtain ⟨e3, hl3⟩ := (R3.hd (.ref l i, .ref (ρ1 l i)) (by simp)).ref_of
        simp only at e3
        have p1 : Post (append (.ref l i) y m2) _ _ := p1
        unfold append at p1
        cases g2 : get m2 l i with
        | none => simp only [g2] at p1; exact p1.elim
        | some o =>
          cases o with
          | lst ys =>
            simp only [g2] at p1
            split at p1
            · rename_i hc
              simp only [Bool.and_eq_true, decide_eq_true_eq] at hc
              obtain ⟨_, vs2, hv2, z2, rr2⟩ := R3.rl.ob l i _ g2
              have hwf : bdL (l + 1) ys = true := R3.rl.wf l i _ g2
              have hbd : bdL (l + 1) (ys ++ [y]) = true := by
                clear p1 rr2 hv2 g2 z2
                obtain ⟨hc1, hc2⟩ := hc
                clear hc2
                induction ys with
                | nil => simp [bdL, hc1]
                | cons q qs ih =>
                  simp only [bdL, Bool.and_eq_true] at hwf
                  simp only [List.cons_append, bdL, Bool.and_eq_true]
                  exact ⟨hwf.1, ih hwf.2⟩
              refine ⟨ρ2 l i, vs2, u, e3, rfl, hv2, by rw [← rr2.length]; exact hc.2, ?_⟩
              have R4 := R3.put g2 (xs := ys ++ [y]) (vs := vs2 ++ [u]) (by simp; omega) hbd (rr2.append (.one (R3.hd (y, u) (by simp))))
              exact p1 ρ2 F2 _ _ ((R4.held fun _ z => List.mem_cons_of_mem _ (List.mem_cons_of_mem _ z)).hold .non)
            · exact p1.elim
    · exact p1.elim
end
end Fw

set_option Elab.async false
set_option linter.all false
set_option maxRecDepth 100000
set_option maxHeartbeats 1000000
set_option autoImplicit false
/-! ## Fw4: built-ins -/
namespace Fw
open PySem PySem.Spec PyProof.Rows L2

theorem CallR.weak {X : Cx} {f : Value} {r r' : List V → Hp → VK → Prop} (h : CallR X f r') (k : ∀ vs H Q, r vs H Q → r' vs H Q) : CallR X f r := fun pins s σ H xs us Q I rr q => h pins s σ H xs us Q I rr (k _ _ _ q)
def BiR (K : KX) (f : List D → MH → Option D) (r : List V → Hp → VK → Prop) : Prop :=
  ∀ b env hd G m ρ F σ H xs vs d (Q : VK), RS K b env hd G m ρ F σ H → RepL K F ρ m xs vs → f xs m = some d → (∀ F' H' v, RS K b env ((d, v) :: hd) G m ρ F' σ H' → Q v H') → r vs H Q
/-- what any built-in is to give -/
def biV (K : KX) (f : List D → MH → Option D) : List V → Hp → VK → Prop := fun vs H Q => ∃ b env hd G m ρ F σ xs d, RS K b env hd G m ρ F σ H ∧ RepL K F ρ m xs vs ∧ f xs m = some d ∧ ∀ F' H' v, RS K b env ((d, v) :: hd) G m ρ F' σ H' → Q v H'
theorem biV_of {X : Cx} {f : Value} {K : KX} {g : List D → MH → Option D} {r : List V → Hp → VK → Prop} (h : CallR X f r) (k : BiR K g r) : CallR X f (biV K g) :=
  CallR.weak h fun vs H Q ⟨b, env, hd, G, m, ρ, F, σ, xs, d, R, rr, e, q⟩ => k b env hd G m ρ F σ H xs vs d Q R rr e q
theorem pe_bi {X : Cx} {rx : PySem.W.Frag → Exc → Value → Option Addr → Hp → Prop} {W : WX} {e : Expr} {es : List Expr} {fl : Env → MH → Res (List D)} {p pos : Pos} {x : Str} {id : String} {g : List D → MH → Option D}
    (hc : CallR X (.builtin id) (biV (kx X) g)) (hg : Gl X x) (hm : X.mg x = none) (hv : bootBuiltins x = some (.builtin id)) (ha : PA X (e :: es) (SA (kx X) rx W fl)) (hn : x ≠ "__name__") (hdb : (x == ("__debug__" : Str)) = false) (hs : (e :: es).all notStar = true) :
    PE X (.Call (.Name x p) (e :: es) [] pos) (SE (kx X) rx W fun v m => (fl v m).bind fun xs m => .of (g xs m) m) := by
  have hs' := hs
  simp only [List.all_cons, Bool.and_eq_true] at hs'
  exact PE.weak (pe_callB hc hg hm hv ha hn hdb (star_ok hs'.1) (star_none hs'.2)) fun σ H Q q => sa_then (r := biV (kx X) g) (fun b env hd G m ρ F H xs vs R rr p => by
    obtain ⟨d, e, q⟩ := p.of
    exact ⟨b, env, hd, G, m, ρ, F, σ, xs, d, R, rr, e, fun F' H' v R' => q ρ F' H' v R'⟩) q
theorem pe_biT {X : Cx} {rx : PySem.W.Frag → Exc → Value → Option Addr → Hp → Prop} {W : WX} {e : Expr} {es : List Expr} {fl : Env → MH → Res (List D)} {p pos : Pos} {x : Str} {id : String} {g : List D → MH → Option D}
    (hc : CallR X (.type id) (biV (kx X) g)) (hg : Gl X x) (hm : X.mg x = none) (hv : bootBuiltins x = some (.type id)) (ha : PA X (e :: es) (SA (kx X) rx W fl)) (hn : x ≠ "__name__") (hdb : (x == ("__debug__" : Str)) = false) (hs : (e :: es).all notStar = true) :
    PE X (.Call (.Name x p) (e :: es) [] pos) (SE (kx X) rx W fun v m => (fl v m).bind fun xs m => .of (g xs m) m) := by
  have hs' := hs
  simp only [List.all_cons, Bool.and_eq_true] at hs'
  exact PE.weak (pe_callTy hc hg hm hv ha hn hdb (star_ok hs'.1) (star_none hs'.2)) fun σ H Q q => sa_then (r := biV (kx X) g) (fun b env hd G m ρ F H xs vs R rr p => by
    obtain ⟨d, e, q⟩ := p.of
    exact ⟨b, env, hd, G, m, ρ, F, σ, xs, d, R, rr, e, fun F' H' v R' => q ρ F' H' v R'⟩) q

section
variable {K : KX} {F H : Hp} {ρ : Ro} {m : MH}
theorem repl1 {x : D} {vs : List V} (r : RepL K F ρ m [x] vs) : ∃ v, vs = [v] ∧ Rep K F ρ m x v := by
  unfold RepL at r
  obtain ⟨v, t, rfl, h, h2⟩ := r
  unfold RepL at h2
  exact ⟨v, by rw [h2], h⟩
theorem repl2 {x y : D} {vs : List V} (r : RepL K F ρ m [x, y] vs) : ∃ v u, vs = [v, u] ∧ Rep K F ρ m x v ∧ Rep K F ρ m y u := by
  unfold RepL at r
  obtain ⟨v, t, rfl, h, h2⟩ := r
  obtain ⟨u, rfl, h3⟩ := repl1 h2
  exact ⟨v, u, rfl, h, h3⟩
end

/-! ### greatest, least -/
theorem foldl_max (xs : List Int) (x : Int) : (xs.foldl (fun a b => if b > a then b else a) x ∈ x :: xs) ∧ ∀ y ∈ x :: xs, y ≤ xs.foldl (fun a b => if b > a then b else a) x := by
  induction xs generalizing x with
  | nil => simp
  | cons a xs ih =>
    obtain ⟨h1, h2⟩ := ih (if a > x then a else x)
    simp only [List.foldl_cons]
    refine ⟨?_, fun y hy => ?_⟩
    · rcases List.mem_cons.mp h1 with h | h
      · rw [h]; split <;> simp
      · exact List.mem_cons_of_mem _ (List.mem_cons_of_mem _ h)
    · have hb := h2 _ List.mem_cons_self
      rcases List.mem_cons.mp hy with rfl | hy
      · refine Int.le_trans ?_ hb; split <;> omega
      · rcases List.mem_cons.mp hy with rfl | hy
        · refine Int.le_trans ?_ hb; split <;> omega
        · exact h2 y (List.mem_cons_of_mem _ hy)
theorem foldl_min (xs : List Int) (x : Int) : (xs.foldl (fun a b => if b < a then b else a) x ∈ x :: xs) ∧ ∀ y ∈ x :: xs, xs.foldl (fun a b => if b < a then b else a) x ≤ y := by
  induction xs generalizing x with
  | nil => simp
  | cons a xs ih =>
    obtain ⟨h1, h2⟩ := ih (if a < x then a else x)
    simp only [List.foldl_cons]
    refine ⟨?_, fun y hy => ?_⟩
    · rcases List.mem_cons.mp h1 with h | h
      · rw [h]; split <;> simp
      · exact List.mem_cons_of_mem _ (List.mem_cons_of_mem _ h)
    · have hb := h2 _ List.mem_cons_self
      rcases List.mem_cons.mp hy with rfl | hy
      · refine Int.le_trans hb ?_; split <;> omega
      · rcases List.mem_cons.mp hy with rfl | hy
        · refine Int.le_trans hb ?_; split <;> omega
        · exact h2 y (List.mem_cons_of_mem _ hy)
theorem maxI_spec {ns : List Int} (h : ns ≠ []) : maxI ns ∈ ns ∧ ∀ y ∈ ns, y ≤ maxI ns := by
  cases ns with
  | nil => exact absurd rfl h
  | cons x xs => exact foldl_max xs x
theorem minI_spec {ns : List Int} (h : ns ≠ []) : minI ns ∈ ns ∧ ∀ y ∈ ns, minI ns ≤ y := by
  cases ns with
  | nil => exact absurd rfl h
  | cons x xs => exact foldl_min xs x

section
variable {X : Cx}
/-- repr of data -/
theorem call_reprD (sm : SmD X.K) (hg : X.A.guards = some []) (hu : X.A.units + 64 < cLine) : CallR X (.builtin "repr") (fun vs H Q => ∃ v d, vs = [v] ∧ Dq X.K H v d ∧ d.showable = true ∧ d.depth ≤ 60 ∧ d.shown.length ≤ sizeLine ∧ Q (.str d.shown) H) := by
  intro pins s σ H vs us Q I r h
  obtain ⟨v, d, rfl, hd, h1, h3, h4, q⟩ := h
  cases r with
  | cons r0 rt =>
    cases rt
    rename_i u
    obtain ⟨as, rd, hns⟩ := hd.reads I sm u r0
    have fin : ∀ (h' : Heap) (t : Tok) (tk : Nat), (∀ b o, s.heap.get? b = some o → h'.get? b = some o) → EP X pins σ Q (.str d.shown t) { heap := h', gens := s.gens, drawn := s.drawn, toks := tk, os := s.os } := fun h' t tk hk => ⟨.str d.shown, H, I.kept hk, ⟨t, rfl⟩, q⟩
    have all : ∀ a, u = .ref a → wpAny (model X.prog X.w) X.A (call (.builtin "repr") [u]) (EP X pins σ Q) X.xe s := fun a e => by
      subst e
      exact repr_of_reads' rd h1 (fun _ => hns) hg (by omega) (fun _ _ e => e) (fun h' t tk hk => fin h' t tk hk) h4
    cases hd with
    | non => cases (show u = Value.none from r0); exact PySem.P.repr_of_none (fin _ _ _ fun _ _ e => e)
    | bl b => cases (show u = Value.bool b from r0); exact PySem.P.repr_of_bool (fin _ _ _ fun _ _ e => e)
    | int i =>
      obtain ⟨t, rfl⟩ := r0
      exact PySem.P.repr_of_int (by simpa [PyData.showable] using h1) (fin _ _ _ fun _ _ e => e)
    | str x =>
      obtain ⟨t, rfl⟩ := r0
      exact PySem.P.repr_of_str (fin _ _ _ fun _ _ e => e) (by simpa [PyData.shown] using h4)
    | lst hs ha => exact all _ r0
    | tup hs ha => exact all _ r0
    | dct hs hl ha => exact all _ r0
theorem call_sumT (hc : X.calm = true) : CallR X (.builtin "sum") (fun vs H Q => ∃ (a : Addr) (ns : List Int), vs = [V.ref a] ∧ SqT X.K H a (ns.map V.int) ∧ Q (.int ns.sum) H) := by
  intro pins s σ H vs us Q I r h
  obtain ⟨a, ns, rfl, hs, q⟩ := h
  obtain ⟨its, rv, hl, _⟩ := I.tuple hs
  rw [Vals.ref1 r]
  have hi := rv.ints
  obtain ⟨xs, e⟩ := hi.allInts.items
  have hn : numsOf (intItems xs).toList = ns := by rw [← e]; exact hi.numsOf
  rw [nums_intItems] at hn
  have hl' : s.heap.IsTuple a (intItems xs) := by rw [← e]; exact hl
  refine PySem.W.ktm_sumG (I.ok.hd hc) hl' fun h' tk t' hk => ?_
  rw [preSum_eq, List.take_of_length_le (by simp), hn]
  exact ⟨.int ns.sum, H, I.kept hk, ⟨_, rfl⟩, q⟩

def biName : Bi → Str
  | .len => "len" | .abs => "abs" | .min => "min" | .max => "max" | .repr => "repr" | .sum => "sum" | .all => "all" | .any => "any" | .tuple => "tuple" | .list => "list" | .sorted => "sorted" | .int => "int"
theorem CallR.or {f : Value} {r r' : List V → Hp → VK → Prop} (h : CallR X f r) (h' : CallR X f r') : CallR X f (fun vs H Q => r vs H Q ∨ r' vs H Q) := fun pins s σ H xs us Q I rr q => q.elim (h pins s σ H xs us Q I rr) (h' pins s σ H xs us Q I rr)

/-- a built-in of one argument -/
theorem biR1 {K : KX} {g : MH → D → Option D} {r : List V → Hp → VK → Prop} {bi : Bi} (hb : ∀ xs m d, built bi xs m = some d → ∃ x, xs = [x] ∧ g m x = some d)
    (h : ∀ b env hd G m ρ F σ H x v d (Q : VK), RS K b env hd G m ρ F σ H → Rep K F ρ m x v → g m x = some d → (∀ F' H' v, RS K b env ((d, v) :: hd) G m ρ F' σ H' → Q v H') → r [v] H Q) : BiR K (built bi) r := by
  intro b env hd G m ρ F σ H xs vs d Q R rr e q
  obtain ⟨x, rfl, e2⟩ := hb xs m d e
  obtain ⟨v, rfl, r⟩ := repl1 rr
  exact h b env hd G m ρ F σ H x v d Q R r e2 q
theorem bi_one {bi : Bi} {g : MH → D → Option D} (h1 : ∀ x m, built bi [x] m = g m x) (h2 : ∀ x y m, built bi [x, y] m = none) : ∀ xs m d, built bi xs m = some d → ∃ x, xs = [x] ∧ g m x = some d
  | [], m, d, e => by cases e
  | [x], m, d, e => ⟨x, rfl, by rw [← h1]; exact e⟩
  | [x, y], m, d, e => by rw [h2] at e; cases e
  | _ :: _ :: _ :: _, m, d, e => by cases e
theorem len_seq {m : MH} {x d : D} (e : lenD m x = some d) : (∃ s, x = .str s ∧ s.length ≤ sizeLine ∧ d = .int s.length) ∨ ∃ l, seqOf m x = some l ∧ d = .int l.length := by
  cases x with
  | str s =>
    simp only [lenD] at e
    split at e
    · rename_i z; cases e; exact .inl ⟨s, rfl, z, rfl⟩
    · cases e
  | tup ys => simp only [lenD] at e; obtain ⟨l, e1, e2⟩ := Option.map_eq_some_iff.mp e; exact .inr ⟨l, e1, e2.symm⟩
  | lst ys => simp only [lenD] at e; obtain ⟨l, e1, e2⟩ := Option.map_eq_some_iff.mp e; exact .inr ⟨l, e1, e2.symm⟩
  | scr ys => simp only [lenD] at e; obtain ⟨l, e1, e2⟩ := Option.map_eq_some_iff.mp e; exact .inr ⟨l, e1, e2.symm⟩
  | ref a i => simp only [lenD] at e; obtain ⟨l, e1, e2⟩ := Option.map_eq_some_iff.mp e; exact .inr ⟨l, e1, e2.symm⟩
  | _ => simp [lenD, seqOf] at e
theorem bi_len : CallR X (.builtin "len") (biV (kx X) (built .len)) := biV_of call_len (biR1 (bi_one (fun _ _ => rfl) fun _ _ _ => rfl) fun b env hd G m ρ F σ H x v d Q R r e q => by
  rcases len_seq e with ⟨s, rfl, z, rfl⟩ | ⟨l, e1, rfl⟩
  · exact ⟨.str s, s.length, by rw [r.str_of], ⟨z, rfl⟩, q F H _ (R.hold (.int _))⟩
  · obtain ⟨a, vs, rfl, hs, z, rs⟩ := seq_of R.rl e1 r
    refine ⟨_, l.length, rfl, ?_, q F H _ (R.hold (.int _))⟩
    rcases hs with hs | hs
    · exact .inl ⟨vs, hs, rs.length⟩
    · exact .inr ⟨vs, hs, rs.length⟩)
theorem int1_some {f : Int → Int} {x d : D} (e : int1 f x = some d) : ∃ i, x = .int i ∧ d = .int (f i) := by
  cases x <;> first | (cases e; exact ⟨_, rfl, rfl⟩) | cases e
theorem int2_some {f : Int → Int → Int} {x y d : D} (e : int2 f x y = some d) : ∃ i j, x = .int i ∧ y = .int j ∧ d = .int (f i j) := by
  cases x <;> cases y <;> first | (cases e; exact ⟨_, _, rfl, rfl, rfl⟩) | cases e
theorem ints1_some {m : MH} {f : List Int → Int} {x d : D} (e : ints1 m f x = some d) : ∃ l ns, lstOf m x = some l ∧ intsOf l = some ns ∧ ns ≠ [] ∧ d = .int (f ns) := by
  obtain ⟨l, e1, e2⟩ := Option.bind_eq_some_iff.mp e
  obtain ⟨ns, e3, e4⟩ := Option.bind_eq_some_iff.mp e2
  split at e4
  · cases e4
  · rename_i hne; cases e4; exact ⟨l, ns, e1, e3, hne, rfl⟩
theorem bls1_some {m : MH} {f : List Bool → Bool} {x d : D} (e : bls1 m f x = some d) : ∃ l ns, lstOf m x = some l ∧ blsOf l = some ns ∧ d = .bl (f ns) := by
  obtain ⟨l, e1, e2⟩ := Option.bind_eq_some_iff.mp e
  obtain ⟨ns, e3, rfl⟩ := Option.map_eq_some_iff.mp e2
  exact ⟨l, ns, e1, e3, rfl⟩
theorem bi_abs : CallR X (.builtin "abs") (biV (kx X) (built .abs)) := biV_of call_abs (biR1 (bi_one (fun _ _ => rfl) fun _ _ _ => rfl) fun b env hd G m ρ F σ H x v d Q R r e q => by
  obtain ⟨i, rfl, rfl⟩ := int1_some e
  exact ⟨i, by rw [r.int_of], q F H _ (R.hold (.int _))⟩)
/-- a built-in of one argument or two -/
theorem biR12 {K : KX} {g1 : MH → D → Option D} {g2 : D → D → Option D} {r : List V → Hp → VK → Prop} {bi : Bi} (hb1 : ∀ x m, built bi [x] m = g1 m x) (hb2 : ∀ x y m, built bi [x, y] m = g2 x y)
    (h1 : ∀ b env hd G m ρ F σ H x v d (Q : VK), RS K b env hd G m ρ F σ H → Rep K F ρ m x v → g1 m x = some d → (∀ F' H' v, RS K b env ((d, v) :: hd) G m ρ F' σ H' → Q v H') → r [v] H Q)
    (h2 : ∀ b env hd G m ρ F σ H x y v u d (Q : VK), RS K b env hd G m ρ F σ H → Rep K F ρ m x v → Rep K F ρ m y u → g2 x y = some d → (∀ F' H' v, RS K b env ((d, v) :: hd) G m ρ F' σ H' → Q v H') → r [v, u] H Q) : BiR K (built bi) r := by
  intro b env hd G m ρ F σ H xs vs d Q R rr e q
  match xs, rr, e with
  | [], rr, e => cases e
  | [x], rr, e =>
    obtain ⟨v, rfl, r⟩ := repl1 rr
    exact h1 b env hd G m ρ F σ H x v d Q R r (by rw [← hb1]; exact e) q
  | [x, y], rr, e =>
    obtain ⟨v, u, rfl, r1, r2⟩ := repl2 rr
    exact h2 b env hd G m ρ F σ H x y v u d Q R r1 r2 (by rw [← hb2 x y m]; exact e) q
  | _ :: _ :: _ :: _, rr, e => cases e
theorem bi_max (hc : X.calm = true) : CallR X (.builtin "max") (biV (kx X) (built .max)) := biV_of ((call_max2 hc).or (cr_max hc)) (biR12 (fun _ _ => rfl) (fun _ _ _ => rfl)
  (fun b env hd G m ρ F σ H x v d Q R r e q => by
    obtain ⟨l, ns, e1, e3, hne, rfl⟩ := ints1_some e
    obtain ⟨a, vs, rfl, hs, z, rs⟩ := lst_of R.rl e1 r
    have := rs.ints e3
    subst this
    refine .inr ⟨a, ns, rfl, SqL.of hs, List.length_pos_iff.mpr hne, fun k h1 h2 => ?_⟩
    obtain ⟨g1, g2⟩ := maxI_spec hne
    have : k = maxI ns := Int.le_antisymm (g2 k h1) (h2 _ g1)
    rw [this]
    exact q F H _ (R.hold (.int _)))
  fun b env hd G m ρ F σ H x y v u d Q R r1 r2 e q => by
    obtain ⟨i, j, rfl, rfl, rfl⟩ := int2_some e
    exact .inl ⟨i, j, by rw [r1.int_of, r2.int_of], q F H _ (R.hold (.int _))⟩)
theorem bi_min (hc : X.calm = true) : CallR X (.builtin "min") (biV (kx X) (built .min)) := biV_of ((call_min2 hc).or (cr_min hc)) (biR12 (fun _ _ => rfl) (fun _ _ _ => rfl)
  (fun b env hd G m ρ F σ H x v d Q R r e q => by
    obtain ⟨l, ns, e1, e3, hne, rfl⟩ := ints1_some e
    obtain ⟨a, vs, rfl, hs, z, rs⟩ := lst_of R.rl e1 r
    have := rs.ints e3
    subst this
    refine .inr ⟨a, ns, rfl, SqL.of hs, List.length_pos_iff.mpr hne, fun k h1 h2 => ?_⟩
    obtain ⟨g1, g2⟩ := minI_spec hne
    have : k = minI ns := Int.le_antisymm (h2 _ g1) (g2 k h1)
    rw [this]
    exact q F H _ (R.hold (.int _)))
  fun b env hd G m ρ F σ H x y v u d Q R r1 r2 e q => by
    obtain ⟨i, j, rfl, rfl, rfl⟩ := int2_some e
    exact .inl ⟨i, j, by rw [r1.int_of, r2.int_of], q F H _ (R.hold (.int _))⟩)
theorem reprD_some {m : MH} {x : D} {z : Str} (e : reprD m x = some z) : ∃ p, dat m x = some p ∧ p.showable = true ∧ p.depth ≤ 60 ∧ p.shown.length ≤ sizeLine ∧ z = p.shown := by
  unfold reprD at e
  cases e2 : dat m x with
  | none => rw [e2] at e; cases e
  | some p =>
    rw [e2] at e
    simp only at e
    split at e
    · rename_i hc
      cases e
      simp only [Bool.and_eq_true, decide_eq_true_eq] at hc
      exact ⟨p, rfl, hc.1.1, hc.1.2, hc.2, rfl⟩
    · cases e
theorem bi_repr (sm : SmD X.K) (hg : X.A.guards = some []) (hu : X.A.units + 64 < cLine) : CallR X (.builtin "repr") (biV (kx X) (built .repr)) := biV_of (call_reprD sm hg hu) (biR1 (g := fun m x => (reprD m x).map .str) (bi_one (fun _ _ => rfl) fun _ _ _ => rfl) fun b env hd G m ρ F σ H x v d Q R r e q => by
  obtain ⟨z, e1, rfl⟩ := Option.map_eq_some_iff.mp e
  obtain ⟨p, e2, h1, h3, h4, rfl⟩ := reprD_some e1
  exact ⟨v, p, rfl, dq_dat R.rl e2 r, h1, h3, h4, q F H _ (R.hold (.str _))⟩)
theorem bi_sum (hc : X.calm = true) : CallR X (.builtin "sum") (biV (kx X) (built .sum)) := biV_of ((cr_sum hc).or (call_sumT hc)) (biR1 (bi_one (fun _ _ => rfl) fun _ _ _ => rfl) fun b env hd G m ρ F σ H x v d Q R r e q => by
  obtain ⟨l, e1, e2⟩ := Option.bind_eq_some_iff.mp (show (seqOf m x).bind _ = some d from e)
  obtain ⟨ns, e3, rfl⟩ := Option.map_eq_some_iff.mp e2
  obtain ⟨a, vs, rfl, hs, z, rs⟩ := seq_of R.rl e1 r
  have := rs.ints e3
  subst this
  rcases hs with hs | hs
  · exact .inl ⟨a, ns, rfl, hs, q F H _ (R.hold (.int _))⟩
  · exact .inr ⟨a, ns, rfl, hs, q F H _ (R.hold (.int _))⟩)
theorem bi_all (hc : X.calm = true) : CallR X (.builtin "all") (biV (kx X) (built .all)) := biV_of (cr_all hc) (biR1 (bi_one (fun _ _ => rfl) fun _ _ _ => rfl) fun b env hd G m ρ F σ H x v d Q R r e q => by
  obtain ⟨l, ns, e1, e3, rfl⟩ := bls1_some e
  obtain ⟨a, vs, rfl, hs, z, rs⟩ := lst_of R.rl e1 r
  have := rs.bls e3
  subst this
  exact ⟨a, ns, rfl, SqL.of hs, q F H _ (R.hold (.bl _))⟩)
theorem bi_any (hc : X.calm = true) : CallR X (.builtin "any") (biV (kx X) (built .any)) := biV_of (cr_any hc) (biR1 (bi_one (fun _ _ => rfl) fun _ _ _ => rfl) fun b env hd G m ρ F σ H x v d Q R r e q => by
  obtain ⟨l, ns, e1, e3, rfl⟩ := bls1_some e
  obtain ⟨a, vs, rfl, hs, z, rs⟩ := lst_of R.rl e1 r
  have := rs.bls e3
  subst this
  exact ⟨a, ns, rfl, SqL.of hs, q F H _ (R.hold (.bl _))⟩)
theorem bi_tuple : CallR X (.type "tuple") (biV (kx X) (built .tuple)) := biV_of call_tuple_of (biR1 (g := fun m x => (seqOf m x).map .tup) (bi_one (fun _ _ => rfl) fun _ _ _ => rfl) fun b env hd G m ρ F σ H x v d Q R r e q => by
  obtain ⟨l, e1, rfl⟩ := Option.map_eq_some_iff.mp e
  obtain ⟨a, vs, rfl, hs, z, rs⟩ := seq_ofT R.rl e1 r
  refine ⟨a, vs, rfl, ?_⟩
  rcases hs with hs | ⟨hs, ys, rfl⟩
  · exact .inl ⟨hs, fun p hp => q _ _ _ ((R.newF (.tup vs) hp).hold (.tup (SqT.of upd_same) z (rs.ext (.newF (noF R.rl.fh hp)))))⟩
  · refine .inr ⟨hs, q F H _ (R.hold ?_)⟩
    have e1 : some ys = some l := e1
    cases e1; exact r)
theorem bi_list : CallR X (.type "list") (biV (kx X) (built .list)) := biV_of call_list_of (biR1 (g := fun m x => (seqOf m x).map .lst) (bi_one (fun _ _ => rfl) fun _ _ _ => rfl) fun b env hd G m ρ F σ H x v d Q R r e q => by
  obtain ⟨l, e1, rfl⟩ := Option.map_eq_some_iff.mp e
  obtain ⟨a, vs, rfl, hs, z, rs⟩ := seq_of R.rl e1 r
  exact ⟨a, vs, rfl, hs, fun p hp => q _ _ _ (new_lst R z rs hp)⟩)
theorem bi_int : CallR X (.type "int") (biV (kx X) (built .int)) := biV_of call_int1 (biR1 (g := fun m x => match x with
      | .bl b => some (.int (if b then 1 else 0))
      | .int i => some (.int i)
      | _ => none) (bi_one (fun _ _ => rfl) fun _ _ _ => rfl) fun b env hd G m ρ F σ H x v d Q R r e q => by
  cases x with
  | bl k =>
    cases e
    exact .inr ⟨k, by rw [r.bl_of], q F H _ (R.hold (.int _))⟩
  | int i =>
    cases e
    exact .inl ⟨i, by rw [r.int_of], q F H _ (R.hold (.int _))⟩
  | _ => cases e)
end

/-! ### isinstance -/
def tyName : Ty → String
  | .int => "int" | .bool => "bool" | .tuple => "tuple" | .list => "list" | .str => "str"
def dTy : D → String
  | .non => "NoneType" | .bl _ => "bool" | .int _ => "int" | .str _ => "str" | .tup _ => "tuple" | .lst _ => "list" | .ref _ _ => "list" | .scr _ => "list" | .dct _ _ => "dict" | .exc _ => "" | .ins _ _ _ => "" | .any => ""
theorem ty_rep {K : KX} {F H : Hp} {ρ : Ro} {m : MH} (R : Rl K F ρ m H) {d : D} {v : V} (hk : tyKnown m d = true) (r : Rep K F ρ m d v) : TyX K.k H v (.type (dTy d)) := by
  cases d with
  | non => cases r.non_of; exact .base .non
  | bl b => cases r.bl_of; exact .base (.bl b)
  | int i => cases r.int_of; exact .base (.int i)
  | str x => cases r.str_of; exact .base (.str x)
  | tup xs =>
    obtain ⟨a, vs, rfl, hs, _⟩ := r.tup_of
    rcases SqT.ext R.fh hs with (h | ⟨o, h⟩) | ⟨o, its, n, h1, h2, _⟩
    · exact .base (.tup h)
    · exact .fTuple h
    · exact .kTuple h1 h2
  | lst xs =>
    obtain ⟨a, vs, rfl, hs, _⟩ := r.lst_of
    exact .base (.lst (R.fh _ _ hs))
  | scr xs =>
    obtain ⟨a, vs, rfl, hs, _⟩ := r.scr_of
    rcases SqL.ext R.fh hs with (h | ⟨o, h⟩) | ⟨o, its, n, h1, h2, _⟩
    · exact .base (.lst h)
    · exact .base (.frz h)
    · exact .kList h1 h2
  | ref l i =>
    obtain ⟨rfl, hl⟩ := r.ref_of
    obtain ⟨o, ho⟩ := Option.isSome_iff_exists.mp hl
    obtain ⟨_, hv⟩ := R.ob l i o ho
    cases o with
    | lst ys =>
      obtain ⟨vs', hv, _⟩ := hv
      exact .base (.lst hv)
  | dct ks xs =>
    obtain ⟨a, vs, rfl, hs, _⟩ := r.dct_of
    exact .base (.dK (R.fh _ _ hs))
  | exc => cases hk
  | ins => cases hk
  | any => cases hk
theorem kit_all (t : Ty) (d : D) (m : MH) (hk : tyKnown m d = true) : kitB (dTy d) (tyName t) = some (isTy m t d) := by
  cases d with
  | ref l i =>
    unfold tyKnown at hk
    cases g : get m l i with
    | none => simp only [g] at hk; cases hk
    | some o =>
      cases o with
      | lst xs =>
        have : isTy m t (.ref l i) = (match t with | .list => true | _ => false) := by cases t <;> simp only [isTy, g]
        rw [this]
        clear g this hk
        show kitB "list" (tyName t) = _
        cases t <;> decide +kernel
  | non => show kitB "NoneType" (tyName t) = some _; cases t <;> (simp only [isTy]; decide +kernel)
  | bl b => show kitB "bool" (tyName t) = some _; cases t <;> (simp only [isTy]; decide +kernel)
  | int b => show kitB "int" (tyName t) = some _; cases t <;> (simp only [isTy]; decide +kernel)
  | str b => show kitB "str" (tyName t) = some _; cases t <;> (simp only [isTy]; decide +kernel)
  | tup b => show kitB "tuple" (tyName t) = some _; cases t <;> (simp only [isTy]; decide +kernel)
  | lst b => show kitB "list" (tyName t) = some _; cases t <;> (simp only [isTy]; decide +kernel)
  | dct ks b => show kitB "dict" (tyName t) = some _; cases t <;> (simp only [isTy]; decide +kernel)
  | ins => cases hk
  | any => cases hk
  | exc => cases hk
  | scr b => show kitB "list" (tyName t) = some _; cases t <;> (simp only [isTy]; decide +kernel)
section
variable {X : Cx}
def rTy (K : KX) (t : Ty) : List V → Hp → VK → Prop := fun xs H Q => ∃ b env hd G m ρ F σ d v, xs = [v, .ty (tyName t)] ∧ RS K b env hd G m ρ F σ H ∧ Rep K F ρ m d v ∧ tyKnown m d = true ∧ Q (.bl (isTy m t d)) H
theorem call_isTy' (t : Ty) : CallR X (.builtin "isinstance") (rTy (kx X) t) := CallR.weak call_isi fun vs H Q ⟨b, env, hd, G, m, ρ, F, σ, d, v, e, R, r, hk, q⟩ =>
  ⟨v, .ty (tyName t), .type (dTy d), .type (tyName t), isTy m t d, e, .ty _, ty_rep R.rl hk r, kit_ty (kit_all t d m hk), q⟩
end
def tyStr : Ty → Str
  | .int => "int" | .bool => "bool" | .tuple => "tuple" | .list => "list" | .str => "str"
theorem boot_ty (t : Ty) : bootBuiltins (tyStr t) = some (.type (tyName t)) := by cases t <;> decide +kernel
theorem pe_isi {X : Cx} {rx : PySem.W.Frag → Exc → Value → Option Addr → Hp → Prop} {W : WX} {a : Expr} {fa : Env → MH → Res D} {p p2 pos : Pos} (t : Ty) (ha : PE X a (SE (kx X) rx W fa)) (hs : notStar a = true)
    (hg : Gl X "isinstance") (hm : X.mg "isinstance" = none) (hg2 : Gl X (tyStr t)) (hm2 : X.mg (tyStr t) = none) :
    PE X (.Call (.Name "isinstance" p) [a, .Name (tyStr t) p2] [] pos) (SE (kx X) rx W fun v m => (fa v m).bind fun x m => if tyKnown m x then .ok (.bl (isTy m t x)) m else .fail) := by
  have h2 : PE X (.Name (tyStr t) p2) (tC (.ty (tyName t))) := pe_bltn hg2 hm2 (boot_ty t) rfl (by cases t <;> decide) (by cases t <;> decide)
  have hpa := pa_cons ha (pa_cons h2 pa_nil rfl) (star_ok hs)
  refine PE.weak (pe_callB (call_isTy' t) hg hm (by decide +kernel) hpa (by decide) (by decide) (star_ok hs) (by rfl)) fun σ H Q ⟨b, env, hd, G, m, ρ, F, R, p⟩ => ?_
  refine ⟨b, env, hd, G, m, ρ, F, R, p.bind.imp (fun x m1 p1 ρ1 F1 H1 v R1 => ?_) fun _ _ z => z⟩
  split at p1
  · rename_i hk
    exact ⟨b, env, (x, v) :: hd, G, m1, ρ1, F1, σ, x, v, rfl, R1, R1.top, hk, p1 ρ1 F1 H1 _ ((R1.held fun _ => List.mem_cons_of_mem _).hold (.bl _))⟩
  · exact p1.elim
end Fw

set_option Elab.async false
set_option linter.all false
set_option maxRecDepth 100000
set_option maxHeartbeats 1000000
set_option autoImplicit false
/-! ## Fw5: defs and their calls (nothing is being shown around: guards) -/
namespace Fw
open PySem PySem.Spec PyProof.Rows L2

structure FnG (P : Program) (w : World) (K : PySem.W.Frag) (mg : Str → Option Value) (base : Heap) (k : Nat) (f : Addr) (fd : FuncData) (ps : List Str) (sp : Sp) : Prop where
  len : ∀ vs H Q E, sp vs H Q E → vs.length = ps.length
  run : ∀ (A : Around) (outer : List PySem.Env) (s : Shared) (H : Hp) (args : Args) (us : List Value) (vs : List V) (Q : VK) (E : XK), Room k A → A.guards = some [] → Env0 P w K mg base A outer s H → BindsTo s fd args (ps.zip us) →
    Vals vs us → sp vs H Q E → codeAny (model P w) A (.call (.ref f) args) (CR (L2.CX P w) outer P w H s Q E) s
theorem FnG.mono {P : Program} {w : World} {K : PySem.W.Frag} {mg : Str → Option Value} {base : Heap} {j k : Nat} {f : Addr} {fd : FuncData} {ps : List Str} {sp : Sp} (F : FnG P w K mg base j f fd ps sp) (h : j ≤ k) : FnG P w K mg base k f fd ps sp :=
  ⟨F.len, fun A outer s H args us vs Q E hr => F.run A outer s H args us vs Q E (hr.mono h)⟩
section
variable {X : Cx} {k : Nat} {f : Addr} {fd : FuncData} {ps : List Str} {sp : Sp} {dvs : List V} {ds : List Value} {E : L2.St → XK}
theorem callG {pins : List (Addr × Obj)} {σ : L2.St} {H : Hp} {s : Shared} {Q : VK} {us : List Value} {vs : List V} {args : Args} (F : FnG X.prog X.w X.K X.mg X.base k f fd ps sp) (hr : Room k X.A) (hg : X.A.guards = some []) (hx : PassesAt (L2.CX X.prog X.w) X σ (E σ))
    (I : Inv X pins σ H s) (hb : us.length = ps.length → BindsTo s fd args (ps.zip us)) (r : Vals vs us) (h : sp vs H Q (E σ)) : codeAny (model X.prog X.w) X.A (.call (.ref f) args) (fun r s' => match r with
      | .ok (.ret v) => EP X pins σ Q v s'
      | .ok _ => False
      | .error e => X.xe e s') s := by
  have hl : us.length = ps.length := r.length.symm.trans (F.len _ _ _ _ h)
  refine codeAny_mono (F.run X.A X.stack s H args us vs Q (E σ) hr hg I.env0 (hb hl) r h) fun r s' hq => ?_
  match r, hq with
  | .error e, hq => exact hx pins H s e s' I hq
  | .ok (.ret u), hq => exact I.after hq
  | .ok .next, hq => exact hq.elim
  | .ok .brk, hq => exact hq.elim
  | .ok .cont, hq => exact hq.elim
variable {x : Str} {p pos : Pos} {e : Expr} {es : List Expr} {t : TA}
theorem goG (F : FnG X.prog X.w X.K X.mg X.base k f fd ps sp) (hr : Room k X.A) (hgd : X.A.guards = some []) (hb : Binds X.K fd ps ds) (hd : Vals dvs ds) (hx : ∀ σ, PassesAt (L2.CX X.prog X.w) X σ (E σ))
    {pins : List (Addr × Obj)} {σ : L2.St} {Q : VK} {us : List Value} {s1 : Shared} {vs : List V} {H1 : Hp} (I1 : Inv X pins σ H1 s1) (r : Vals vs us) (q : sp (vs ++ dvs) H1 Q (E σ)) : wpAny (model X.prog X.w) X.A (call (.ref f) us) (EP X pins σ Q) X.xe s1 :=
  wpAny_call (callG F hr hgd (hx σ) I1 (fun hl => hb s1 us I1.kIn hl) (r.append hd) q)
theorem pe_callG (F : FnG X.prog X.w X.K X.mg X.base k f fd ps sp) (hr : Room k X.A) (hgd : X.A.guards = some []) (hg : Gl X x) (hm : X.mg x = some (.ref f)) (hk : PySem.W.keepIn X.K (.ref f) = true) (hb : Binds X.K fd ps ds) (hd : Vals dvs ds)
    (hx : ∀ σ, PassesAt (L2.CX X.prog X.w) X σ (E σ)) (ha : PA X (e :: es) t) (hdb : (x == ("__debug__" : Str)) = false) (hs : (e :: es).all notStar = true) :
    PE X (.Call (.Name x p) (e :: es) [] pos) (fun σ H Q => t σ H fun vs H1 => sp (vs ++ dvs) H1 Q (E σ)) := by
  refine ⟨fun pins s σ H Q I h => wpAny_Call_Name_kw (ld_glob I hg hm ?_ hdb)⟩
  simp only [List.all_cons, Bool.and_eq_true] at hs
  exact PySem.W.callWith_K (h₀ := X.base) I.ok.mod.kin hk (thn (ha.run pos pins s σ H _ I h) fun us s1 ⟨vs, H1, I1, r, q⟩ => ⟨I1.kIn, goG F hr hgd hb hd hx I1 r q⟩) (star_ok hs.1) (star_none hs.2)
theorem pe_callG0 (F : FnG X.prog X.w X.K X.mg X.base k f fd ps sp) (hr : Room k X.A) (hgd : X.A.guards = some []) (hg : Gl X x) (hm : X.mg x = some (.ref f)) (hk : PySem.W.keepIn X.K (.ref f) = true) (hb : Binds X.K fd ps ds) (hd : Vals dvs ds)
    (hx : ∀ σ, PassesAt (L2.CX X.prog X.w) X σ (E σ)) (hdb : (x == ("__debug__" : Str)) = false) : PE X (.Call (.Name x p) [] [] pos) (fun σ H Q => sp dvs H Q (E σ)) :=
  ⟨fun pins s σ H Q I h => wpAny_Call_Name_kw (ld_glob I hg hm (PySem.W.callWith_K0 I.kIn hk (goG (us := []) F hr hgd hb hd hx I .nil h)) hdb)⟩
end

section
variable {P : Program} {w : World} {K : PySem.W.Frag} {mg : Str → Option Value} {base : Heap} {k : Nat} {f : Addr} {x qual : Str} {params : Arguments} {body : List Stmt} {scope : Scope} {dvs : List V} {kws : List (Str × V)} {fd : FuncData} {N ps : List Str} {sp : Sp}
/-- the end of a body is the call's end -/
theorem end_of {A : Around} {outer : List PySem.Env} {s s' : Shared} {H : Hp} {Q : VK} {E : XK} {cdv : Value} {fl : Flow}
    (h : SP (cxOf (L2.CX P w) P w K mg base N qual scope f cdv A outer s H E) [] { nx := fun _ H' => Q .non H', rt := Q } fl s') : CR (L2.CX P w) outer P w H s Q E (.ok (.ret (match fl with | .ret u => u | _ => .none))) s' := by
  have fin : ∀ {σ' : L2.St} {H' : Hp} {v : V} {u : Value}, Inv (cxOf (L2.CX P w) P w K mg base N qual scope f cdv A outer s H E) [] σ' H' s' → RelV v u → Q v H' → CE outer P w H s Q u s' :=
    fun {σ' H' v u} J r q => ⟨v, H', J.os, J.bare, J.base, J.hok, r, q⟩
  match fl, h with
  | .ret u, ⟨v, σ', H', J, r, q⟩ => exact fin J r q
  | .next, ⟨σ', H', J, q⟩ => exact fin (v := .non) J rfl q
  | .brk, ⟨_, _, _, q⟩ => exact q.elim
  | .cont, ⟨_, _, _, q⟩ => exact q.elim
/-- a def by its body -/
theorem fnG_of (F : FunD K x qual params body scope dvs kws f fd) (S : FnScope N ps scope) (len : ∀ vs H Q E, sp vs H Q E → vs.length = ps.length)
    (hbody : ∀ (cdv : Value) (A : Around) (outer : List PySem.Env) (s : Shared) (H : Hp) (vs : List V) (Q : VK) (E : XK), Room k (A.deeper (envOfC qual scope s.heap.objs.size f cdv)) → (A.deeper (envOfC qual scope s.heap.objs.size f cdv)).guards = some [] → sp vs H Q E →
      ∃ t, PSs (cxOf (L2.CX P w) P w K mg base N qual scope f cdv A outer s H E) body t ∧ t { nx := fun _ H' => Q .non H', rt := Q } (start N vs) H) : FnG P w K mg base (k + 1) f fd ps sp := by
  obtain ⟨oc, od, dV, kV, doc, pm, an, cdv, ct, osl, rfl, lk, hcd, _, _⟩ := F.ex
  constructor
  · exact len
  intro A outer s H args us vs Q E hr hgd e0 hb r hsp
  have hin : K.In s.heap := e0.mod.kin.keeps fun b o e => (e0.bs b o e).1
  have hlim : s.heap.NoLimit := e0.mod.nolimit.keeps fun b o e => (e0.bs b o e).1
  refine codeAny_call_function hr.depth (hin _ _ lk) rfl S.co S.gen rfl (PySem.W.codeRec_of hin hcd) (hb _ _ _ _ (wpAny_newFunctionEnv_cells S.kind (fun y hy => ?_) fun env he s1 ic => ?_))
  · have hp : y.1 ∈ ps := by
      obtain ⟨n, v⟩ := y
      exact (List.of_mem_zip hy).1
    exact (S.par y.1 hp).imp id fun q => ⟨q, PySem.W.cellsFrom_some _ _ _ (.inl q)⟩
  · cases he
    obtain ⟨t, ht, hq⟩ := hbody cdv A outer s H vs Q E (hr.deeper _) hgd hsp
    have I := inv_start (E := E) (CX := L2.CX P w) (mg := mg) (f := f) (cd := cdv) (qual := qual) S hr.hd e0 (len _ _ _ _ hsp) r ic
    refine ⟨hlim.keeps ic.toInCall.keep, codeAny_func (wpAny_mono (ht.run [] s1 _ H _ I hq) (fun fl s' hs => ?_) fun _ _ hs => hs)⟩
    have q := end_of hs
    cases fl <;> exact q
end
end Fw

set_option Elab.async false
set_option linter.all false
set_option maxRecDepth 100000
set_option maxHeartbeats 1000000
set_option autoImplicit false
/-! ## Fw6: a call, what is walked, targets -/
namespace Fw
open PySem PySem.Spec PyProof.Rows L2

/-- what stands aside stays aside -/
def Keep (F : Hp) (ρ : Ro) (m : MH) (H : Hp) (F' : Hp) (ρ' : Ro) (m' : MH) (H' : Hp) : Prop :=
  ∀ a o, H a = some o → F a = none → (∀ l i, Lv m l i → ρ l i ≠ a) → H' a = some o ∧ F' a = none ∧ ∀ l i, Lv m' l i → ρ' l i ≠ a
section
variable (K : KX) (rx : PySem.W.Frag → Exc → Value → Option Addr → Hp → Prop)
/-- a def's promise from what it computes -/
def spF (c : List D → MH → Res D) : Sp := fun vs H Q E => ∃ F ρ m xs, Rl K F ρ m H ∧ RepL K F ρ m xs vs ∧
  Post (c xs m) (fun d m' => ∀ F' ρ' H' v, Ext F ρ m F' ρ' m' → Rl K F' ρ' m' H' → m'.length = m.length → Keep F ρ m H F' ρ' m' H' → Rep K F' ρ' m' d v → Q v H')
    (fun x m' => ∀ F' ρ' H' c dd, Ext F ρ m F' ρ' m' → Rl K F' ρ' m' H' → m'.length = m.length → Keep F ρ m H F' ρ' m' H' → rx K.k x c dd H' → E c dd H')
end
section
variable {K : KX} {rx : PySem.W.Frag → Exc → Value → Option Addr → Hp → Prop} {W : WX}
theorem RS.back {b : Bs} {env : Env} {hd : List (D × V)} {G : Hp} {m m' : MH} {ρ ρ' : Ro} {F F' : Hp} {σ : L2.St} {H H' : Hp} (R : RS K b env hd G m ρ F σ H) (x : Ext F ρ m F' ρ' m') (r : Rl K F' ρ' m' H') (hl : m'.length = m.length) (k : Keep F ρ m H F' ρ' m' H') :
    RS K b env hd G m' ρ' F' σ H' :=
  ⟨r, R.len, fun i d e => by
    obtain ⟨v, h1, h2⟩ := R.env i d e
    exact ⟨v, h1, h2.ext x⟩, fun p hp => (R.hd p hp).ext x, fun a o e => by
    obtain ⟨h1, h2, h3⟩ := R.pin a o e
    exact k a o h1 h2 h3, hl.trans R.ml, R.xt.trans x⟩
/-- a call in a state -/
theorem spF_of {c : List D → MH → Res D} {b : Bs} {env : Env} {hd : List (D × V)} {G : Hp} {m : MH} {ρ : Ro} {F : Hp} {σ : L2.St} {H : Hp} {xs : List D} {vs : List V} {Q : VK} (R : RS K b env hd G m ρ F σ H) (rr : RepL K F ρ m xs vs)
    (p : Post (c xs m) (fun d m' => ∀ ρ' F' H' v, RS K b env ((d, v) :: hd) G m' ρ' F' σ H' → Q v H') (Ex K rx W b env hd G σ)) : spF K rx c vs H Q (WE W σ) :=
  ⟨F, ρ, m, xs, R.rl, rr, p.imp (fun d m' q F' ρ' H' v x r hl k hv => q ρ' F' H' v ((R.back x r hl k).hold hv)) fun x m' q F' ρ' H' c dd xt r hl k hx => q ρ' F' H' c dd (R.back xt r hl k) hx⟩
end

/-! ### where code runs -/
structure CallOk {ι : Type} (rx : PySem.W.Frag → Exc → Value → Option Addr → Hp → Prop) (nm : ι → Str) (call : ι → List D → MH → Res D) (k : Nat) (P : Program) (w : World) (K : PySem.W.Frag) (mg : Str → Option Value) (base : Heap) (f : ι) : Prop where
  ex : ∃ fa fd ps, FnG P w K mg base k fa fd ps (spF (k0 K) rx (call f)) ∧ mg (nm f) = some (.ref fa) ∧ PySem.W.keepIn K (.ref fa) = true ∧ Binds K fd ps []
/-- what an id stands for: a def; the __init__ of a class; a method of it -/
inductive Kd where
  | fn | ini (c : Str) | meth (c m : Str)
def Kd.isFn : Kd → Bool
  | .fn => true
  | _ => false
def Kd.isMk (c : Str) : Kd → Bool
  | .ini c' => decide (c' = c)
  | _ => false
def Kd.isLen (c : Str) : Kd → Bool
  | .meth c' m => decide (c' = c) && decide (m = ("__len__" : Str))
  | _ => false
/-- what is told of an own class with its attributes' names -/
structure ClsW (K : PySem.W.Frag) (p : Str × List Str) : Prop where
  cls : Cls K (He.ga K p.1)
  no : ∀ f ∈ p.2, NoAttr K (He.ga K p.1) f
def KeepX (a dx : Addr) (F : Hp) (ρ : Ro) (m : MH) (H : Hp) (F' : Hp) (ρ' : Ro) (m' : MH) (H' : Hp) : Prop :=
  ∀ b o, b ≠ a → b ≠ dx → H b = some o → F b = none → (∀ l i, Lv m l i → ρ l i ≠ b) → H' b = some o ∧ F' b = none ∧ ∀ l i, Lv m' l i → ρ' l i ≠ b
/-- an __init__'s promise: of a new instance without attributes it makes what is computed -/
def spI (K : KX) (rx : PySem.W.Frag → Exc → Value → Option Addr → Hp → Prop) (c : Str) (call : List D → MH → Res D) : Sp := fun vs H Q E => ∃ F ρ m x v a dx, vs = [V.ref a, v] ∧ H a = some (.ins (He.ga K.k c) dx []) ∧ H dx = some (.own a) ∧ dx ≠ a ∧ F a = none ∧ F dx = none ∧ (∀ l i, Lv m l i → ρ l i ≠ a ∧ ρ l i ≠ dx) ∧ Rl K F ρ m H ∧ Rep K F ρ m x v ∧
  Post (call [x] m) (fun d m' => ∀ F' ρ' H', Ext F ρ m F' ρ' m' → Rl K F' ρ' m' H' → m'.length = m.length → KeepX a dx F ρ m H F' ρ' m' H' → Rep K F' ρ' m' d (.ref a) → Q .non H')
    (fun x m' => ∀ F' ρ' H' c dd, Ext F ρ m F' ρ' m' → Rl K F' ρ' m' H' → m'.length = m.length → KeepX a dx F ρ m H F' ρ' m' H' → rx K.k x c dd H' → E c dd H')
structure MkOk {ι : Type} (rx : PySem.W.Frag → Exc → Value → Option Addr → Hp → Prop) (call : ι → List D → MH → Res D) (k : Nat) (P : Program) (w : World) (K : PySem.W.Frag) (mg : Str → Option Value) (base : Heap) (f : ι) (c : Str) : Prop where
  ex : ∃ i fd ps, FnG P w K mg base k i fd ps (spI (k0 K) rx c (call f)) ∧ mg c = some (.ref (He.ga K c)) ∧ L2.Mk K (He.ga K c) i ∧ Binds K fd ps []
structure LenOk {ι : Type} (rx : PySem.W.Frag → Exc → Value → Option Addr → Hp → Prop) (call : ι → List D → MH → Res D) (k : Nat) (P : Program) (w : World) (K : PySem.W.Frag) (mg : Str → Option Value) (base : Heap) (f : ι) (c : Str) : Prop where
  ex : ∃ g fd ps, FnG P w K mg base k g fd ps (spF (k0 K) rx (call f)) ∧ PySem.W.findIn K (.ref (He.ga K c)) "__len__" = some (some (.ref g)) ∧ PySem.W.isFn K (.ref g) = true ∧ Binds K fd ps []
def freeNames : List Str := ["len", "abs", "min", "max", "repr", "sum", "all", "any", "tuple", "list", "sorted", "isinstance", "range", "int", "bool", "str", "enumerate", "zip", "ValueError", "set"]
/-- what is known where a text is looked at: the defs' names, the slots' names, the scope, a block's own scope, whether an exception is being handled, the own exception classes, the module's whole numbers -/
structure Look (ι : Type) where
  nm : ι → Str
  N : List Str
  sc : Scope
  bc : Option Scope := none
  hot : Bool := false
  cl : List (Str × List Str) := []
  gl : List (Str × Int) := []
  kd : ι → Kd := fun _ => .fn
  wl : List (Str × List Str) := []
structure Ctx {ι : Type} (rx : PySem.W.Frag → Exc → Value → Option Addr → Hp → Prop) (L : Look ι) (call : ι → List D → MH → Res D) (k : Nat) (W : WX) (X : Cx) : Prop where
  hN : X.N = L.N
  hs : X.env.scope = L.sc
  nd : L.N.Nodup
  calm : L.hot = false → X.calm = true
  fn : ∀ x, (match L.bc with | none => True | some s => s.names.lookup x = some .cell) → X.fn x = true
  room : L.hot = false → Room (k + 1) X.A
  units : X.A.units + 64 < cLine
  smd : SmD X.K
  gd : X.A.guards = some []
  pass : L.hot = false → ∀ σ, PassesAt (L2.CX X.prog X.w) X σ (WE W σ)
  calls : ∀ f, (L.kd f).isFn = true → CallOk rx L.nm call k X.prog X.w X.K X.mg X.base f
  mks : ∀ f c, (L.kd f).isMk c = true → MkOk rx call k X.prog X.w X.K X.mg X.base f c
  lens : ∀ f c, (L.kd f).isLen c = true → LenOk rx call k X.prog X.w X.K X.mg X.base f c
  cw : ∀ p ∈ L.wl, ClsW X.K p
  free : ∀ x ∈ freeNames, X.mg x = none
  glb : ∀ p ∈ L.gl, ∃ t, X.mg p.1 = some (.int p.2 t)
  tk : L.hot = false → Takes X W
  top : L.hot = false → L.bc = none → X.stack = X.env :: X.outer ∧ X.env.frame = some X.env.locals
  cl : L.cl = clsOf X.prog
  rxd : rx = rxO L.cl
  exf : ∀ p ∈ L.cl, ExcFacts X.K X.mg L.cl p
section
variable {ι : Type} {rx : PySem.W.Frag → Exc → Value → Option Addr → Hp → Prop} {L : Look ι} {call : ι → List D → MH → Res D} {k : Nat} {W : WX} {X : Cx}
variable {e : Expr} {es : List Expr} {fl : Env → MH → Res (List D)} {p pos : Pos}
theorem pe_call' (C : Ctx rx L call k W X) (hh : L.hot = false) (f : ι) (hf : (L.kd f).isFn = true) (hg : Gl X (L.nm f)) (hdb : (L.nm f == ("__debug__" : Str)) = false) (ha : PA X (e :: es) (SA (kx X) rx W fl)) (hs : (e :: es).all notStar = true) :
    PE X (.Call (.Name (L.nm f) p) (e :: es) [] pos) (SE (kx X) rx W fun v m => (fl v m).bind fun xs m => call f xs m) := by
  obtain ⟨fa, fd, ps, hF, hm, hk, hb⟩ := (C.calls f hf).ex
  rw [kx_calm (C.calm hh)] at ha ⊢
  refine PE.weak (pe_callG (E := WE W) hF ((C.room hh).mono (Nat.le_succ k)) C.gd hg hm hk hb .nil (C.pass hh) ha hdb hs) fun σ H Q q => ?_
  refine sa_then (r := fun vs H1 Q => spF (k0 X.K) rx (call f) (vs ++ []) H1 Q (WE W σ)) (fun b env hd G m ρ F H xs vs R rr p => ?_) q
  rw [List.append_nil]
  exact spF_of R rr p
theorem pe_call0' (C : Ctx rx L call k W X) (hh : L.hot = false) (f : ι) (hf : (L.kd f).isFn = true) (hg : Gl X (L.nm f)) (hdb : (L.nm f == ("__debug__" : Str)) = false) :
    PE X (.Call (.Name (L.nm f) p) [] [] pos) (SE (kx X) rx W fun v m => (Res.ok [] m).bind fun xs m => call f xs m) := by
  obtain ⟨fa, fd, ps, hF, hm, hk, hb⟩ := (C.calls f hf).ex
  rw [kx_calm (C.calm hh)]
  exact PE.weak (pe_callG0 (E := WE W) hF ((C.room hh).mono (Nat.le_succ k)) C.gd hg hm hk hb .nil (C.pass hh) hdb) fun σ H Q ⟨b, env, hd, G, m, ρ, F, R, p⟩ => spF_of R .nil p
end

/-! ### what is walked -/
/-- an iterator walks what it should, while hs is held -/
def Walks' (K : KX) (hs : List (D × V)) (k : Wk) (J : It) : Prop := match k with
  | .items xs => ∀ i b env hd G m ρ F σ H, RS K b env (hs ++ hd) G m ρ F σ H →
      (∀ x, xs[i]? = some x → J.go i H ∧ ∀ v H', J.yld i H v H' → ∃ F', RS K b env ((x, v) :: (hs ++ hd)) G m ρ F' σ H') ∧ (i = xs.length → J.stop i H)
  | .live l j n => ∀ i b env hd G m ρ F σ H, RS K b env (hs ++ hd) G m ρ F σ H → ∀ ys, get m l j = some (.lst ys) →
      (∀ x, ys[i]? = some x → J.go i H ∧ ∀ v H', J.yld i H v H' → H' = H ∧ Rep K F ρ m x v) ∧ (ys.length ≤ i → J.stop i H)
def SI (K : KX) (rx : PySem.W.Frag → Exc → Value → Option Addr → Hp → Prop) (W : WX) (w : Env → MH → Res Wk) : TI := fun σ H R => ∃ b env hd G m ρ F, RS K b env hd G m ρ F σ H ∧
  Post (w env m) (fun k m' => ∀ ρ' F' H' J hs, RS K b env (hs ++ hd) G m' ρ' F' σ H' → Walks' K hs k J → R J H') (Ex K rx W b env hd G σ)
theorem walks_tup {K : KX} {xs : List D} {a : Addr} : Walks' K [(.tup xs, .ref a)] (.items xs) (Itt K.k a) := by
  intro i b env hd G m1 ρ1 F1 σ H1 R
  obtain ⟨a', vs, e, hq, z, r⟩ := (R.hd (.tup xs, .ref a) (by simp)).tup_of
  cases e
  have h1 : SqT K.k H1 a vs := SqT.ext R.rl.fh hq
  refine ⟨fun d e => ?_, fun hl => ⟨vs, h1, by rw [← r.length]; exact Nat.le_of_eq hl.symm⟩⟩
  obtain ⟨v, hv, rv⟩ := r.get e
  refine ⟨⟨vs, v, h1, hv⟩, fun u H' ⟨e1, e2⟩ => ?_⟩
  subst e1
  have := e2 vs h1
  rw [hv] at this
  cases this
  exact ⟨F1, R.hold rv⟩
theorem walks_lst {K : KX} {xs : List D} {a : Addr} : Walks' K [(.lst xs, .ref a)] (.items xs) (Itl K.k a) := by
  intro i b env hd G m1 ρ1 F1 σ H1 R
  obtain ⟨a', vs, e, hq, z, r⟩ := (R.hd (.lst xs, .ref a) (by simp)).lst_of
  cases e
  have h1 : SqL K.k H1 a vs := SqL.of (R.rl.fh _ _ hq)
  refine ⟨fun d e => ?_, fun hl => ⟨vs, h1, by rw [← r.length]; exact Nat.le_of_eq hl.symm⟩⟩
  obtain ⟨v, hv, rv⟩ := r.get e
  refine ⟨⟨vs, v, h1, hv⟩, fun u H' ⟨e1, e2⟩ => ?_⟩
  subst e1
  have := e2 vs h1
  rw [hv] at this
  cases this
  exact ⟨F1, R.hold rv⟩
theorem walks_scr {K : KX} {xs : List D} {a : Addr} : Walks' K [(.scr xs, .ref a)] (.items xs) (Itl K.k a) := by
  intro i b env hd G m1 ρ1 F1 σ H1 R
  obtain ⟨a', vs, e, hq, z, r⟩ := (R.hd (.scr xs, .ref a) (by simp)).scr_of
  cases e
  have h1 : SqL K.k H1 a vs := SqL.ext R.rl.fh hq
  refine ⟨fun d e => ?_, fun hl => ⟨vs, h1, by rw [← r.length]; exact Nat.le_of_eq hl.symm⟩⟩
  obtain ⟨v, hv, rv⟩ := r.get e
  refine ⟨⟨vs, v, h1, hv⟩, fun u H' ⟨e1, e2⟩ => ?_⟩
  subst e1
  have := e2 vs h1
  rw [hv] at this
  cases this
  exact ⟨F1, R.hold rv⟩
theorem walks_range {K : KX} (lo hi : Int) : Walks' K [] (.items (rangeD lo hi)) (Itr lo (hi - lo).toNat) := by
  intro i b env hd G m1 ρ1 F1 σ H1 R
  refine ⟨fun d e => ?_, fun hl => by simp [rangeD] at hl; simp [Itr]; omega⟩
  unfold rangeD at e
  rw [List.getElem?_map] at e
  obtain ⟨k, e1, rfl⟩ := Option.map_eq_some_iff.mp e
  have hk : k = i ∧ i < (hi - lo).toNat := by
    rw [List.getElem?_eq_some_iff] at e1
    obtain ⟨h1, h2⟩ := e1
    simp at h1 h2
    omega
  obtain ⟨rfl, hlt⟩ := hk
  refine ⟨hlt, fun u H' ⟨e1, e2⟩ => ?_⟩
  subst e1 e2
  exact ⟨F1, R.hold (.int _)⟩
theorem walks_live {K : KX} {l j n : Nat} {a : Addr} : Walks' K [(.ref l j, .ref a)] (.live l j n) (Itl K.k a) := by
  intro i b env hd G m1 ρ1 F1 σ H1 R zs g1
  obtain ⟨e, hl⟩ := (R.hd (.ref l j, .ref a) (by simp)).ref_of
  cases e
  obtain ⟨_, vs, hv, z, rr⟩ := R.rl.ob l j _ g1
  refine ⟨fun d hd' => ?_, fun hl => ⟨vs, SqL.of hv, by rw [← rr.length]; exact hl⟩⟩
  obtain ⟨v, hv', rv⟩ := rr.get hd'
  refine ⟨⟨vs, v, SqL.of hv, hv'⟩, fun u H' ⟨e1, e2⟩ => ?_⟩
  have := e2 vs (SqL.of hv)
  rw [hv'] at this
  cases this
  exact ⟨e1, rv⟩

section
variable {X : Cx} {tg l : Expr} {tl : TE}
/-- a list or a tuple, whichever it is -/
theorem pi_any (hl : PE X l tl) : PI X tg l (fun σ H R => tl σ H fun x H1 => ∃ a, x = .ref a ∧ (((∃ xs, SqL X.K H1 a xs) ∧ R (Itl X.K a) H1) ∨ ((∃ xs, SqT X.K H1 a xs) ∧ R (Itt X.K a) H1))) := by
  constructor
  intro pins s σ H R I h
  refine wpAny_mono (hl.run pins s σ H _ I h) (fun v s1 hv => ?_) fun _ _ z => z
  obtain ⟨x, H1, I1, r1, a, rfl, q⟩ := hv
  cases r1
  have new : ∀ o : Obj, Inv X pins σ H1 { s1 with heap := s1.heap.push o } := fun o => I1.kept (t' := s1.toks) fun _ _ => Heap.get?_push_of_some _
  have fresh : ∀ b ∈ [s1.heap.objs.size], FpOk X pins H1 b := fun b hb => by
    cases List.mem_singleton.mp hb
    exact I1.fpOk (Nat.le_refl _) (I1.hok.fresh (Nat.le_refl _))
  rcases q with ⟨⟨xs, hq⟩, q⟩ | ⟨⟨xs, hq⟩, q⟩
  · obtain ⟨its, _, p, _⟩ := I1.list hq
    exact wpAny_pyIter_list p.isList ⟨_, _, _, _, H1, rfl, new _, turn_list a _, ⟨_, Heap.get?_push_size _ rfl, rfl, rfl⟩, fresh, q⟩
  · obtain ⟨its, _, p, _⟩ := I1.tuple hq
    exact wpAny_pyIter_tuple p ⟨_, _, _, _, H1, rfl, new _, turn_tuple a _, ⟨_, Heap.get?_push_size _ rfl, rfl, rfl⟩, fresh, q⟩
end
section
variable {X : Cx} {rx : PySem.W.Frag → Exc → Value → Option Addr → Hp → Prop} {W : WX} {tg e a b : Expr} {es : List Expr} {fe fa fb : Env → MH → Res D} {fl : Env → MH → Res (List D)} {p pos : Pos}
theorem pi_val (h : PE X e (SE (kx X) rx W fe)) : PI X tg e (SI (kx X) rx W fun v m => (fe v m).bind fun x m => (match x with
    | .tup xs => .ok (.items xs) m
    | .lst xs => .ok (.items xs) m
    | .scr xs => .ok (.items xs) m
    | .ref l i => (match get m l i with
      | some (.lst xs) => .ok (.live l i xs.length) m
      | _ => .fail)
    | _ => .fail)) :=
  PI.weak (pi_any h) fun σ H R' ⟨b, env, hd, G, m, ρ, F, R, p⟩ => by
    refine ⟨b, env, hd, G, m, ρ, F, R, p.bind.imp (fun x m1 p1 ρ1 F1 H1 v R1 => ?_) fun _ _ z => z⟩
    cases x with
    | tup xs =>
      obtain ⟨a, vs, rfl, hs, z, rr⟩ := R1.top.tup_of
      exact ⟨a, rfl, .inr ⟨⟨vs, SqT.ext R1.rl.fh hs⟩, p1 ρ1 F1 H1 _ [_] R1 walks_tup⟩⟩
    | lst xs =>
      obtain ⟨a, vs, rfl, hs, z, rr⟩ := R1.top.lst_of
      exact ⟨a, rfl, .inl ⟨⟨vs, SqL.of (R1.rl.fh _ _ hs)⟩, p1 ρ1 F1 H1 _ [_] R1 walks_lst⟩⟩
    | scr xs =>
      obtain ⟨a, vs, rfl, hs, z, rr⟩ := R1.top.scr_of
      exact ⟨a, rfl, .inl ⟨⟨vs, SqL.ext R1.rl.fh hs⟩, p1 ρ1 F1 H1 _ [_] R1 walks_scr⟩⟩
    | ref l i =>
      obtain ⟨e, hl⟩ := R1.top.ref_of
      cases e
      cases g : get m1 l i with
      | none => unfold Lv at hl; rw [g] at hl; cases hl
      | some o =>
        cases o with
        | lst xs =>
          simp only [g] at p1
          obtain ⟨_, vs, hv, z, rr⟩ := R1.rl.ob l i _ g
          exact ⟨_, rfl, .inl ⟨⟨vs, SqL.of hv⟩, p1 ρ1 F1 H1 _ [_] R1 walks_live⟩⟩
    | _ => exact p1.elim
theorem pi_rng1 (hg : Gl X "range") (hm : X.mg "range" = none) (h : PE X a (SE (kx X) rx W fa)) (hs : notStar a = true) : PI X tg (.Call (.Name "range" p) [a] [] pos) (SI (kx X) rx W fun v m => (fa v m).bind fun x m => (match x with
    | .int n => if -(2 ^ 62) ≤ n ∧ n < 2 ^ 62 then .ok (.items (rangeD 0 n)) m else .fail
    | _ => .fail)) :=
  PI.weak (pi_range1 hg hm (pa_cons h pa_nil (star_ok hs)) (star_ok hs)) fun σ H R' ⟨b, env, hd, G, m, ρ, F, R, p⟩ => by
    refine ⟨b, env, hd, G, m, ρ, F, R, p.bind.imp (fun x m1 p1 ρ1 F1 H1 v R1 => ?_) fun _ _ z => z⟩
    have R2 := R1.held (hd' := hd) fun _ => List.mem_cons_of_mem _
    cases x with
    | int n =>
      simp only at p1
      split at p1
      · rename_i z
        refine ⟨n, by rw [R1.top.int_of], z.1, z.2, p1 ρ1 F1 H1 _ [] R2 ?_⟩
        have := walks_range (K := (kx X)) 0 n
        rwa [Int.sub_zero] at this
      · exact p1.elim
    | _ => exact p1.elim
theorem pi_rng2 (hg : Gl X "range") (hm : X.mg "range" = none) (ha : PE X a (SE (kx X) rx W fa)) (hb : PE X b (SE (kx X) rx W fb)) (hs : notStar a = true) (hs2 : notStar b = true) : PI X tg (.Call (.Name "range" p) [a, b] [] pos) (SI (kx X) rx W fun v m => (fa v m).bind fun x m => (fb v m).bind fun y m => (match x, y with
    | .int i, .int n => if (-(2 ^ 62) ≤ i ∧ i < 2 ^ 62) ∧ (-(2 ^ 62) ≤ n ∧ n < 2 ^ 62) then .ok (.items (rangeD i n)) m else .fail
    | _, _ => .fail)) :=
  PI.weak (pi_range2 hg hm (pa_cons ha (pa_cons hb pa_nil (star_ok hs2)) (star_ok hs)) (by rw [star_ok hs, star_ok hs2]; rfl) (star_ok hs2)) fun σ H R' ⟨b, env, hd, G, m, ρ, F, R, p⟩ => by
    refine ⟨b, env, hd, G, m, ρ, F, R, p.bind.imp (fun x m1 p1 ρ1 F1 H1 v R1 => ?_) fun _ _ z => z⟩
    refine ⟨b, env, (x, v) :: hd, G, m1, ρ1, F1, R1, p1.bind.imp (fun y m2 p2 ρ2 F2 H2 u R2 => ?_) fun _ _ z ρ' F' H' c dd R' => z ρ' F' H' c dd (R'.held fun _ => List.mem_cons_of_mem _)⟩
    have hx : Rep (kx X) F2 ρ2 m2 x v := R2.hd (x, v) (by simp)
    have hy := R2.top
    have R3 := R2.held (hd' := hd) fun _ z => List.mem_cons_of_mem _ (List.mem_cons_of_mem _ z)
    cases x with
    | int i =>
      cases y with
      | int n =>
        simp only at p2
        split at p2
        · rename_i z
          exact ⟨i, n, by rw [hx.int_of, hy.int_of], ⟨z.1.1, z.1.2, z.2.1, z.2.2⟩, p2 ρ2 F2 H2 _ [] R3 (walks_range i n)⟩
        · exact p2.elim
      | _ => exact p2.elim
    | _ => cases y <;> exact p2.elim
end

/-! ### targets -/
section
variable (K : KX) (rx : PySem.W.Frag → Exc → Value → Option Addr → Hp → Prop) (W : WX)
def SG (g : D → Env → MH → Res Env) : TG := fun v σ H Q => ∃ b env hd G m ρ F d, RS K b env ((d, v) :: hd) G m ρ F σ H ∧
  Post (g d env m) (fun env' m' => ∀ ρ' F' σ' H', RS K b env' hd G m' ρ' F' σ' H' → Q σ' H') (fun x m' => ∀ ρ' F' σ' H' c dd env', RS K b env' hd G m' ρ' F' σ' H' → rx K.k x c dd H' → W c dd σ' H')
def SGs (g : List D → Env → MH → Res Env) : TGs := fun vs σ H Q => ∃ b env hd G m ρ F ds, RS K b env (ds.zip vs ++ hd) G m ρ F σ H ∧ ds.length = vs.length ∧
  Post (g ds env m) (fun env' m' => ∀ ρ' F' σ' H', RS K b env' hd G m' ρ' F' σ' H' → Q σ' H') (fun x m' => ∀ ρ' F' σ' H' c dd env', RS K b env' hd G m' ρ' F' σ' H' → rx K.k x c dd H' → W c dd σ' H')
end
theorem PG.weak {X : Cx} {e : Expr} {t t' : TG} (h : PG X e t') (k : ∀ v σ H Q, t v σ H Q → t' v σ H Q) : PG X e t := ⟨fun pins s σ H v u Q I r q => h.run pins s σ H v u Q I r (k v σ H Q q)⟩
theorem PGs.weak {X : Cx} {e : List Expr} {t t' : TGs} (h : PGs X e t') (k : ∀ v σ H Q, t v σ H Q → t' v σ H Q) : PGs X e t := ⟨fun pins s σ H v u Q I r q => h.run pins s σ H v u Q I r (k v σ H Q q)⟩
theorem at_set {e : Env} {i j : Nat} {d : D} (hi : i < e.length) : Env.at_ (e.set i (some d)) j = if j = i then some d else e.at_ j := by
  unfold Env.at_
  rw [List.getElem?_set]
  by_cases h : i = j
  · subst h; simp [hi]
  · simp [h, Ne.symm h]
theorem RS.store {K : KX} {b : Bs} {env : Env} {hd : List (D × V)} {G : Hp} {m : MH} {ρ : Ro} {F : Hp} {σ : L2.St} {H : Hp} {d : D} {v : V} {i : Nat} (R : RS K b env hd G m ρ F σ H) (r : Rep K F ρ m d v) (hi : i < env.length) :
    RS K b (env.set i (some d)) hd G m ρ F (σ.set i (some v)) H :=
  ⟨R.rl, by simpa using R.len, fun j e h => by
    rw [at_set hi] at h
    by_cases hj : j = i
    · subst hj
      rw [if_pos rfl] at h
      cases h
      exact ⟨v, List.getElem?_set_self (by rw [← R.len]; exact hi), r⟩
    · rw [if_neg hj] at h
      obtain ⟨u, h1, h2⟩ := R.env j e h
      exact ⟨u, by rw [List.getElem?_set_ne (Ne.symm hj)]; exact h1, h2⟩, R.hd, R.pin, R.ml, R.xt⟩
section
variable {X : Cx} {rx : PySem.W.Frag → Exc → Value → Option Addr → Hp → Prop} {W : WX} {o i : Expr} {es : List Expr} {fo fi : Env → MH → Res D} {ga : D → Env → MH → Res Env} {gb : List D → Env → MH → Res Env} {pos : Pos}
theorem pg_name' {j : Nat} {x : Str} (hN : X.N.Nodup) (hi : X.N[j]? = some x) (hx : Loc X.env.scope x) (hf : X.fn x = true ∨ X.env.scope.names.lookup x = some .local) : PG X (.Name x pos) (SG (kx X) rx W fun d v m => if j < v.length then .ok (v.set j (some d)) m else .fail) :=
  PG.weak (pg_name hN hi hx hf) fun v σ H Q ⟨b, env, hd, G, m, ρ, F, d, R, p⟩ => by
    dsimp only at p
    split at p
    · rename_i z
      exact p ρ F _ H ((R.held fun _ => List.mem_cons_of_mem _).store R.top z)
    · exact p.elim
theorem pgs_nil' : PGs X [] (SGs (kx X) rx W fun ds v m => (match ds with
    | [] => .ok v m
    | _ => .fail)) :=
  PGs.weak pgs_nil fun vs σ H Q ⟨b, env, hd, G, m, ρ, F, ds, R, hl, p⟩ => by
    cases ds with
    | nil =>
      cases vs with
      | nil => exact ⟨rfl, p ρ F σ H R⟩
      | cons => simp at hl
    | cons => exact p.elim
theorem pgs_cons' {a : Expr} (h1 : PG X a (SG (kx X) rx W ga)) (h2 : PGs X es (SGs (kx X) rx W gb)) (hs : notStar a = true) : PGs X (a :: es) (SGs (kx X) rx W fun ds v m => (match ds with
    | d :: r => (ga d v m).bind fun v m => gb r v m
    | _ => .fail)) := by
  refine PGs.weak (pgs_cons h1 h2 (by cases a <;> first | rfl | cases hs)) fun vs σ H Q ⟨b, env, hd, G, m, ρ, F, ds, R, hl, p⟩ => ?_
  cases ds with
  | nil => exact p.elim
  | cons d r =>
    cases vs with
    | nil => simp at hl
    | cons v vr =>
      simp only [List.zip_cons_cons, List.cons_append] at R
      refine ⟨v, vr, rfl, b, env, r.zip vr ++ hd, G, m, ρ, F, d, R, p.bind.imp (fun env1 m1 p1 ρ1 F1 σ1 H1 R1 => ?_) fun x m' q ρ' F' σ' H' c dd env' R' => q ρ' F' σ' H' c dd env' (R'.held fun _ z => List.mem_append_right _ z)⟩
      exact ⟨b, env1, hd, G, m1, ρ1, F1, r, R1, by simpa using hl, p1⟩
theorem pg_tup' {n : Nat} {k : Nat} (hc : X.calm = true) (h : PGs X es (SGs (kx X) rx W gb)) (hn : es.length = n) (hs : es.all notStar = true) : PG X (.Tuple es k pos) (SG (kx X) rx W fun d v m => (match d with
    | .tup xs => if xs.length = n then gb xs v m else .fail
    | _ => .fail)) := by
  have e1 : ∀ es : List Expr, es.all notStar = true → (assignEach es X.env).length = es.length ∧ (assignEach es X.env).findIdx? (·.1) = none := by
    intro es
    induction es with
    | nil => intro _; exact ⟨rfl, rfl⟩
    | cons a as ih =>
      intro h
      simp only [List.all_cons, Bool.and_eq_true] at h
      obtain ⟨i1, i2⟩ := ih h.2
      have : assignEach (a :: as) X.env = (false, assign a X.env) :: assignEach as X.env := by cases a <;> first | rfl | cases h.1
      rw [this]
      exact ⟨by simp [i1], by rw [List.findIdx?_cons]; simp only [Bool.false_eq_true, if_false]; rw [i2]; rfl⟩
  refine PG.weak (pg_tup hc h (n := n) (by rw [(e1 es hs).1, hn]) (e1 es hs).2) fun v σ H Q ⟨b, env, hd, G, m, ρ, F, d, R, p⟩ => ?_
  cases d with
  | tup xs =>
    simp only at p
    split at p
    · rename_i z
      obtain ⟨a, vs, rfl, hq, hz, rr⟩ := R.top.tup_of
      refine ⟨a, vs, rfl, SqT.ext R.rl.fh hq, by rw [← rr.length]; exact z, b, env, hd, G, m, ρ, F, xs, ?_, rr.length, p⟩
      have R1 := R.held (hd' := hd) fun _ => List.mem_cons_of_mem _
      refine ⟨R1.rl, R1.len, R1.env, fun q hq => ?_, R1.pin, R1.ml, R1.xt⟩
      rcases List.mem_append.mp hq with hq | hq
      · obtain ⟨i, hi, e⟩ := List.mem_iff_getElem.mp hq
        have hi1 : i < xs.length := by simp at hi; omega
        obtain ⟨w, hw, rw'⟩ := rr.get (List.getElem?_eq_getElem hi1)
        rw [← e, List.getElem_zip]
        have hi2 : i < vs.length := by simp at hi; omega
        rw [List.getElem?_eq_getElem hi2] at hw
        cases hw
        exact rw'
      · exact R1.hd q hq
    · exact p.elim
  | _ => exact p.elim
end
end Fw

set_option Elab.async false
set_option linter.all false
set_option maxRecDepth 100000
set_option maxHeartbeats 1000000
set_option autoImplicit false
/-! ## Fw7: statements -/
namespace Fw
open PySem PySem.Spec PyProof.Rows L2

section
variable (K : KX) (rx : PySem.W.Frag → Exc → Value → Option Addr → Hp → Prop) (W : WX)
abbrev noE : Exc → MH → Prop := fun _ _ => False
def Oks (b : Bs) (hd : List (D × V)) (G : Hp) (En : Ends) : Fl → MH → Prop := fun fl m' => match fl with
  | .nx env' => ∀ ρ' F' σ' H', RS K b env' hd G m' ρ' F' σ' H' → En.nx σ' H'
  | .rt d => ∀ ρ' F' σ' H' v env', RS K b env' ((d, v) :: hd) G m' ρ' F' σ' H' → En.rt v H'
  | .ex x env' => ∀ ρ' F' σ' H' c dd, RS K b env' hd G m' ρ' F' σ' H' → rx K.k x c dd H' → W c dd σ' H'
def SS (x : Env → MH → Res Fl) : TS := fun En σ H => ∃ b env hd G m ρ F, RS K b env hd G m ρ F σ H ∧ Post (x env m) (Oks K rx W b hd G En) noE
end
theorem PS.weak {X : Cx} {e : Stmt} {t t' : TS} (h : PS X e t') (k : ∀ En σ H, t En σ H → t' En σ H) : PS X e t := ⟨fun pins s σ H En I q => h.run pins s σ H En I (k En σ H q)⟩
theorem PSs.weak {X : Cx} {e : List Stmt} {t t' : TS} (h : PSs X e t') (k : ∀ En σ H, t En σ H → t' En σ H) : PSs X e t := ⟨fun pins s σ H En I q => h.run pins s σ H En I (k En σ H q)⟩
theorem Post.thn {r : Res Fl} {f : Env → MH → Res Fl} {ok : Fl → MH → Prop} (h : Post (r.then_ f) ok noE) : Post r (fun fl m => match fl with
    | .nx v => Post (f v m) ok noE
    | fl => ok fl m) noE := by
  cases r with
  | ok a m => cases a <;> exact h
  | exc => exact h
  | fail => exact h
theorem Post.st {α : Type} {r : Res α} {v : Env} {f : α → MH → Res Fl} {ok : Fl → MH → Prop} (h : Post (r.st v f) ok noE) : Post r (fun a m => Post (f a m) ok noE) (fun x m => ok (.ex x v) m) := by
  cases r <;> exact h
theorem Post.tg {r : Res Env} {f : Env → MH → Res Fl} {ok : Fl → MH → Prop} (h : Post (r.tg f) ok noE) : Post r (fun v m => Post (f v m) ok noE) noE := by
  cases r <;> exact h
section
variable {X : Cx} {rx : PySem.W.Frag → Exc → Value → Option Addr → Hp → Prop} {W : WX} {e c tg it : Expr} {st : Stmt} {rest body : List Stmt} {fe : Env → MH → Res D} {ft : Env → MH → Res Bool} {fl : Env → MH → Res (List D)} {fw : Env → MH → Res Wk} {g : D → Env → MH → Res Env} {xa xb : Env → MH → Res Fl} {pos : Pos}
theorem pss_nil' : PSs X [] (SS (kx X) rx W fun v m => .ok (.nx v) m) := PSs.weak pss_nil fun En σ H ⟨b, env, hd, G, m, ρ, F, R, p⟩ => p ρ F σ H R
theorem pss_cons' (h1 : PS X st (SS (kx X) rx W xa)) (h2 : PSs X rest (SS (kx X) rx W xb)) : PSs X (st :: rest) (SS (kx X) rx W fun v m => (xa v m).then_ fun v m => xb v m) :=
  PSs.weak (pss_cons h1 h2) fun En σ H ⟨b, env, hd, G, m, ρ, F, R, p⟩ => by
    refine ⟨b, env, hd, G, m, ρ, F, R, p.thn.imp (fun fl m1 p1 => ?_) fun _ _ z => z⟩
    cases fl with
    | nx v => exact fun ρ1 F1 σ1 H1 R1 => ⟨b, v, hd, G, m1, ρ1, F1, R1, p1⟩
    | rt d => exact p1
    | ex x v => exact p1
theorem ps_pass' : PS X (.Pass pos) (SS (kx X) rx W fun v m => .ok (.nx v) m) := PS.weak ps_pass fun En σ H ⟨b, env, hd, G, m, ρ, F, R, p⟩ => p ρ F σ H R
def noComp : Expr → Bool
  | .ListComp .. => false
  | .SetComp .. => false
  | .DictComp .. => false
  | _ => true
theorem swaps_ok {e : Expr} {t : Option Expr} {l : Nat} {env : PySem.Env} (h : noComp e = true) : swapsWith e t l env = pure false := by
  cases e <;> first | rfl | cases h
theorem ps_exp' (h : PE X e (SE (kx X) rx W fe)) (hc : noComp e = true) : PS X (.Expr e pos) (SS (kx X) rx W fun v m => (fe v m).st v fun _ m => .ok (.nx v) m) :=
  PS.weak (ps_expr h (swaps_ok hc)) fun En σ H ⟨b, env, hd, G, m, ρ, F, R, p⟩ =>
    ⟨b, env, hd, G, m, ρ, F, R, p.st.imp (fun x m1 p1 ρ1 F1 H1 v R1 => p1 ρ1 F1 σ H1 (R1.held fun _ => List.mem_cons_of_mem _)) fun _ _ z ρ' F' H' c dd R' => z ρ' F' σ H' c dd R'⟩
theorem ps_ret' (h : PE X e (SE (kx X) rx W fe)) : PS X (.Return (some e) pos) (SS (kx X) rx W fun v m => (fe v m).st v fun x m => .ok (.rt x) m) :=
  PS.weak (ps_ret h) fun En σ H ⟨b, env, hd, G, m, ρ, F, R, p⟩ =>
    ⟨b, env, hd, G, m, ρ, F, R, p.st.imp (fun x m1 p1 ρ1 F1 H1 v R1 => p1 ρ1 F1 σ H1 v env R1) fun _ _ z ρ' F' H' c dd R' => z ρ' F' σ H' c dd R'⟩
theorem ps_retN' : PS X (.Return none pos) (SS (kx X) rx W fun _ m => .ok (.rt .non) m) :=
  PS.weak ps_retN fun En σ H ⟨b, env, hd, G, m, ρ, F, R, p⟩ => p ρ F σ H .non env (R.hold .non)
theorem ps_ifs' {sa sb : List Stmt} (h : PT X c (ST (kx X) rx W ft)) (h1 : PSs X sa (SS (kx X) rx W xa)) (h2 : PSs X sb (SS (kx X) rx W xb)) : PS X (.If c sa sb pos) (SS (kx X) rx W fun v m => (ft v m).st v fun t m => if t then xa v m else xb v m) :=
  PS.weak (ps_if h h1 h2) fun En σ H ⟨b, env, hd, G, m, ρ, F, R, p⟩ => by
    refine ⟨b, env, hd, G, m, ρ, F, R, p.st.imp (fun t m1 p1 ρ1 F1 H1 R1 => ?_) fun _ _ z ρ' F' H' c dd R' => z ρ' F' σ H' c dd R'⟩
    cases t with
    | true => exact ⟨b, env, hd, G, m1, ρ1, F1, R1, p1⟩
    | false => exact ⟨b, env, hd, G, m1, ρ1, F1, R1, p1⟩
/-- a target's outcome behind the value -/
theorem sg_of {b : Bs} {env : Env} {hd : List (D × V)} {G : Hp} {m : MH} {ρ : Ro} {F : Hp} {σ : L2.St} {H : Hp} {d : D} {v : V} {En : L2.St → Hp → Prop} (R : RS (kx X) b env ((d, v) :: hd) G m ρ F σ H)
    (p : Post (g d env m) (fun env' m' => ∀ ρ' F' σ' H', RS (kx X) b env' hd G m' ρ' F' σ' H' → En σ' H') noE) : SG (kx X) rx W g v σ H En := ⟨b, env, hd, G, m, ρ, F, d, R, p.imp (fun _ _ z => z) fun _ _ z => z.elim⟩
theorem ps_asg' (h : PE X e (SE (kx X) rx W fe)) (hg : PG X tg (SG (kx X) rx W g)) (hs : swapsWithSole [tg] e pos.line X.env = pure false) (hw : swappedStores [tg] e X.env = pure none) (hn : notStar tg = true) :
    PS X (.Assign [tg] e pos) (SS (kx X) rx W fun v m => (fe v m).st v fun x m => (g x v m).tg fun v m => .ok (.nx v) m) :=
  PS.weak (ps_asg h hg hs hw (by cases tg <;> first | rfl | cases hn)) fun En σ H ⟨b, env, hd, G, m, ρ, F, R, p⟩ =>
    ⟨b, env, hd, G, m, ρ, F, R, p.st.imp (fun x m1 p1 ρ1 F1 H1 v R1 => sg_of R1 (p1.tg.imp (fun env' m' q => q) fun _ _ z => z)) fun _ _ z ρ' F' H' c dd R' => z ρ' F' σ H' c dd R'⟩
theorem ps_par' {i j : Nat} {x y : Str} {a b : Expr} {px py pt : Pos} {kt k2 : Nat} {pt2 : Pos} (hc : X.calm = true) (hN : X.N.Nodup) (hi : X.N[i]? = some x) (hj : X.N[j]? = some y) (hij : i ≠ j)
    (hx : X.env.scope.names.lookup x = some .local) (hy : X.env.scope.names.lookup y = some .local) (ha : PA X [a, b] (SA (kx X) rx W fl))
    (hw : swappedStores [.Tuple [.Name x px, .Name y py] kt pt] (.Tuple [a, b] k2 pt2) X.env = pure (some [x, y])) :
    PS X (.Assign [.Tuple [.Name x px, .Name y py] kt pt] (.Tuple [a, b] k2 pt2) pos) (SS (kx X) rx W fun v m => (fl v m).st v fun xs m => (match xs with
    | [x, y] => if i < v.length ∧ j < v.length then .ok (.nx ((v.set i (some x)).set j (some y))) m else .fail
    | _ => .fail)) :=
  PS.weak (ps_par hc hN hi hj hij hx hy ha hw rfl) fun En σ H ⟨b, env, hd, G, m, ρ, F, R, p⟩ => by
    refine ⟨b, env, hd, G, m, ρ, F, R, p.st.imp (fun xs m1 p1 ρ1 F1 H1 vs R1 hl => ?_) fun _ _ z ρ' F' H' c dd R' => z ρ' F' σ H' c dd R'⟩
    match xs, vs, hl, R1, p1 with
    | [d1, d2], [v1, v2], _, R1, p1 =>
      dsimp only at p1
      split at p1
      · rename_i z
        have r1 : Rep (kx X) F1 ρ1 m1 d1 v1 := R1.hd (d1, v1) (by simp)
        have r2 : Rep (kx X) F1 ρ1 m1 d2 v2 := R1.hd (d2, v2) (by simp)
        have R2 := R1.held (hd' := hd) fun _ z => List.mem_append_right _ z
        exact ⟨v1, v2, rfl, p1 ρ1 F1 _ H1 ((R2.store r1 z.1).store r2 (by simpa using z.2))⟩
      · exact p1.elim
/-! loops -/
theorem whl_some {c : Env → MH → Res Bool} {b : Env → MH → Res Fl} {v : Env} {m : MH} (h : whl c b v m ≠ .fail) : ∃ k, whl c b v m = whlN c b k v m := by
  unfold whl at h ⊢
  split at h
  · rename_i e
    rw [dif_pos e]
    exact ⟨_, rfl⟩
  · exact absurd rfl h
theorem Post.ne {α : Type} {r : Res α} {ok : α → MH → Prop} {ex : Exc → MH → Prop} (h : Post r ok ex) : r ≠ .fail := by
  intro e; rw [e] at h; exact h
theorem ps_whl' (hp : PassesOwn (model X.prog X.w) X.A X.env X.xe) (h : PT X c (ST (kx X) rx W ft)) (hb : PSs X body (SS (kx X) rx W xa)) : PS X (.While c body [] pos) (SS (kx X) rx W fun v m => whl ft xa v m) :=
  PS.weak (ps_while hp h hb) fun En σ H ⟨b, env, hd, G, m, ρ, F, R, p⟩ => by
    obtain ⟨k, hk⟩ := whl_some p.ne
    dsimp only at p
    rw [hk] at p
    refine ⟨fun k σ H => ∃ env m ρ F, RS (kx X) b env hd G m ρ F σ H ∧ Post (whlN ft xa k env m) (Oks (kx X) rx W b hd G En) noE, ⟨k, env, m, ρ, F, R, p⟩, ?_⟩
    rintro k σ H ⟨env, m, ρ, F, R, p⟩
    cases k with
    | zero => exact p.elim
    | succ k =>
      refine ⟨b, env, hd, G, m, ρ, F, R, p.st.imp (fun t m1 p1 ρ1 F1 H1 R1 => ?_) fun _ _ z ρ' F' H' c dd R' => z ρ' F' σ H' c dd R'⟩
      cases t with
      | false => exact p1 ρ1 F1 σ H1 R1
      | true =>
        refine ⟨fun σ' H' => ∃ env m ρ F, RS (kx X) b env hd G m ρ F σ' H' ∧ Post (whlN ft xa k env m) (Oks (kx X) rx W b hd G En) noE, fun σ' H' n => ⟨k, Nat.lt_succ_self k, n⟩, ?_⟩
        refine ⟨b, env, hd, G, m1, ρ1, F1, R1, (Post.thn p1).imp (fun fl m2 p2 => ?_) fun _ _ z => z⟩
        cases fl with
        | nx v => exact fun ρ2 F2 σ2 H2 R2 => ⟨v, m2, ρ2, F2, R2, p2⟩
        | rt d => exact p2
        | ex x v => exact p2
theorem ps_for' (hp : PassesOwn (model X.prog X.w) X.A X.env X.xe) (hc : X.calm = true) (hi : PI X tg it (SI (kx X) rx W fw)) (hg : PG X tg (SG (kx X) rx W g)) (hb : PSs X body (SS (kx X) rx W xa)) (hs : ∀ x, foldedSetIterable it X.env x = pure x) :
    PS X (.For tg it body [] pos) (SS (kx X) rx W fun v m => (fw v m).st v fun w m => (match w with
    | .items xs => forL g xa xs v m
    | .live l i n => forN g xa l i n n v m)) :=
  PS.weak (ps_for hp hc hi hg hb hs) fun En σ H ⟨b, env, hd, G, m, ρ, F, R, p⟩ => by
    refine ⟨b, env, hd, G, m, ρ, F, R, p.st.imp (fun w m1 p1 ρ1 F1 H1 J hs R1 wk => ?_) fun _ _ z ρ' F' H' c dd R' => z ρ' F' σ H' c dd R'⟩
    have up : ∀ p ∈ hd, p ∈ hs ++ hd := fun _ z => List.mem_append_right _ z
    cases w with
    | items xs =>
      refine ⟨fun i k σ H => ∃ env m ρ F, RS (kx X) b env (hs ++ hd) G m ρ F σ H ∧ i + k = xs.length ∧ Post (forL g xa (xs.drop i) env m) (Oks (kx X) rx W b hd G En) noE, ⟨xs.length, env, m1, ρ1, F1, R1, by omega, p1⟩, ?_⟩
      rintro i k σ H ⟨env, m, ρ, F, R, hk, p⟩
      obtain ⟨w1, w2⟩ := wk i b env hd G m ρ F σ H R
      rcases Nat.lt_or_ge i xs.length with hlt | hge
      · refine .inr ?_
        obtain ⟨g1, g2⟩ := w1 xs[i] (List.getElem?_eq_getElem hlt)
        refine ⟨g1, fun σ' H' => ∃ env m ρ F, RS (kx X) b env (hs ++ hd) G m ρ F σ' H' ∧ Post (forL g xa (xs.drop (i + 1)) env m) (Oks (kx X) rx W b hd G En) noE, fun σ' H' ⟨env, m, ρ, F, R', q⟩ => ⟨k - 1, by omega, env, m, ρ, F, R', by omega, q⟩, fun v H' hy => ?_⟩
        obtain ⟨F', R'⟩ := g2 v H' hy
        rw [List.drop_eq_getElem_cons hlt] at p
        refine ⟨b, env, hs ++ hd, G, m, ρ, F', xs[i], R', (Post.tg p).imp (fun env' m2 p2 ρ2 F2 σ2 H2 R2 => ?_) fun _ _ z => z.elim⟩
        refine ⟨b, env', hs ++ hd, G, m2, ρ2, F2, R2, (Post.thn p2).imp (fun fl m3 p3 => ?_) fun _ _ z => z⟩
        cases fl with
        | nx v => exact fun ρ2 F2 σ2 H2 R2 => ⟨v, m3, ρ2, F2, R2, p3⟩
        | rt d => exact fun ρ2 F2 σ2 H2 v env' R2 => p3 ρ2 F2 σ2 H2 v env' (R2.held fun q hq => by
            rcases List.mem_cons.mp hq with rfl | hq
            · simp
            · exact List.mem_cons_of_mem _ (up _ hq))
        | ex x v => exact fun ρ2 F2 σ2 H2 c dd R2 => p3 ρ2 F2 σ2 H2 c dd (R2.held up)
      · refine .inl ⟨w2 (by omega), ?_⟩
        rw [List.drop_eq_nil_of_le hge] at p
        exact p ρ F σ H (R.held up)
    | live l j n =>
      refine ⟨fun i k σ H => ∃ env m ρ F, RS (kx X) b env (hs ++ hd) G m ρ F σ H ∧ i + k = n ∧ Post (forN g xa l j n k env m) (Oks (kx X) rx W b hd G En) noE, ⟨n, env, m1, ρ1, F1, R1, by omega, p1⟩, ?_⟩
      rintro i k σ H ⟨env, m, ρ, F, R, hk, p⟩
      have w0 := wk i b env hd G m ρ F σ H R
      cases k with
      | zero =>
        unfold forN at p
        cases gg : get m l j with
        | none => simp only [gg] at p; exact p.elim
        | some o =>
          cases o with
          | lst ys =>
            simp only [gg] at p
            obtain ⟨w1, w2⟩ := w0 ys gg
            split at p
            · exact .inl ⟨w2 (by omega), p ρ F σ H (R.held up)⟩
            · exact p.elim
      | succ k =>
        unfold forN at p
        cases gg : get m l j with
        | none => simp only [gg] at p; exact p.elim
        | some o =>
          cases o with
          | lst ys =>
            simp only [gg] at p
            obtain ⟨w1, w2⟩ := w0 ys gg
            have hi : n - (k + 1) = i := by omega
            rw [hi] at p
            cases hx : ys[i]? with
            | none => rw [hx] at p; exact p.elim
            | some x =>
              rw [hx] at p
              obtain ⟨g1, g2⟩ := w1 x hx
              refine .inr ⟨g1, fun σ' H' => ∃ env m ρ F, RS (kx X) b env (hs ++ hd) G m ρ F σ' H' ∧ Post (forN g xa l j n k env m) (Oks (kx X) rx W b hd G En) noE, fun σ' H' ⟨env, m, ρ, F, R', q⟩ => ⟨k, by omega, env, m, ρ, F, R', by omega, q⟩, fun v H' hy => ?_⟩
              obtain ⟨rfl, rv⟩ := g2 v H' hy
              refine ⟨b, env, hs ++ hd, G, m, ρ, F, x, R.hold rv, (Post.tg p).imp (fun env' m2 p2 ρ2 F2 σ2 H2 R2 => ?_) fun _ _ z => z.elim⟩
              refine ⟨b, env', hs ++ hd, G, m2, ρ2, F2, R2, (Post.thn p2).imp (fun fl m3 p3 => ?_) fun _ _ z => z⟩
              cases fl with
              | nx v => exact fun ρ2 F2 σ2 H2 R2 => ⟨v, m3, ρ2, F2, R2, p3⟩
              | rt d => exact fun ρ2 F2 σ2 H2 v env' R2 => p3 ρ2 F2 σ2 H2 v env' (R2.held fun q hq => by
                  rcases List.mem_cons.mp hq with rfl | hq
                  · simp
                  · exact List.mem_cons_of_mem _ (up _ hq))
              | ex x v => exact fun ρ2 F2 σ2 H2 c dd R2 => p3 ρ2 F2 σ2 H2 c dd (R2.held up)
end
end Fw

set_option Elab.async false
set_option linter.all false
set_option maxRecDepth 100000
set_option maxHeartbeats 1000000
set_option autoImplicit false
/-! ## Fw7a: chains, parts, module numbers, dict displays, what a caught exception is -/
namespace Fw
open PySem PySem.Spec PyProof.Rows L2
section
variable {X : Cx} {rx : PySem.W.Frag → Exc → Value → Option Addr → Hp → Prop} {W : WX} {e a b c : Expr} {fa fb fc : Env → MH → Res D} {pos : Pos}
theorem chain_read (o o2 : Cm) {σ : L2.St} {H : Hp} {Q : VK} (q : SE (kx X) rx W (fun v m => (fa v m).bind fun x m => (fb v m).bind fun y m => (Res.of (compare m o x y) m).bind fun t m => if t then (fc v m).bind fun z m => .of ((compare m o2 y z).map .bl) m else .ok (.bl false) m) σ H Q) : tChain (cmR X.K o) (cmR X.K o2) (SE (kx X) rx W fa) (SE (kx X) rx W fb) (SE (kx X) rx W fc) σ H Q := by
    obtain ⟨b0, env, hd, G, m, ρ, F, R, p⟩ := q
    refine ⟨b0, env, hd, G, m, ρ, F, R, p.bind.imp (fun x m1 p1 ρ1 F1 H1 v R1 => ?_) fun _ _ z => z⟩
    refine ⟨b0, env, (x, v) :: hd, G, m1, ρ1, F1, R1, p1.bind.imp (fun y m2 p2 ρ2 F2 H2 u R2 => ?_) fun _ _ z ρ' F' H' c dd R' => z ρ' F' H' c dd (R'.held fun _ => List.mem_cons_of_mem _)⟩
    obtain ⟨t, e1, p3⟩ := (Post.bind p2).of
    have hx : Rep (kx X) F2 ρ2 m2 x v := R2.hd (x, v) (by simp)
    have hy := R2.top
    have R3 : RS (kx X) b0 env ((y, u) :: hd) G m2 ρ2 F2 σ H2 := R2.held fun q hq => by
      rcases List.mem_cons.mp hq with rfl | hq
      · simp
      · simp [hq]
    refine cm_rep (K := kx X) o b0 env ((y, u) :: hd) G m2 ρ2 F2 σ H2 x y v u _ noE R3 hx hy ?_
    show Post (Res.of ((compare m2 o x y).map D.bl) m2) _ _
    rw [e1]
    intro ρ' F' H' w' R'
    cases R'.top.bl_of
    refine ⟨t, rfl, ?_⟩
    have R4 : RS (kx X) b0 env ((y, u) :: hd) G m2 ρ' F' σ H' := R'.held fun _ => List.mem_cons_of_mem _
    cases t with
    | false => exact p3 ρ' F' H' _ ((R4.held fun _ => List.mem_cons_of_mem _).hold (.bl _))
    | true =>
      simp only [if_true] at p3 ⊢
      refine ⟨b0, env, (y, u) :: hd, G, m2, ρ', F', R4, (Post.bind p3).imp (fun z m3 p4 ρ3 F3 H3 w3 R5 => ?_) fun _ _ z ρ' F' H' c dd R' => z ρ' F' H' c dd (R'.held fun _ => List.mem_cons_of_mem _)⟩
      have hy3 : Rep (kx X) F3 ρ3 m3 y u := R5.hd (y, u) (by simp)
      have hz := R5.top
      exact cm_rep (K := kx X) o2 b0 env hd G m3 ρ3 F3 σ H3 y z u w3 Q _ (R5.held fun _ z => List.mem_cons_of_mem _ (List.mem_cons_of_mem _ z)) hy3 hz p4

theorem pe_chain' (hu : X.A.units + 64 < cLine) (o o2 : Cm) (ha : PE X a (SE (kx X) rx W fa)) (hb : PE X b (SE (kx X) rx W fb)) (hc : PE X c (SE (kx X) rx W fc)) :
    PE X (.Compare a [cmOf o, cmOf o2] [b, c] pos) (SE (kx X) rx W (fun v m => (fa v m).bind fun x m => (fb v m).bind fun y m => (Res.of (compare m o x y) m).bind fun t m => if t then (fc v m).bind fun z m => .of ((compare m o2 y z).map .bl) m else .ok (.bl false) m)) :=
  PE.weak (pe_chain (cm_op hu o) (cm_op hu o2) ha hb hc (cmOf_in o2 c)) fun σ H Q q => chain_read o o2 q
theorem pt_chain' (hu : X.A.units + 64 < cLine) (o o2 : Cm) (ha : PE X a (SE (kx X) rx W fa)) (hb : PE X b (SE (kx X) rx W fb)) (hc : PE X c (SE (kx X) rx W fc)) :
    PT X (.Compare a [cmOf o, cmOf o2] [b, c] pos) (ST (kx X) rx W fun v m => ((fun v m => (fa v m).bind fun x m => (fb v m).bind fun y m => (Res.of (compare m o x y) m).bind fun t m => if t then (fc v m).bind fun z m => .of ((compare m o2 y z).map .bl) m else .ok (.bl false) m) v m : Res D).bind fun x m => .of (truth m x) m) :=
  PT.weak (pt_chain (cm_op hu o) (cm_op hu o2) ha hb hc (cmOf_in o2 c)) fun σ H Q q => chain_read o o2 (st_of q)
/-! parts -/
def SO (K : KX) (rx : PySem.W.Frag → Exc → Value → Option Addr → Hp → Prop) (W : WX) (o : Env → MH → Res (Option Int)) : TO := fun σ H Q => ∃ b env hd G m ρ F, RS K b env hd G m ρ F σ H ∧
  Post (o env m) (fun l m' => ∀ ρ' F' H', RS K b env hd G m' ρ' F' σ H' → Q l H') (Ex K rx W b env hd G σ)
theorem PO.weak {X : Cx} {e : Option Expr} {t t' : TO} (h : PO X e t') (k : ∀ σ H Q, t σ H Q → t' σ H Q) : PO X e t := ⟨fun pins s σ H Q I q => h.run pins s σ H Q I (k σ H Q q)⟩
theorem po_none' : PO X none (SO (kx X) rx W fun _ m => .ok none m) := PO.weak po_none fun σ H Q ⟨b, env, hd, G, m, ρ, F, R, p⟩ => p ρ F H R
theorem po_some' (h : PE X a (SE (kx X) rx W fa)) : PO X (some a) (SO (kx X) rx W fun v m => (fa v m).bind fun x m => (match x with
    | .int i => .ok (some i) m
    | _ => .fail)) := PO.weak (po_some h) fun σ H Q ⟨b, env, hd, G, m, ρ, F, R, p⟩ => by
  refine ⟨b, env, hd, G, m, ρ, F, R, p.bind.imp (fun x m1 p1 ρ1 F1 H1 v R1 => ?_) fun _ _ z => z⟩
  cases x with
  | int i => exact ⟨i, R1.top.int_of, p1 ρ1 F1 H1 (R1.held fun _ => List.mem_cons_of_mem _)⟩
  | _ => exact p1.elim
theorem RepL.drop {K : KX} {F : Hp} {ρ : Ro} {m : MH} : ∀ (n : Nat) {ds : List D} {vs : List V}, RepL K F ρ m ds vs → RepL K F ρ m (ds.drop n) (vs.drop n)
  | 0, _, _, h => h
  | n + 1, [], vs, h => by
    unfold RepL at h; subst h; exact .nil
  | n + 1, d :: ds, vs, h => by
    unfold RepL at h
    obtain ⟨v, r, rfl, h1, h2⟩ := h
    exact RepL.drop n h2
theorem RepL.take {K : KX} {F : Hp} {ρ : Ro} {m : MH} : ∀ (n : Nat) {ds : List D} {vs : List V}, RepL K F ρ m ds vs → RepL K F ρ m (ds.take n) (vs.take n)
  | 0, _, _, h => .nil
  | n + 1, [], vs, h => by
    unfold RepL at h; subst h; exact .nil
  | n + 1, d :: ds, vs, h => by
    unfold RepL at h
    obtain ⟨v, r, rfl, h1, h2⟩ := h
    exact .cons h1 (RepL.take n h2)
theorem RepL.cut {K : KX} {F : Hp} {ρ : Ro} {m : MH} {ds : List D} {vs : List V} (h : RepL K F ρ m ds vs) (lo hi : Option Int) : RepL K F ρ m (Fw.cut ds lo hi) (cutV vs lo hi) := by
  unfold Fw.cut cutV
  rw [← h.length]
  exact (h.drop _).take _
theorem cut_len (ds : List D) (lo hi : Option Int) : (cut ds lo hi).length ≤ ds.length := by
  unfold cut
  simp only [List.length_take, List.length_drop]
  omega
theorem cut_whole {ds : List D} {lo hi : Option Int} (h : HT.sIx ds.length 0 lo = 0 ∧ HT.sIx ds.length ds.length hi = ds.length) : cut ds lo hi = ds := by
  unfold cut
  rw [h.1, h.2]
  simp
theorem pe_sl' {lo hi : Option Expr} {fl fh : Env → MH → Res (Option Int)} {p2 : Pos} (ha : PE X a (SE (kx X) rx W fa)) (hl : PO X lo (SO (kx X) rx W fl)) (hh : PO X hi (SO (kx X) rx W fh)) :
    PE X (.Subscript a (.Slice lo hi none p2) pos) (SE (kx X) rx W fun v m => (fa v m).bind fun x m => (fl v m).bind fun l m => (fh v m).bind fun h m => .of (slD m x l h) m) :=
  PE.weak (pe_slice (sl_tupA.or sl_list) ha hl hh) fun σ H Q ⟨b, env, hd, G, m, ρ, F, R, p⟩ => by
    refine ⟨b, env, hd, G, m, ρ, F, R, p.bind.imp (fun x m1 p1 ρ1 F1 H1 v R1 => ?_) fun _ _ z => z⟩
    have up : ∀ q ∈ hd, q ∈ (x, v) :: hd := fun _ => List.mem_cons_of_mem _
    refine ⟨b, env, (x, v) :: hd, G, m1, ρ1, F1, R1, p1.bind.imp (fun l m2 p2 ρ2 F2 H2 R2 => ?_) fun _ _ z ρ' F' H' c dd R' => z ρ' F' H' c dd (R'.held up)⟩
    refine ⟨b, env, (x, v) :: hd, G, m2, ρ2, F2, R2, (Post.bind p2).imp (fun h m3 p3 ρ3 F3 H3 R3 => ?_) fun _ _ z ρ' F' H' c dd R' => z ρ' F' H' c dd (R'.held up)⟩
    obtain ⟨d, e, q⟩ := Post.of p3
    have hx := R3.top
    have R4 := R3.held up
    by_cases ht : ∃ xs, x = .tup xs
    · obtain ⟨xs, rfl⟩ := ht
      cases e
      obtain ⟨t, vs, rfl, hs, z, rr⟩ := hx.tup_of
      refine .inl ⟨t, vs, rfl, SqT.ext R3.rl.fh hs, fun hw => ?_, fun hw p hp => ?_⟩
      · rw [← rr.length] at hw
        rw [cut_whole hw] at q
        exact q ρ3 F3 H3 _ (R4.hold hx)
      · exact q _ _ _ _ (new_tup R4 (Nat.le_trans (cut_len _ _ _) z) (rr.cut l h) hp)
    · by_cases hc : ∃ xs, x = .scr xs
      · obtain ⟨xs, rfl⟩ := hc
        cases e
        obtain ⟨t, vs, rfl, hs, z, rr⟩ := hx.scr_of
        exact .inr ⟨t, vs, rfl, SqL.ext R3.rl.fh hs, fun p hp => q _ _ _ _ (new_lst R4 (Nat.le_trans (cut_len _ _ _) z) (rr.cut l h) hp)⟩
      have e' : (lstOf m3 x).map (fun xs => D.lst (cut xs l h)) = some d := by
        unfold slD at e
        split at e
        · exact absurd ⟨_, rfl⟩ ht
        · exact absurd ⟨_, rfl⟩ hc
        · exact e
      obtain ⟨xs, e1, rfl⟩ := Option.map_eq_some_iff.mp e'
      obtain ⟨t, vs, rfl, hs, z, rr⟩ := lst_of R3.rl e1 hx
      exact .inr ⟨t, vs, rfl, SqL.of hs, fun p hp => q _ _ _ _ (new_lst R4 (Nat.le_trans (cut_len _ _ _) z) (rr.cut l h) hp)⟩
/-! a module's number -/
theorem pe_glob' {x : Str} {i : Int} {t : Tok} (hg : Gl X x) (hm : X.mg x = some (.int i t)) (hd : (x == ("__debug__" : Str)) = false) : PE X (.Name x pos) (SE (kx X) rx W fun _ m => .ok (.int i) m) :=
  pe_ret (d := .int i) (pe_glob (v := .int i) hg hm ⟨t, rfl⟩ hd) rfl rfl
/-! dict displays -/
theorem pe_dict0 : PE X (.Dict [] [] pos) (SE (kx X) rx W fun _ m => .ok (.dct [] []) m) :=
  PE.weak pe_dnewK fun σ H Q ⟨b, env, hd, G, m, ρ, F, R, p⟩ q hq => p ρ _ _ _ ((R.newF (.dK []) hq).hold (.dct (vs := []) upd_same rfl .nil))
theorem pe_dict1 {i j : Int} {k k2 : Nat} {p1 p2 : Pos} : PE X (.Dict [some (.Constant (.int i) k p1)] [.Constant (.int j) k2 p2] pos) (SE (kx X) rx W fun _ m => .ok (.dct [i] [.int j]) m) :=
  PE.weak (pe_disp (pps_cons (pe_int (i := i)) (pe_int (i := j)) pps_nil) rfl rfl (fun z => by cases z) (by simp)) fun σ H Q ⟨b, env, hd, G, m, ρ, F, R, p⟩ q hq => by
    refine ⟨upd_same, [(.inl i, .int j)], rfl, by simp, ?_⟩
    rw [show upd (upd H q (.dK [])) q (.dK (mergeK [] [(Sum.inl i, V.int j)])) = upd H q (.dK [(.inl i, .int j)]) from by
      funext z
      by_cases e : z = q
      · subst e; simp only [upd_same]; rfl
      · simp only [upd_ne e]]
    exact p ρ _ _ _ ((R.newF (.dK [(.inl i, .int j)]) hq).hold (.dct (vs := [.int j]) upd_same rfl (.cons (.int j) .nil)))
end
end Fw

set_option Elab.async false
set_option linter.all false
set_option maxRecDepth 100000
set_option maxHeartbeats 1000000
set_option autoImplicit false
/-! ## Fw7b: what is raised, what is caught -/
namespace Fw
open PySem PySem.Spec PyProof.Rows L2
/-! ### values without exceptions -/
section
variable {k : PySem.W.Frag} {e1 e2 : Exc → Addr → Prop} {F : Hp} {ρ : Ro} {m : MH}
mutual
theorem Rep.noX : ∀ {d : D} {v : V}, Rep (k0 k) F ρ m d v → noX d = true
  | .non, _, _ => rfl
  | .bl _, _, _ => rfl
  | .int _, _, _ => rfl
  | .str _, _, _ => rfl
  | .ref _ _, _, _ => rfl
  | .tup xs, _, h => by
    unfold Rep at h
    obtain ⟨a, vs, e, q, z, r⟩ := h
    exact RepL.noX r
  | .lst xs, _, h => by
    unfold Rep at h
    obtain ⟨a, vs, e, q, z, r⟩ := h
    exact RepL.noX r
  | .scr xs, _, h => by
    unfold Rep at h
    obtain ⟨a, vs, e, q, z, r⟩ := h
    exact RepL.noX r
  | .dct ks xs, _, h => by
    unfold Rep at h
    obtain ⟨a, vs, e, q, z, r⟩ := h
    exact RepL.noX r
  | .exc x, _, h => by
    unfold Rep at h
    obtain ⟨a, _, z⟩ := h
    exact z.elim
  | .ins c ns xs, _, h => by
    unfold Rep at h
    obtain ⟨a, dx, vs, e, q, z, r⟩ := h
    exact RepL.noX r
  | .any, _, h => rfl
theorem RepL.noX : ∀ {ds : List D} {vs : List V}, RepL (k0 k) F ρ m ds vs → noXL ds = true
  | [], _, _ => rfl
  | d :: ds, _, h => by
    unfold RepL at h
    obtain ⟨v, r, e, h1, h2⟩ := h
    unfold noXL
    rw [Rep.noX h1, RepL.noX h2]; rfl
end
mutual
theorem Rep.to : ∀ {d : D} {v : V}, Fw.noX d = true → Rep ⟨k, e1⟩ F ρ m d v → Rep ⟨k, e2⟩ F ρ m d v
  | .non, _, _, h => h
  | .bl _, _, _, h => h
  | .int _, _, _, h => h
  | .str _, _, _, h => h
  | .ref _ _, _, _, h => h
  | .tup xs, _, n, h => by
    unfold Rep at h ⊢
    obtain ⟨a, vs, e, q, z, r⟩ := h
    exact ⟨a, vs, e, q, z, RepL.to n r⟩
  | .lst xs, _, n, h => by
    unfold Rep at h ⊢
    obtain ⟨a, vs, e, q, z, r⟩ := h
    exact ⟨a, vs, e, q, z, RepL.to n r⟩
  | .scr xs, _, n, h => by
    unfold Rep at h ⊢
    obtain ⟨a, vs, e, q, z, r⟩ := h
    exact ⟨a, vs, e, q, z, RepL.to n r⟩
  | .dct ks xs, _, n, h => by
    unfold Rep at h ⊢
    obtain ⟨a, vs, e, q, z, r⟩ := h
    exact ⟨a, vs, e, q, z, RepL.to n r⟩
  | .exc x, _, n, h => by cases n
  | .ins c ns xs, _, n, h => by
    unfold Rep at h ⊢
    obtain ⟨a, dx, vs, e, q, z, r⟩ := h
    exact ⟨a, dx, vs, e, q, z, RepL.to n r⟩
  | .any, _, n, h => by unfold Rep; trivial
theorem RepL.to : ∀ {ds : List D} {vs : List V}, noXL ds = true → RepL ⟨k, e1⟩ F ρ m ds vs → RepL ⟨k, e2⟩ F ρ m ds vs
  | [], _, _, h => h
  | d :: ds, _, n, h => by
    unfold RepL at h ⊢
    unfold noXL at n
    simp only [Bool.and_eq_true] at n
    obtain ⟨v, r, e, h1, h2⟩ := h
    exact ⟨v, r, e, Rep.to n.1 h1, RepL.to n.2 h2⟩
end
mutual
theorem bd_noX (n : Nat) : ∀ d : D, d.bd n = true → Fw.noX d = true
  | .non, _ => rfl
  | .bl _, _ => rfl
  | .int _, _ => rfl
  | .str _, _ => rfl
  | .ref _ _, _ => rfl
  | .tup xs, h => by unfold D.bd at h; exact bdL_noX n xs h
  | .lst xs, h => by unfold D.bd at h; exact bdL_noX n xs h
  | .scr xs, h => by unfold D.bd at h; exact bdL_noX n xs h
  | .dct _ xs, h => by unfold D.bd at h; exact bdL_noX n xs h
  | .exc _, h => by unfold D.bd at h; cases h
  | .ins _ _ xs, h => by unfold D.bd at h; exact bdL_noX n xs h
  | .any, _ => rfl
theorem bdL_noX (n : Nat) : ∀ ds : List D, bdL n ds = true → noXL ds = true
  | [], _ => rfl
  | d :: ds, h => by
    unfold bdL at h
    simp only [Bool.and_eq_true] at h
    unfold noXL
    rw [bd_noX n d h.1, bdL_noX n ds h.2]; rfl
end
theorem Rl.to {H : Hp} (R : Rl ⟨k, e1⟩ F ρ m H) : Rl ⟨k, e2⟩ F ρ m H := ⟨R.fh, fun l i o e => by
  obtain ⟨h1, h2⟩ := R.ob l i o e
  have hw := R.wf l i o e
  refine ⟨h1, ?_⟩
  cases o with
  | lst xs =>
    obtain ⟨vs, a, z, r⟩ := h2
    exact ⟨vs, a, z, r.to (bdL_noX _ _ hw)⟩, R.inj, R.wf⟩
theorem RS.to {b : Bs} {env : Env} {hd : List (D × V)} {G : Hp} {σ : L2.St} {H : Hp} (R : RS ⟨k, e1⟩ b env hd G m ρ F σ H) (he : ∀ i d, env.at_ i = some d → Fw.noX d = true) (hh : ∀ p ∈ hd, Fw.noX p.1 = true) : RS ⟨k, e2⟩ b env hd G m ρ F σ H :=
  ⟨R.rl.to, R.len, fun i d e => by
    obtain ⟨v, h1, h2⟩ := R.env i d e
    exact ⟨v, h1, h2.to (he i d e)⟩, fun p hp => (R.hd p hp).to (hh p hp), R.pin, R.ml, R.xt⟩
end
theorem noXE_at {v : Env} (h : noXE v = true) (i : Nat) (d : D) (e : v.at_ i = some d) : noX d = true := by
  unfold Env.at_ at e
  cases g : v[i]? with
  | none => rw [g] at e; cases e
  | some o =>
    rw [g] at e
    have e' : o = some d := e
    subst e'
    have := List.all_eq_true.mp h _ (List.mem_of_getElem? g)
    exact this
theorem RS.clear {K : KX} {b : Bs} {env : Env} {hd : List (D × V)} {G : Hp} {m : MH} {ρ : Ro} {F : Hp} {σ : L2.St} {H : Hp} (R : RS K b env hd G m ρ F σ H) (i : Nat) : RS K b (env.set i none) hd G m ρ F (σ.set i none) H :=
  ⟨R.rl, by simpa using R.len, fun j d e => by
    by_cases hj : j = i
    · subst hj
      unfold Env.at_ at e
      rw [List.getElem?_set] at e
      simp only [if_true] at e
      split at e <;> cases e
    · have e' : env.at_ j = some d := by
        unfold Env.at_ at e ⊢
        rw [List.getElem?_set_ne (Ne.symm hj)] at e
        exact e
      obtain ⟨v, h1, h2⟩ := R.env j d e'
      exact ⟨v, by rw [List.getElem?_set_ne (Ne.symm hj)]; exact h1, h2⟩, R.hd, R.pin, R.ml, R.xt⟩

theorem at_bare (n i : Nat) : Env.at_ (List.replicate n none) i = none := by
  unfold Env.at_
  rw [List.getElem?_replicate]
  split <;> rfl
theorem RS.bare {K : KX} {b : Bs} {env : Env} {hd : List (D × V)} {G : Hp} {m : MH} {ρ : Ro} {F : Hp} {σ : L2.St} {H : Hp} (R : RS K b env hd G m ρ F σ H) : RS K b (List.replicate env.length none) hd G m ρ F σ H :=
  ⟨R.rl, by simpa using R.len, fun j d e => (by rw [at_bare] at e; cases e), R.hd, R.pin, R.ml, R.xt⟩
/-! ### isinstance of a caught one -/
def rIsX (X : Cx) : List V → Hp → VK → Prop := fun vs H Q => ∃ (z : Exc) (a : Addr) (c : V) (cv : Value) (b : Bool), vs = [.ref a, c] ∧ ExcAt X z a ∧ ExcC X.K (He.ga X.K z.cls) ∧ (∀ u, RelV c u → u = cv) ∧ PySem.W.kitOne X.K (.ref (He.ga X.K z.cls)) cv = some b ∧ Q (.bl b) H
theorem call_isX {X : Cx} : CallR X (.builtin "isinstance") (rIsX X) := by
  intro pins s σ H vs us Q I r h
  obtain ⟨z, a, c, cv, b, rfl, ⟨X0, oe, pn, e, hz, hf, _⟩, hC, hcv, hk, q⟩ := h
  subst e
  exact call_isE hC hz hf pins s σ H _ us Q I r ⟨c, cv, b, rfl, hcv, hk, q⟩
section
variable {X : Cx} {rx : PySem.W.Frag → Exc → Value → Option Addr → Hp → Prop} {W : WX} {a : Expr} {fa : Env → MH → Res D} {p p2 pos : Pos} {x : Str}
theorem pe_isE0 {c : V} {cv : Value} (ha : PE X a (SE (kx X) rx W fa)) (hs : notStar a = true) (hg : Gl X "isinstance") (hm : X.mg "isinstance" = none) (hc : PE X (.Name x p2) (tC c)) (hcv : ∀ u, RelV c u → u = cv)
    (hk : ∀ z : Exc, (z.cls, z.sups) ∈ clsOf X.prog → ExcC X.K (He.ga X.K z.cls) ∧ PySem.W.kitOne X.K (.ref (He.ga X.K z.cls)) cv = some (decide (x ∈ z.sups))) :
    PE X (.Call (.Name "isinstance" p) [a, .Name x p2] [] pos) (SE (kx X) rx W fun v m => (fa v m).bind fun y m => .of (isED x y) m) := by
  have hpa := pa_cons ha (pa_cons hc pa_nil rfl) (star_ok hs)
  refine PE.weak (pe_callB call_isX hg hm (by decide +kernel) hpa (by decide) (by decide) (star_ok hs) (by rfl)) fun σ H Q ⟨b, env, hd, G, m, ρ, F, R, p⟩ => ?_
  refine ⟨b, env, hd, G, m, ρ, F, R, p.bind.imp (fun y m1 p1 ρ1 F1 H1 v R1 => ?_) fun _ _ z => z⟩
  obtain ⟨d, e, q⟩ := Post.of p1
  cases y with
  | exc z =>
    cases e
    obtain ⟨a', rfl, hat⟩ := R1.top.exc_of
    have hat' : ExcAt X z a' := hat
    obtain ⟨_, _, _, _, _, _, hmem⟩ := id hat'
    obtain ⟨h1, h2⟩ := hk z hmem
    exact ⟨z, a', c, cv, _, rfl, hat', h1, hcv, h2, q ρ1 F1 H1 _ ((R1.held fun _ => List.mem_cons_of_mem _).hold (.bl _))⟩
  | _ => cases e
end

/-! ### raise -/
theorem ps_raise' {X : Cx} {W : WX} {x msg : Str} {sups : List Str} {cl : List (Str × List Str)} {j : Nat} {p p2 cp pos : Pos} (hc : X.calm = true) (tk : Takes X W) (hm : (x, sups) ∈ cl) (Fx : ExcFacts X.K X.mg cl (x, sups)) (hg : Gl X x) (hd : (x == ("__debug__" : Str)) = false) :
    PS X (.Raise (some (.Call (.Name x p) [.Constant (.str msg) j p2] [] cp)) none pos) (SS (kx X) (rxO cl) W fun v m => .ok (.ex ⟨x, sups, []⟩ v) m) :=
  PS.weak (ps_raise hc tk (pmk_own PySem.F.excBase_ValueError Fx.exc Fx.gl Fx.kp (raises_own Fx.sub Fx.ty) hg hd)) fun En σ H ⟨b, env, hd, G, m, ρ, F, R, p⟩ => p ρ F σ H _ none R ⟨hm, rfl, rfl⟩

/-! ### try -/
theorem ps_try' {X : Cx} {W : WX} {x n : Str} {i : Nat} {cl : List (Str × List Str)} {body suite : List Stmt} {b₀ : Stmt} {np pos pos' : Pos} {xa xb : Env → MH → Res Fl} (hcl : cl = clsOf X.prog) (hcalm : X.calm = true)
    (hs : X.stack = X.env :: X.outer) (hf : X.env.frame = some X.env.locals) (hN : X.N.Nodup) (hi : X.N[i]? = some n) (hln : X.env.kindOf n = some .local) (hg : Gl X x) (hdb : (x == ("__debug__" : Str)) = false) (hx : x ∈ cl.map (·.1)) (exf : ∀ p ∈ cl, ExcFacts X.K X.mg cl p) (tk : Takes X W)
    (hb : ∀ (W : WX) (pn : List (Addr × Obj)) (xe : Value → Shared → Prop), Takes (X.tr pn xe) W → PassesOwn (model X.prog X.w) X.A X.env xe → PSs (X.tr pn xe) body (SS (kx (X.tr pn xe)) (rxO cl) W xa))
    (hsu : ∀ (a : Addr) (oe : Obj) (pn : List (Addr × Obj)), PSs (X.suite a ((a, oe) :: pn)) (b₀ :: suite) (SS (kx (X.suite a ((a, oe) :: pn))) (rxO cl) (fun _ _ _ _ => False) xb)) :
    PS X (.Try body [.ExceptHandler (some (.Name x np)) (some n) (b₀ :: suite) pos'] [] [] pos) (SS (kx X) (rxO cl) W fun v m => tryF x i (xa v m) xb) := by
  obtain ⟨q, hq, hqx⟩ := List.mem_map.mp hx
  have hname : Names X x (.ref (He.ga X.K x)) := ⟨hg, hdb, .inl (by have := (exf q hq).gl; rw [hqx] at this; exact this)⟩
  have hk : ∀ pn xe, kx (X.tr pn xe) = k0 X.K := fun pn xe => kx_calm (X := X.tr pn xe) hcalm
  refine PS.weak (ps_try_as (ts := fun a cls d En σ H => ∀ oe pn, Zc cls d oe → (∃ vs, oe.data = .fields vs) → SS (kx (X.suite a ((a, oe) :: pn))) (rxO cl) (fun _ _ _ _ => False) xb En σ H) (tb := fun W => SS (k0 X.K) (rxO cl) W xa) (Wout := W) hs hf hN hi hln hname tk
    (fun W pn xe tk hp => by
      have := hb W pn xe tk hp
      rw [hk] at this
      exact this) (fun a oe cls d pn hz hff => PSs.weak (hsu a oe pn) fun En σ H h => h oe pn hz hff)) fun En σ H ⟨b, env, hd, G, m, ρ, F, R, p⟩ => ?_
  rw [kx_calm hcalm] at R p
  refine ⟨b, env, hd, G, m, ρ, F, R, ?_⟩
  have hh : ∀ p ∈ hd, noX p.1 = true := fun p hp => (R.hd p hp).noX
  dsimp only at p
  cases hxa : xa env m with
  | fail => rw [hxa] at p; exact p.elim
  | exc z m' => rw [hxa] at p; exact p.elim
  | ok fl m' =>
    rw [hxa] at p
    cases fl with
    | nx v => exact p
    | rt d => exact p
    | ex z v =>
      intro ρ' F' σ' H' c dd R' hrx
      obtain ⟨hmem, rfl, rfl⟩ := hrx
      have hE := (exf _ hmem).exm q hq
      rw [hqx] at hE
      refine ⟨_, hE, fun hyes a na => ?_, fun hno => ?_⟩
      · have hyes := of_decide_eq_true hyes
        simp only [tryF_ex, if_pos hyes] at p
        split at p
        · rename_i hlt
          intro oe pn hz hff
          have R1 : RS (kx (X.suite a ((a, oe) :: pn))) b v hd G m' ρ' F' σ' H' := R'.to (fun j d e => by
            obtain ⟨w, _, h2⟩ := R'.env j d e
            exact h2.noX) hh
          have hexc : Rep (kx (X.suite a ((a, oe) :: pn))) F' ρ' m' (.exc z) (.ref a) := by
            unfold Rep
            exact ⟨a, rfl, X, oe, pn, rfl, hz, hff, by rw [← hcl]; exact hmem⟩
          refine ⟨b, v.set i (some (.exc z)), hd, G, m', ρ', F', R1.store hexc hlt, ?_⟩
          cases hxb : xb (v.set i (some (.exc z))) m' with
          | fail => rw [hxb] at p; exact p.elim
          | exc z m' => rw [hxb] at p; exact p.elim
          | ok fl m2 =>
            rw [hxb] at p
            cases fl with
            | nx v2 =>
              simp only [Res.gone_nx] at p
              split at p
              · rename_i hnx
                intro ρ2 F2 σ2 H2 R2
                exact p ρ2 F2 _ H2 (RS.to (R2.clear i) (noXE_at hnx) hh)
              · exact p.elim
            | rt d =>
              simp only [Res.gone_rt] at p
              split at p
              · rename_i hnx
                intro ρ2 F2 σ2 H2 w env2 R2
                exact p ρ2 F2 σ2 H2 w _ (RS.to R2.bare (fun j d e => by rw [at_bare] at e; cases e) fun q hq => by
                  rcases List.mem_cons.mp hq with rfl | hq
                  · exact hnx
                  · exact hh q hq)
              · exact p.elim
            | ex z2 v2 => exact p.elim
        · exact p.elim
      · have hno := of_decide_eq_false hno
        simp only [tryF_ex, if_neg hno] at p
        exact p ρ' F' σ' H' _ none R' ⟨hmem, rfl, rfl⟩
end Fw

set_option Elab.async false
set_option linter.all false
set_option maxRecDepth 100000
set_option maxHeartbeats 1000000
set_option autoImplicit false
/-! ## Fw7c: list comprehensions -/
namespace Fw
open PySem PySem.Spec PyProof.Rows L2
/-! ### slots of a block -/
theorem wipe_set {σ : L2.St} {j : Nat} {x : Option V} : ∀ {vs : List Nat}, j ∈ vs → wipe (σ.set j x) vs = wipe σ vs
  | [], h => by cases h
  | v :: vs, h => by
    unfold wipe
    by_cases hj : j ∈ vs
    · rw [wipe_set hj]
    · have hv : j = v := by
        rcases List.mem_cons.mp h with e | e
        · exact e
        · exact absurd e hj
      subst hv
      clear h
      have : ∀ us : List Nat, j ∉ us → wipe (σ.set j x) us = (wipe σ us).set j x := by
        intro us
        induction us with
        | nil => intro _; rfl
        | cons u us ih =>
          intro hn
          simp only [List.mem_cons, not_or] at hn
          unfold wipe
          rw [ih hn.2, List.set_comm _ _ (fun e => hn.1 e)]
      rw [this vs hj, List.set_set]
theorem wipe_wipe (σ : L2.St) : ∀ (us vs : List Nat), (∀ i ∈ us, i ∈ vs) → wipe (wipe σ us) vs = wipe σ vs
  | [], _, _ => rfl
  | u :: us, vs, h => by
    show wipe ((wipe σ us).set u none) vs = _
    rw [wipe_set (h u List.mem_cons_self), wipe_wipe σ us vs fun i hi => h i (List.mem_cons_of_mem _ hi)]
theorem wipeE_length (v : Env) : ∀ is : List Nat, (wipeE v is).length = v.length
  | [] => rfl
  | i :: is => by unfold wipeE; rw [List.length_set, wipeE_length v is]
section
variable {K : KX} {b : Bs} {env : Env} {hd : List (D × V)} {G : Hp} {m : MH} {ρ : Ro} {F : Hp} {σ : L2.St} {H : Hp}
theorem RS.wipe (R : RS K b env hd G m ρ F σ H) : ∀ vs : List Nat, RS K b (wipeE env vs) hd G m ρ F (L2.wipe σ vs) H
  | [] => R
  | v :: vs => (RS.wipe R vs).clear v
/-- the slots' values held -/
def envP (env : Env) (σ : L2.St) : List (D × V) := (env.zip σ).filterMap fun p => match p with
  | (some d, some v) => some (d, v)
  | _ => none
theorem envP_mem {i : Nat} {d : D} {v : V} (h1 : env.at_ i = some d) (h2 : σ[i]? = some (some v)) : (d, v) ∈ envP env σ := by
  unfold Env.at_ at h1
  cases g : env[i]? with
  | none => rw [g] at h1; cases h1
  | some o =>
    rw [g] at h1
    have e : o = some d := h1
    subst e
    refine List.mem_filterMap.mpr ⟨(some d, some v), ?_, rfl⟩
    refine List.mem_of_getElem? (i := i) ?_
    rw [List.getElem?_zip_eq_some]
    exact ⟨g, h2⟩
theorem envP_of {p : D × V} (h : p ∈ envP env σ) : ∃ i, env.at_ i = some p.1 ∧ σ[i]? = some (some p.2) := by
  obtain ⟨q, hq, e⟩ := List.mem_filterMap.mp h
  obtain ⟨i, hi, e2⟩ := List.mem_iff_getElem.mp hq
  have hi1 : i < env.length := by simp at hi; omega
  have hi2 : i < σ.length := by simp at hi; omega
  rw [List.getElem_zip] at e2
  subst e2
  refine ⟨i, ?_, ?_⟩
  · unfold Env.at_
    rw [List.getElem?_eq_getElem hi1]
    revert e
    cases env[i] <;> cases σ[i] <;> intro e <;> first | cases e; rfl | cases e
  · rw [List.getElem?_eq_getElem hi2]
    revert e
    cases env[i] <;> cases σ[i] <;> intro e <;> first | cases e; rfl | cases e
theorem RS.keepEnv (R : RS K b env hd G m ρ F σ H) : RS K b env (envP env σ ++ hd) G m ρ F σ H :=
  ⟨R.rl, R.len, R.env, fun p hp => by
    rcases List.mem_append.mp hp with hp | hp
    · obtain ⟨i, h1, h2⟩ := envP_of hp
      obtain ⟨v, h3, h4⟩ := R.env i p.1 h1
      rw [h2] at h3
      cases h3
      exact h4
    · exact R.hd p hp, R.pin, R.ml, R.xt⟩
/-- the slots again -/
theorem RS.envBack {env2 : Env} {σ2 : L2.St} (R : RS K b env2 hd G m ρ F σ2 H) (hl : env.length = σ.length) (hs : ∀ i d, env.at_ i = some d → ∃ v, σ[i]? = some (some v) ∧ (d, v) ∈ hd) : RS K b env hd G m ρ F σ H :=
  ⟨R.rl, hl, fun i d e => by
    obtain ⟨v, h1, h2⟩ := hs i d e
    exact ⟨v, h1, R.hd _ h2⟩, R.hd, R.pin, R.ml, R.xt⟩
/-! ### the list that is being made stands aside -/
theorem RS.neR (R : RS K b env hd G m ρ F σ H) {p : Addr} (hp : H p = none) {l i : Nat} (q : Lv m l i) : ρ l i ≠ p := fun z => by
  obtain ⟨o, e⟩ := Option.isSome_iff_exists.mp q
  obtain ⟨h', e2, _⟩ := (R.rl.ob l i o e).2.some
  rw [z, hp] at e2; cases e2
theorem RS.pinNew (R : RS K b env hd G m ρ F σ H) {p : Addr} (o : HO) (hp : H p = none) : RS K b env hd (upd G p o) m ρ F σ (upd H p o) := by
  have hF := noF R.rl.fh hp
  refine ⟨⟨fun a u e => ?_, fun l i u e => ?_, R.rl.inj, R.rl.wf⟩, R.len, R.env, R.hd, fun a u e => ?_, R.ml, R.xt⟩
  · have : a ≠ p := fun z => by rw [z, hF] at e; cases e
    rw [upd_ne this]; exact R.rl.fh a u e
  · have hl : Lv m l i := by unfold Lv; rw [e]; rfl
    have := R.rl.ob l i u e
    rw [upd_ne (R.neR hp hl)]
    exact this
  · by_cases h : a = p
    · subst h
      rw [upd_same] at e ⊢
      exact ⟨e, hF, fun l i q => R.neR hp q⟩
    · rw [upd_ne h] at e ⊢
      exact R.pin a u e
theorem RS.pinSet (R : RS K b env hd G m ρ F σ H) {p : Addr} {o : HO} (o' : HO) (hp : G p = some o) : RS K b env hd (upd G p o') m ρ F σ (upd H p o') := by
  obtain ⟨h1, h2, h3⟩ := R.pin p o hp
  refine ⟨⟨fun a u e => ?_, fun l i u e => ?_, R.rl.inj, R.rl.wf⟩, R.len, R.env, R.hd, fun a u e => ?_, R.ml, R.xt⟩
  · have : a ≠ p := fun z => by rw [z, h2] at e; cases e
    rw [upd_ne this]; exact R.rl.fh a u e
  · have hl : Lv m l i := by unfold Lv; rw [e]; rfl
    rw [upd_ne (h3 l i hl)]
    exact R.rl.ob l i u e
  · by_cases h : a = p
    · subst h
      rw [upd_same] at e ⊢
      exact ⟨e, h2, h3⟩
    · rw [upd_ne h] at e ⊢
      exact R.pin a u e
/-- it is fixed -/
theorem RS.pinF {G' : Hp} (R : RS K b env hd G m ρ F σ H) {p : Addr} {o : HO} (hp : G p = some o) (hG : G' p = none) (hs : ∀ a u, G' a = some u → G a = some u) : RS K b env hd G' m ρ (upd F p o) σ H := by
  obtain ⟨h1, h2, h3⟩ := R.pin p o hp
  have x : Ext F ρ m (upd F p o) ρ m := .newF h2
  refine ⟨⟨fun a u e => ?_, fun l i u e => ?_, R.rl.inj, R.rl.wf⟩, R.len, fun i d e => ?_, fun q hq => (R.hd q hq).ext x, fun a u e => ?_, R.ml, R.xt.trans x⟩
  · by_cases h : a = p
    · subst h; rw [upd_same] at e; rw [← e]; exact h1
    · rw [upd_ne h] at e; exact R.rl.fh a u e
  · have hl : Lv m l i := by unfold Lv; rw [e]; rfl
    have := R.rl.ob l i u e
    rw [upd_ne (h3 l i hl)]
    exact ⟨this.1, this.2.ext x⟩
  · obtain ⟨v, q1, q2⟩ := R.env i d e
    exact ⟨v, q1, q2.ext x⟩
  · have : a ≠ p := fun z => by rw [z, hG] at e; cases e
    rw [upd_ne this]
    exact R.pin a u (hs a u e)
/-- it is a changed object -/
theorem RS.pinM {G' : Hp} {fr : List MO} {r : MH} (R : RS K b env hd G (fr :: r) ρ F σ H) {p : Addr} {xs : List D} {vs : List V} (hp : G p = some (.lst vs)) (hG : G' p = none) (hs : ∀ a u, G' a = some u → G a = some u) (hz : xs.length ≤ sizeLine) (hb : bdL (r.length + 1) xs = true) (hr : RepL K F ρ (fr :: r) xs vs) :
    RS K b env hd G' ((fr ++ [.lst xs]) :: r) (ρ.put r.length fr.length p) F σ H := by
  obtain ⟨h1, h2, h3⟩ := R.pin p _ hp
  have x : Ext F ρ (fr :: r) F (ρ.put r.length fr.length p) ((fr ++ [.lst xs]) :: r) := ⟨fun _ _ h => h, fun l' i' q => ⟨Ro.put_ne fun z => not_lv_end (z.1 ▸ z.2 ▸ q), Lv.snoc.mpr (.inr q)⟩⟩
  have old : ∀ l i, Lv (fr :: r) l i → (ρ.put r.length fr.length p) l i = ρ l i := fun l i q => (x.r l i q).1
  refine ⟨⟨R.rl.fh, fun l' i' u e => ?_, fun a c a' c' g1 g2 z => ?_, fun l' i' u e => ?_⟩, R.len, fun i d e => ?_, fun q hq => (R.hd q hq).ext x, fun a u e => ?_, R.ml, R.xt.trans x⟩
  · rw [get_snoc] at e
    by_cases q : l' = r.length ∧ i' = fr.length
    · rw [if_pos q] at e
      obtain ⟨rfl, rfl⟩ := q
      cases e
      rw [Ro.put_same]
      exact ⟨h2, vs, h1, hz, hr.ext x⟩
    · rw [if_neg q] at e
      have hlv' : Lv (fr :: r) l' i' := by unfold Lv; rw [e]; rfl
      rw [old _ _ hlv']
      have := R.rl.ob l' i' u e
      exact ⟨this.1, this.2.ext x⟩
  · rcases Lv.snoc.mp g1 with ⟨rfl, rfl⟩ | g1 <;> rcases Lv.snoc.mp g2 with ⟨rfl, rfl⟩ | g2
    · exact ⟨rfl, rfl⟩
    · rw [Ro.put_same, old _ _ g2] at z
      exact absurd z.symm (h3 _ _ g2)
    · rw [Ro.put_same, old _ _ g1] at z
      exact absurd z (h3 _ _ g1)
    · rw [old _ _ g1, old _ _ g2] at z
      exact R.rl.inj _ _ _ _ g1 g2 z
  · rw [get_snoc] at e
    by_cases q : l' = r.length ∧ i' = fr.length
    · rw [if_pos q] at e
      obtain ⟨rfl, rfl⟩ := q
      cases e
      exact hb
    · rw [if_neg q] at e
      exact R.rl.wf l' i' u e
  · obtain ⟨v, q1, q2⟩ := R.env i d e
    exact ⟨v, q1, q2.ext x⟩
  · obtain ⟨q1, q2, q3⟩ := R.pin a u (hs a u e)
    have : a ≠ p := fun z => by rw [z, hG] at e; cases e
    refine ⟨q1, q2, fun l i q => ?_⟩
    rcases Lv.snoc.mp q with ⟨rfl, rfl⟩ | q
    · rw [Ro.put_same]; exact this.symm
    · rw [old _ _ q]; exact q3 _ _ q
/-- a turn of what is walked -/
theorem walk_step {hs : List (D × V)} {w : Wk} {J : It} {i : Nat} (wk : Walks' K hs w J) (R : RS K b env (hs ++ hd) G m ρ F σ H) :
    (∀ x, stepW w i m = some (some x) → J.go i H ∧ ∀ v H', J.yld i H v H' → ∃ F', RS K b env ((x, v) :: (hs ++ hd)) G m ρ F' σ H') ∧ (i ≤ lenW w → stepW w i m = some none → J.stop i H) := by
  cases w with
  | items xs =>
    obtain ⟨w1, w2⟩ := wk i b env hd G m ρ F σ H R
    refine ⟨fun x e => w1 x (Option.some.inj e), fun hle e => w2 ?_⟩
    have e' : xs[i]? = none := Option.some.inj e
    have := List.getElem?_eq_none_iff.mp e'
    have hle : i ≤ xs.length := hle
    omega
  | live l j n =>
    have w0 := wk i b env hd G m ρ F σ H R
    cases g : get m l j with
    | none => exact ⟨fun x e => (by simp [stepW, g] at e), fun _ e => (by simp [stepW, g] at e)⟩
    | some o =>
      cases o with
      | lst ys =>
        obtain ⟨w1, w2⟩ := w0 ys g
        refine ⟨fun x e => ?_, fun _ e => w2 ?_⟩
        · have e' : ys[i]? = some x := by simpa [stepW, g] using e
          obtain ⟨g1, g2⟩ := w1 x e'
          refine ⟨g1, fun v H' hy => ?_⟩
          obtain ⟨rfl, hr⟩ := g2 v H' hy
          exact ⟨F, R.hold hr⟩
        · have e' : ys[i]? = none := by simpa [stepW, g] using e
          exact List.getElem?_eq_none_iff.mp e'
end

/-! ### targets of a block -/
def SP (K : KX) (own : List Nat) (f : D → Env → Option Env) : TG := fun v σ H Q => ∃ b env hd G m ρ F d env', RS K b env ((d, v) :: hd) G m ρ F σ H ∧ f d env = some env' ∧ ∀ ρ' F' σ' H', RS K b env' hd G m ρ' F' σ' H' → wipe σ' own = wipe σ own → Q σ' H'
def SPs (K : KX) (own : List Nat) (f : List D → Env → Option Env) : TGs := fun vs σ H Q => ∃ b env hd G m ρ F ds env', RS K b env (ds.zip vs ++ hd) G m ρ F σ H ∧ ds.length = vs.length ∧ f ds env = some env' ∧ ∀ ρ' F' σ' H', RS K b env' hd G m ρ' F' σ' H' → wipe σ' own = wipe σ own → Q σ' H'
section
variable {X : Cx} {own : List Nat} {pos : Pos} {es : List Expr}
theorem pv_name {j : Nat} {x : Str} (hN : X.N.Nodup) (hi : X.N[j]? = some x) (hx : Loc X.env.scope x) (hf : X.fn x = true ∨ X.env.scope.names.lookup x = some .local) (ho : j ∈ own) : PG X (.Name x pos) (SP (kx X) own (ptg (.name j)).1) :=
  PG.weak (pg_name hN hi hx hf) fun v σ H Q ⟨b, env, hd, G, m, ρ, F, d, env', R, e, q⟩ => by
    simp only [ptg] at e
    split at e
    · rename_i z
      cases e
      exact q ρ F _ H ((R.held fun _ => List.mem_cons_of_mem _).store R.top z) (wipe_set ho)
    · cases e
theorem pvs_nil : PGs X [] (SPs (kx X) own (ptg .nil).2) :=
  PGs.weak pgs_nil fun vs σ H Q ⟨b, env, hd, G, m, ρ, F, ds, env', R, hl, e, q⟩ => by
    cases ds with
    | nil =>
      cases vs with
      | nil => cases e; exact ⟨rfl, q ρ F σ H R rfl⟩
      | cons => simp at hl
    | cons => cases e
theorem pvs_cons {a : Expr} {p1 p2 : Pt} (h1 : PG X a (SP (kx X) own (ptg p1).1)) (h2 : PGs X es (SPs (kx X) own (ptg p2).2)) (hs : notStar a = true) : PGs X (a :: es) (SPs (kx X) own (ptg (.cons p1 p2)).2) := by
  refine PGs.weak (pgs_cons h1 h2 (by cases a <;> first | rfl | cases hs)) fun vs σ H Q ⟨b, env, hd, G, m, ρ, F, ds, env', R, hl, e, q⟩ => ?_
  cases ds with
  | nil => cases e
  | cons d r =>
    cases vs with
    | nil => simp at hl
    | cons v vr =>
      simp only [List.zip_cons_cons, List.cons_append] at R
      obtain ⟨env1, e1, e2⟩ := Option.bind_eq_some_iff.mp e
      exact ⟨v, vr, rfl, b, env, r.zip vr ++ hd, G, m, ρ, F, d, env1, R, e1, fun ρ1 F1 σ1 H1 R1 hw => ⟨b, env1, hd, G, m, ρ1, F1, r, env', R1, by simpa using hl, e2, fun ρ' F' σ' H' R' hw' => q ρ' F' σ' H' R' (hw'.trans hw)⟩⟩
theorem starT {X : Cx} : ∀ es : List Expr, es.all notStar = true → (assignEach es X.env).length = es.length ∧ (assignEach es X.env).findIdx? (·.1) = none := by
  intro es
  induction es with
  | nil => intro _; exact ⟨rfl, rfl⟩
  | cons a as ih =>
    intro h
    simp only [List.all_cons, Bool.and_eq_true] at h
    obtain ⟨i1, i2⟩ := ih h.2
    have : assignEach (a :: as) X.env = (false, assign a X.env) :: assignEach as X.env := by cases a <;> first | rfl | cases h.1
    rw [this]
    exact ⟨by simp [i1], by rw [List.findIdx?_cons]; simp only [Bool.false_eq_true, if_false]; rw [i2]; rfl⟩
theorem pv_tup {n k : Nat} {ts : Pt} (hc : X.calm = true) (h : PGs X es (SPs (kx X) own (ptg ts).2)) (hn : es.length = n) (hs : es.all notStar = true) : PG X (.Tuple es k pos) (SP (kx X) own (ptg (.tup n ts)).1) := by
  refine PG.weak (pg_tup hc h (n := n) (by rw [(starT es hs).1, hn]) (starT es hs).2) fun v σ H Q ⟨b, env, hd, G, m, ρ, F, d, env', R, e, q⟩ => ?_
  simp only [ptg] at e
  cases d with
  | tup xs =>
    simp only at e
    split at e
    · rename_i z
      obtain ⟨a, vs, rfl, hq, hz, rr⟩ := R.top.tup_of
      refine ⟨a, vs, rfl, SqT.ext R.rl.fh hq, by rw [← rr.length]; exact z, b, env, hd, G, m, ρ, F, xs, env', ?_, rr.length, e, q⟩
      have R1 := R.held (hd' := hd) fun _ => List.mem_cons_of_mem _
      refine ⟨R1.rl, R1.len, R1.env, fun q hq => ?_, R1.pin, R1.ml, R1.xt⟩
      rcases List.mem_append.mp hq with hq | hq
      · obtain ⟨i, hi, e⟩ := List.mem_iff_getElem.mp hq
        have hi1 : i < xs.length := by simp at hi; omega
        obtain ⟨w, hw, rw'⟩ := rr.get (List.getElem?_eq_getElem hi1)
        rw [← e, List.getElem_zip]
        have hi2 : i < vs.length := by simp at hi; omega
        rw [List.getElem?_eq_getElem hi2] at hw
        cases hw
        exact rw'
      · exact R1.hd q hq
    · cases e
  | _ => cases e
end
/-! ### a list comprehension -/
theorem Post.nox {α : Type} {r : Res α} {ok : α → MH → Prop} {ex : Exc → MH → Prop} (h : Post r.nox ok ex) : Post r ok noE := by
  cases r with
  | ok a m => exact h
  | exc => exact h.elim
  | fail => exact h
abbrev W0 : WX := fun _ _ _ _ => False
/-- the list is made -/
theorem lc_turns {k : PySem.W.Frag} {rx : PySem.W.Frag → Exc → Value → Option Addr → Hp → Prop} {W : WX} {b : Bs} {env : Env} {hd hs : List (D × V)} {G : Hp} {m : MH} {ρ : Ro} {F : Hp} {σ : L2.St} {H1 : Hp} {w : Wk} {J : It} {vs : List Nat} {f : D → Env → Option Env} {ft : Env → MH → Res Bool} {fe : Env → MH → Res D} {mu : Bool} {Q : VK}
    (R : RS (k0 k) b env (hs ++ hd) G m ρ F σ H1) (wk : Walks' (k0 k) hs w J) (hz : lenW w ≤ sizeLine)
    (p : Post (lcW f ft fe (wipeE env vs) w (lenW w + 1) 0 m) (fun ys m => Post (if mu then alloc m (.lst ys) else .ok (.lst ys) m) (fun d m' => ∀ ρ' F' H' v, RS (k0 k) b env ((d, v) :: hd) G m' ρ' F' σ H' → Q v H') (Ex (k0 k) rx W b env hd G σ)) noE) :
    ∀ A, H1 A = none → ∃ T : Nat → Nat → Hp → Prop, (∃ n, T 0 n (upd H1 A (.lst []))) ∧ ∀ i n H, T i n H → (J.stop i H ∧ Q (.ref A) H) ∨ (J.go i H ∧ ∃ Nx : Hp → Prop, (∀ H', Nx H' → ∃ n', n' < n ∧ T (i + 1) n' H') ∧ ∀ x H', J.yld i H x H' → SP (k0 k) vs f x (wipe σ vs) H' fun σ2 H2 => wipe σ2 vs = wipe σ vs ∧ ST (k0 k) rx W0 ft σ2 H2 fun t H3 =>
      if t = true then SE (k0 k) rx W0 fe σ2 H3 fun y H4 => ∃ acc, H4 A = some (.lst acc) ∧ acc.length < sizeLine ∧ Nx (upd H4 A (.lst (acc ++ [y]))) else Nx H3) := by
  intro A hA
  have hGA : G A = none := by
    cases e : G A with
    | none => rfl
    | some u => rw [(R.pin A u e).1] at hA; cases hA
  have RP := R.keepEnv
  have hlen := R.len
  have hslots : ∀ i d, env.at_ i = some d → ∃ v, σ[i]? = some (some v) ∧ (d, v) ∈ envP env σ := fun i d e => by
    obtain ⟨v, h1, _⟩ := R.env i d e
    exact ⟨v, h1, envP_mem e h1⟩
  generalize hPe : envP env σ = P at RP hslots
  clear hPe
  let rest := P ++ hd
  let T : Nat → Nat → Hp → Prop := fun i n H => ∃ ds us m ρ F, RS (k0 k) b (wipeE env vs) (hs ++ (ds.zip us ++ rest)) (upd G A (.lst us)) m ρ F (wipe σ vs) H ∧ ds.length = us.length ∧ us.length ≤ i ∧ i + n = lenW w + 1 ∧
    Post (lcW f ft fe (wipeE env vs) w n i m) (fun ys m => Post (if mu then alloc m (.lst (ds ++ ys)) else .ok (.lst (ds ++ ys)) m) (fun d m' => ∀ ρ' F' H' v, RS (k0 k) b env ((d, v) :: hd) G m' ρ' F' σ H' → Q v H') (Ex (k0 k) rx W b env hd G σ)) noE
  refine ⟨T, ⟨lenW w + 1, [], [], m, ρ, F, ((RP.wipe vs).pinNew (.lst []) hA).held (fun q hq => ?_), rfl, Nat.le_refl _, by omega, by simpa using p⟩, ?_⟩
  · simp only [List.zip_nil_left, List.nil_append, rest, List.mem_append] at hq ⊢
    rcases hq with hq | hq | hq <;> simp [hq]
  rintro i n H ⟨ds, us, m, ρ, F, R, hdu, hui, hin, p⟩
  cases n with
  | zero => exact p.elim
  | succ n =>
    obtain ⟨w1, w2⟩ := walk_step (i := i) wk R
    unfold lcW at p
    cases hst : stepW w i m with
    | none => rw [hst] at p; exact p.elim
    | some o =>
      rw [hst] at p
      cases o with
      | none =>
        refine .inl ⟨w2 (by omega) hst, ?_⟩
        have p : Post (if mu = true then alloc m (.lst (ds ++ [])) else .ok (.lst (ds ++ [])) m) _ _ := p
        rw [List.append_nil] at p
        have hpin : (upd G A (.lst us)) A = some (.lst us) := upd_same
        have hrest : ∀ a u, G a = some u → (upd G A (.lst us)) a = some u := fun a u e => by
          rw [upd_ne (fun z => by rw [z, hGA] at e; cases e)]
          exact e
        have hrep : RepL (k0 k) F ρ m ds us := RS.list (hd := rest) (R.held fun q hq => by
          simp only [List.mem_append] at hq ⊢
          exact .inr hq) hdu
        have hz2 : ds.length ≤ sizeLine := by omega
        have Rb : RS (k0 k) b env (hs ++ (ds.zip us ++ rest)) (upd G A (.lst us)) m ρ F σ H := R.envBack hlen fun j d e => by
          obtain ⟨v, h1, h2⟩ := hslots j d e
          exact ⟨v, h1, by simp [rest, h2]⟩
        have hup : ∀ q ∈ hd, q ∈ hs ++ (ds.zip us ++ rest) := fun q hq => by simp [rest, hq]
        cases mu with
        | false =>
          have R2 := (Rb.pinF hpin hGA hrest).held hup
          refine p ρ _ H _ (R2.hold ?_)
          refine .lst upd_same hz2 (hrep.ext (.newF (R.pin A _ hpin).2.1))
        | true =>
          simp only [if_true] at p
          cases m with
          | nil => exact p.elim
          | cons fr r =>
            simp only [alloc] at p
            split at p
            · rename_i hb
              have R2 := (Rb.pinM hpin hGA hrest hz2 hb hrep).held hup
              have := p _ _ H _ (R2.hold (.ref (Lv.snoc.mpr (.inl ⟨rfl, rfl⟩))))
              rw [Ro.put_same] at this
              exact this
            · exact p.elim
      | some x =>
        obtain ⟨g1, g2⟩ := w1 x hst
        refine .inr ⟨g1, fun H' => ∃ n', n' < n + 1 ∧ T (i + 1) n' H', fun H' h => h, fun xv H' hy => ?_⟩
        obtain ⟨F', R'⟩ := g2 xv H' hy
        dsimp only at p
        cases hf : f x (wipeE env vs) with
        | none => rw [hf] at p; exact p.elim
        | some env' =>
          rw [hf] at p
          refine ⟨b, wipeE env vs, _, _, m, ρ, F', x, env', R', hf, fun ρ2 F2 σ2 H2 R2 hw => ⟨hw.trans (wipe_wipe σ vs vs fun _ z => z), ?_⟩⟩
          refine ⟨b, env', _, _, m, ρ2, F2, R2, (Post.bind p).imp (fun t m3 p3 ρ3 F3 H3 R3 => ?_) fun _ _ z => z.elim⟩
          have back : ∀ {env4 : Env} {σ4 : L2.St} {hd4 : List (D × V)} {G4 : Hp} {m4 : MH} {ρ4 : Ro} {F4 H4 : Hp}, RS (k0 k) b env4 (hd4 ++ (hs ++ (ds.zip us ++ rest))) G4 m4 ρ4 F4 σ4 H4 → RS (k0 k) b (wipeE env vs) (hd4 ++ (hs ++ (ds.zip us ++ rest))) G4 m4 ρ4 F4 (wipe σ vs) H4 := fun {env4 σ4 hd4 G4 m4 ρ4 F4 H4} R4 => by
            have : RS (k0 k) b env (hd4 ++ (hs ++ (ds.zip us ++ rest))) G4 m4 ρ4 F4 σ H4 := R4.envBack hlen fun j d e => by
              obtain ⟨v, h1, h2⟩ := hslots j d e
              exact ⟨v, h1, by simp [rest, h2]⟩
            exact this.wipe vs
          have hn0 : ∀ {m4 : MH} {r : List D → MH → Prop}, Post (lcW f ft fe (wipeE env vs) w n (i + 1) m4) r noE → 0 < n := fun {m4 r} q => by
            cases n with
            | zero => exact q.elim
            | succ => omega
          cases t with
          | false =>
            simp only [Bool.false_eq_true, if_false] at p3 ⊢
            exact ⟨n, by omega, ds, us, m3, ρ3, F3, back (hd4 := []) R3, hdu, by omega, by omega, p3⟩
          | true =>
            simp only [if_true] at p3 ⊢
            refine ⟨b, env', _, _, m3, ρ3, F3, R3, (Post.bind p3).imp (fun y m4 p4 ρ4 F4 H4 u R4 => ?_) fun _ _ z => z.elim⟩
            have p5 := Post.bind p4
            have hn := hn0 p5
            have hpin : (upd G A (.lst us)) A = some (.lst us) := upd_same
            refine ⟨us, (R4.pin A _ hpin).1, by omega, n, by omega, ds ++ [y], us ++ [u], m4, ρ4, F4, ?_, by simp [hdu], by simp; omega, by omega, p5.imp (fun ys m q => by
              have q : Post (if mu = true then alloc m (.lst (ds ++ (y :: ys))) else .ok (.lst (ds ++ (y :: ys))) m) _ _ := q
              rw [List.append_assoc]
              exact q) fun _ _ z => z⟩
            have R5 := (back (hd4 := [(y, u)]) R4).pinSet (.lst (us ++ [u])) hpin
            have e1 : upd (upd G A (.lst us)) A (.lst (us ++ [u])) = upd G A (.lst (us ++ [u])) := by
              funext z
              by_cases e : z = A
              · subst e; simp only [upd_same]
              · simp only [upd_ne e]
            rw [e1] at R5
            refine R5.held fun q hq => ?_
            rw [List.zip_append hdu] at hq
            simp only [List.zip_cons_cons, List.zip_nil_right, List.mem_append, List.mem_cons, List.not_mem_nil, or_false] at hq ⊢
            rcases hq with hq | (hq | hq) | hq <;> simp [hq]
section
variable {X : Cx} {rx : PySem.W.Frag → Exc → Value → Option Addr → Hp → Prop} {W : WX} {elt tg iter : Expr} {ifs : List Expr} {scope : Scope} {own : List (Str × Nat)} {pos : Pos} {fw : Env → MH → Res Wk} {f : D → Env → Option Env} {ft : Env → MH → Res Bool} {fe : Env → MH → Res D}
def lcF (fw : Env → MH → Res Wk) (f : D → Env → Option Env) (ft : Env → MH → Res Bool) (fe : Env → MH → Res D) (own : List Nat) (mu : Bool) : Env → MH → Res D := fun v m => (fw v m).bind fun w m => if lenW w ≤ sizeLine then (lcW f ft fe (wipeE v own) w (lenW w + 1) 0 m).nox.bind fun ys m => if mu then alloc m (.lst ys) else .ok (.lst ys) m else .fail
theorem lc_read {σ : L2.St} {H : Hp} {Q : VK} {mu : Bool} (q : SE (k0 X.K) rx W (lcF fw f ft fe (own.map (·.2)) mu) σ H Q) : tLc (SI (k0 X.K) rx W fw) (SP (k0 X.K) (own.map (·.2)) f) (ST (k0 X.K) rx W0 ft) (SE (k0 X.K) rx W0 fe) (own.map (·.2)) σ H Q := by
  obtain ⟨b, env, hd, G, m, ρ, F, R, p⟩ := q
  refine ⟨b, env, hd, G, m, ρ, F, R, p.bind.imp (fun w m1 p1 ρ1 F1 H1 J hs R1 wk => ?_) fun _ _ z => z⟩
  split at p1
  · rename_i hz
    exact lc_turns R1 wk hz (Post.bind p1).nox
  · exact p1.elim
theorem pe_lc' {mu : Bool} (hc : X.calm = true) (hN : X.N.Nodup) (hi : PI X tg iter (SI (k0 X.K) rx W fw)) (ok : BlkOk X.N X.env.scope scope own)
    (hg : ∀ (s : Shared) (H : Hp) (C : Addr) (cl : List (Str × Addr)) (fp : List Addr), PG (X.blk s H scope (compEnvC scope cl C X.env) fp) tg (SP (k0 X.K) (own.map (·.2)) f)) (ht : ∀ (s : Shared) (H : Hp) (C : Addr) (cl : List (Str × Addr)) (fp : List Addr), PTs (X.blk s H scope (compEnvC scope cl C X.env) fp) ifs (ST (k0 X.K) rx W0 ft))
    (he : ∀ (s : Shared) (H : Hp) (C : Addr) (cl : List (Str × Addr)) (fp : List Addr), PE (X.blk s H scope (compEnvC scope cl C X.env) fp) elt (SE (k0 X.K) rx W0 fe)) (hs : ∀ x, foldedSetIterable iter X.env x = pure x) :
    PE X (.ListComp elt [⟨tg, iter, ifs, 0⟩] scope pos) (SE (k0 X.K) rx W (lcF fw f ft fe (own.map (·.2)) mu)) :=
  PE.weak (pe_lc hc hN hi ok hg ht he hs) fun σ H Q q => lc_read q
theorem ps_setLc' {mu : Bool} {i : Nat} {y : Str} {py spos : Pos} (hc : X.calm = true) (hN : X.N.Nodup) (hy : X.N[i]? = some y) (hyl : X.env.scope.names.lookup y = some .local)
    (hsw : swapsWith (.ListComp elt [⟨tg, iter, ifs, 0⟩] scope pos) (some (.Name y py)) spos.line X.env = pure true) (hi : PI X tg iter (SI (k0 X.K) rx W fw)) (ok : BlkOk X.N X.env.scope scope own)
    (hg : ∀ (s : Shared) (H : Hp) (C : Addr) (cl : List (Str × Addr)) (fp : List Addr), PG (X.blk s H scope (compEnvC scope cl C X.env) fp) tg (SP (k0 X.K) (own.map (·.2)) f)) (ht : ∀ (s : Shared) (H : Hp) (C : Addr) (cl : List (Str × Addr)) (fp : List Addr), PTs (X.blk s H scope (compEnvC scope cl C X.env) fp) ifs (ST (k0 X.K) rx W0 ft))
    (he : ∀ (s : Shared) (H : Hp) (C : Addr) (cl : List (Str × Addr)) (fp : List Addr), PE (X.blk s H scope (compEnvC scope cl C X.env) fp) elt (SE (k0 X.K) rx W0 fe)) (hs : ∀ x, foldedSetIterable iter X.env x = pure x) :
    PS X (.Assign [.Name y py] (.ListComp elt [⟨tg, iter, ifs, 0⟩] scope pos) spos) (SS (k0 X.K) rx W fun v m => (lcF fw f ft fe (own.map (·.2)) mu v m).st v fun x m => if i < v.length then .ok (.nx (v.set i (some x))) m else .fail) :=
  PS.weak (ps_setLc hc hN hy hyl hsw hi ok hg ht he hs) fun En σ H ⟨b, env, hd, G, m, ρ, F, R, p⟩ => by
    refine lc_read (mu := mu) (X := X) ⟨b, env, hd, G, m, ρ, F, R, p.st.imp (fun d m1 p1 ρ1 F1 H1 v R1 => ?_) fun _ _ z ρ' F' H' c dd R' => z ρ' F' σ H' c dd R'⟩
    split at p1
    · rename_i z
      exact p1 ρ1 F1 _ H1 ((R1.held fun _ => List.mem_cons_of_mem _).store R1.top z)
    · exact p1.elim
end
end Fw

set_option Elab.async false
set_option linter.all false
set_option maxRecDepth 100000
set_option maxHeartbeats 2000000
set_option autoImplicit false
/-! ## Fw7d: rules that the library lacks, by values -/
namespace Fw
open PySem PySem.Spec PyProof.Rows L2
/-! ### t[::-1] -/
theorem rev_places (n : Nat) : Builtin.Slice.slicePlaces ((n : Int) - 1) (-1) (-1) = n := by
  unfold Builtin.Slice.slicePlaces
  have h1 : ¬ ((-1 : Int) > 0) := by decide
  simp only [h1, if_false]
  by_cases h : (n : Int) - 1 > -1
  · simp only [h, if_true, show (- -1 : Int) = 1 by decide, Int.ediv_one]
    omega
  · simp only [h, if_false]
    omega
theorem rev_pick (xs : Array Value) : ((List.range xs.size).filterMap fun (m : Nat) => xs[(((xs.size : Nat) : Int) - 1 + (m : Int) * -1).toNat]?).toArray = xs.toList.reverse.toArray := by
  congr 1
  rw [← PySem.W.krv_all xs, ← List.filterMap_reverse, ← PySem.W.krv_range, List.filterMap_map]
  congr 1
  funext m
  have : (((xs.size : Nat) : Int) - 1 + (m : Int) * -1).toNat = xs.size - 1 - m := by omega
  simp only [Function.comp, this]
section
variable {prog : Program} {w : World} {A : Around} {E : Value → Shared → Prop} {s : Shared}
theorem part_of {v : Value} {o : Option Int} {Q : Option Int → Shared → Prop} (p : IsPart v o) (h : Q o s) : wpAny (model prog w) A (Builtin.Slice.slicePartIndex v) Q E s := HT.slicePart_ p h
theorem rev_applied {sl : Addr} {vs : Value} {n : Nat} {Q : Int × Int × Nat → Shared → Prop} (hs : s.heap.IsSliceOf sl .none .none vs) (ps : IsPart vs (some (-1))) (h : Q (((n : Nat) : Int) - 1, -1, n) s) : wpAny (model prog w) A (Builtin.Slice.sliceApplied (.ref sl) (pure (n : Int))) Q E s := by
  obtain ⟨oo, ho, hcl, hda⟩ := id hs
  unfold Builtin.Slice.sliceApplied Builtin.Slice.sliceFields
  refine wpAny_bind (wpAny_bind (wpAny_field ho hda (x := .none) rfl (wpAny_bind (wpAny_field ho hda (x := .none) rfl (wpAny_bind (wpAny_field ho hda (x := vs) rfl (wpAny_pure ?_)))))))
  refine wpAny_bind (part_of ps ?_)
  show wpAny _ _ (if ((-1 : Int) == 0) = true then _ else _) _ _ s
  rw [if_neg (by decide)]
  refine wpAny_bind (part_of .none (wpAny_bind (part_of .none (wpAny_bind (wpAny_pure ?_)))))
  show wpAny _ _ (pure (((n : Nat) : Int) - 1, (-1 : Int), Builtin.Slice.slicePlaces (((n : Nat) : Int) - 1) (-1) (-1))) _ _ s
  rw [rev_places]
  exact wpAny_pure h
theorem tup_rev {t sl : Addr} {items : Array Value} {vs : Value} {Q : Value → Shared → Prop} (ht : IsTup s.heap t items) (hs : s.heap.IsSliceOf sl .none .none vs) (ps : IsPart vs (some (-1)))
    (h : Q (.ref s.heap.objs.size) { s with heap := s.heap.push { cls := .type "tuple", data := .seq items.toList.reverse.toArray } }) (hz : items.size ≤ sizeLine) : wpAny (model prog w) A (getItem (.ref t) (.ref sl)) Q E s := by
  have hsz : sizeOk (.seq items.toList.reverse.toArray) := by
    show items.toList.reverse.toArray.size ≤ sizeLine
    rw [List.size_toArray, List.length_reverse, Array.length_toList]
    exact hz
  obtain ⟨oo, ho, hcl, hda⟩ := id hs
  have hT : s.TypeIs (.ref sl) "slice" := ⟨oo, ho, hcl⟩
  unfold getItem
  try with_reducible refine wpAny_holding ?_
  first | refine wpAny_bind (wpAny_pure ?_) | skip
  refine wpAny_bind (wpAny_sequenceKey ht.typeIs (by decide) ?_)
  refine wpAny_bind (wpAny_callSpecial?_slot (name := Str.ofString "__getitem__") ht.typeIs PyProof.Rows.slot_tuple_getitem (wpAny_call_entry PyProof.Rows.slot_tuple_getitem ht.typeIs entry_tuple_getitem ?_ (args_tuple_getitem _ _)))
  show wpAny _ _ (Builtin.Tuple.tupleItemsOf (.ref t) >>= _) _ _ s
  refine wpAny_bind (tupleItemsOf_ ht ?_)
  refine wpAny_bind (wpAny_typeOf hT ?_)
  rw [if_pos (by decide)]
  refine wpAny_bind (rev_applied hs ps ?_)
  have hno : ¬ (((((items.size : Nat) : Int) - 1) == 0 && (-1 : Int) == 1 && items.size == items.size) = true) := by
    intro q
    rw [Bool.and_eq_true, Bool.and_eq_true] at q
    cases q.1.2
  show wpAny _ _ (if ((((items.size : Nat) : Int) - 1) == 0 && (-1 : Int) == 1 && items.size == items.size) = true then _ else _) _ _ s
  rw [if_neg hno, rev_pick]
  first
    | exact wpAny_bind (m := Builtin.Tuple.tupleExact _) (wpAny_newObj_type (wpAny_pure ⟨_, rfl, wpAny_pure h⟩) hsz)
    | exact wpAny_bind (m := Builtin.Tuple.tupleExact _) (wpAny_newObj_type (wpAny_bind (wpAny_pure (wpAny_pure ⟨_, rfl, wpAny_pure h⟩))) hsz)
    | exact wpAny_bind (wpAny_bind (m := Builtin.Tuple.tupleExact _) (wpAny_newObj_type (wpAny_pure (wpAny_pure ⟨_, rfl, wpAny_pure h⟩)) hsz))
    | exact wpAny_bind (wpAny_bind (m := Builtin.Tuple.tupleExact _) (wpAny_newObj_type (wpAny_pure ⟨_, rfl, wpAny_pure h⟩) hsz))
end
section
variable {X : Cx}
def tRevA (K : PySem.W.Frag) (te : TE) : TE := fun σ H Q => te σ H fun x H1 => ∃ a xs, x = .ref a ∧ ((SqT K H1 a xs ∧ ∀ p, H1 p = none → Q (.ref p) (upd H1 p (.tup xs.reverse))) ∨ (SqL K H1 a xs ∧ ∀ p, H1 p = none → Q (.ref p) (upd H1 p (.lst xs.reverse))))
theorem pe_revA {e : Expr} {te : TE} {k : Nat} {p1 p2 p3 pos : Pos} (he : PE X e te) : PE X (.Subscript e (.Slice none none (some (.UnaryOp .USub (.Constant (.int 1) k p1) p2)) p3) pos) (tRevA X.K te) := by
  refine ⟨fun pins s σ H Q I h => Subscript_ (thn (he.run pins s σ H _ I h) fun v s1 ⟨x, H1, I1, r1, q1⟩ => ?_)⟩
  obtain ⟨a, xs, rfl, q⟩ := q1
  cases r1
  have step : PO X (some (.UnaryOp .USub (.Constant (.int 1) k p1) p2)) (tPart (tUn (rU fun i => .int (-i)) (tC (.int 1)))) := po_some (pe_un un_neg pe_int)
  refine wpAny_Slice (thn (po_none.run pins s1 σ H1 (fun o H2 => o = none ∧ H2 = H1) I1 ⟨rfl, rfl⟩) fun vl s2 ⟨o2, H2, I2, pl, e2, e2'⟩ => ?_)
  subst e2 e2'
  cases pl
  refine thn (po_none.run pins s2 σ H2 (fun o H3 => o = none ∧ H3 = H2) I2 ⟨rfl, rfl⟩) fun vu s3 ⟨o3, H3, I3, pu, e3, e3'⟩ => ?_
  subst e3 e3'
  cases pu
  refine thn (step.run pins s3 σ H3 (fun o H4 => o = some (-1) ∧ H4 = H3) I3 ⟨1, rfl, -1, rfl, rfl, rfl⟩) fun vs s4 ⟨o4, H4, I4, ps, e4, e4'⟩ => ?_
  subst e4 e4'
  have I5 : Inv X pins σ H4 { s4 with heap := s4.heap.push { cls := .type "slice", data := .fields #[.none, .none, vs] } } := I4.kept (t' := s4.toks) fun b ob q => Heap.get?_push_of_some _ q
  show wpAny (model X.prog X.w) X.A (subscriptTail e (.Slice none none (some (.UnaryOp .USub (.Constant (.int 1) k p1) p2)) p3) (.ref a) (.ref s4.heap.objs.size)) (EP X pins σ Q) X.xe { s4 with heap := s4.heap.push { cls := .type "slice", data := .fields #[.none, .none, vs] } }
  rcases q with ⟨hx, q⟩ | ⟨hx, q⟩
  · obtain ⟨its, r, ht, hz⟩ := I5.tuple hx
    have hlen := r.length
    refine tail_any (ops := [.ref a, .ref s4.heap.objs.size]) ht.typeIs (PyProof.Rows.slot_tuple_getitem.lookup) ?_ (by with_unfolding_all rfl)
    refine tup_rev ht (Heap.IsSliceOf.new _ .none .none vs) ps ?_ (by rw [List.size_toArray]; omega)
    refine ⟨.ref _, _, I5.laid (t' := s4.toks) (o := .tup xs.reverse) (fun b ob q => Heap.get?_push_of_some _ q) (Nat.le_refl _) ?_, rfl, q _ (I5.hok.fresh (Nat.le_refl _))⟩
    exact ⟨by rw [List.length_reverse]; exact hz, _, r.reverse, IsTup.new _ _⟩
  · obtain ⟨its, r, ht, hz⟩ := I5.list hx
    have hlen := r.length
    refine tail_any (ops := [.ref a, .ref s4.heap.objs.size]) ht.isList.typeIs (PySem.slot_list_getitem.lookup) ?_ (by with_unfolding_all rfl)
    refine wpAny_getItem_list_slice ht.isList (Heap.IsSliceOf.new _ .none .none vs) .none .none ps (by decide) ?_ (by rw [List.size_toArray]; omega)
    rw [PySem.W.krv_pick]
    refine ⟨.ref _, _, I5.laid (t' := s4.toks) (o := .lst xs.reverse) (fun b ob q => Heap.get?_push_of_some _ q) (Nat.le_refl _) ?_, rfl, q _ (I5.hok.fresh (Nat.le_refl _))⟩
    exact ⟨by rw [List.length_reverse]; exact hz, _, 0, r.reverse, Heap.get?_push_size _ rfl⟩
end
section
variable {X : Cx}
/-! ### xs.count(y) of flat things -/
def rCntF (K : PySem.W.Frag) : V → List V → Hp → VK → Prop := fun x xs H Q => ∃ (p : Addr) (ys : List V) (y : V), x = .ref p ∧ xs = [y] ∧ SqL K H p ys ∧ flatV y = true ∧ ys.all flatV = true ∧ Q (.int ((ys.countP fun z => eqV z y : Nat) : Int)) H
theorem mt_cntF : MtR X "list.count" (rCntF X.K) := by
  intro pins s σ H x xs v us Q I rx rxs h
  obtain ⟨p, ys, y, rfl, rfl, hs, fy, fys, q⟩ := h
  cases rx
  obtain ⟨u, rfl, ru⟩ := rxs.one
  obtain ⟨its, rv, ⟨⟨cls, dd, data, sl⟩, n, ho, hc, hdn, hd⟩, hlen⟩ := I.list hs
  simp only at hc hd
  subst hc hd
  -- an item's answer by its value
  have key : ∀ {zs : List V} {ws : List Value}, Vals zs ws → zs.all flatV = true → ∃ e : Value → Bool, (∀ w ∈ ws, ∀ A s, SeqAt.EqAt A s w u (e w)) ∧ ws.countP e = zs.countP fun z => eqV z y := by
    intro zs ws r f
    let e : Value → Bool := fun w => match w with
      | .none => eqV .non y
      | .bool b => eqV (.bl b) y
      | .int i _ => eqV (.int i) y
      | .str t _ => eqV (.str t) y
      | _ => false
    have one : ∀ {z : V} {w : Value}, L2.RelV z w → flatV z = true → e w = eqV z y := fun {z w} r f => by
      cases z <;> first | cases f | skip
      · cases r; rfl
      · cases r; rfl
      · obtain ⟨t, rfl⟩ := r; rfl
      · obtain ⟨t, rfl⟩ := r; rfl
    refine ⟨e, ?_, ?_⟩
    · intro w hw A s
      induction r with
      | nil => cases hw
      | cons r1 r2 ih =>
        simp only [List.all_cons, Bool.and_eq_true] at f
        rcases List.mem_cons.mp hw with rfl | hw
        · rw [one r1 f.1]
          exact eqAt_V r1 ru f.1 fy
        · exact ih f.2 hw
    · induction r with
      | nil => rfl
      | cons r1 r2 ih =>
        simp only [List.all_cons, Bool.and_eq_true] at f
        rw [List.countP_cons, List.countP_cons, ih f.2, one r1 f.1]
  obtain ⟨e, h1, h2⟩ := key rv fys
  refine call_meets PySem.F.slot_list_count ⟨_, ho, rfl⟩ PySem.F.entry_list_count (PySem.F.args_list_count_2 _ _) (SeqAt.list_countAt p its.toArray n dd sl u e) ⟨ho, fun w hw => h1 w (by simpa using hw) _ _, ?_⟩
  refine ⟨.int ((ys.countP fun z => eqV z y : Nat) : Int), H, I.tok _, ⟨s.toks, ?_⟩, q⟩
  rw [← h2]
end
/-! ### zip, enumerate of lists and tuples -/
def SqX (K : PySem.W.Frag) (t : Bool) (H : Hp) (a : Addr) (xs : List V) : Prop := if t then SqT K H a xs else SqL K H a xs
def IterX (t : Bool) (h : Heap) (it a : Addr) (i : Nat) : Prop := if t then h.IsTupleIter it a i else h.IsListIter it a i
def ContX (t : Bool) (h : Heap) (a : Addr) (items : Array Value) : Prop := if t then h.IsTuple a items else h.IsList a items
theorem IterX.at_ {t : Bool} {h h' : Heap} {it a : Addr} {i : Nat} (x : IterX t h it a i) (k : ∀ o, h.get? it = some o → h'.get? it = some o) : IterX t h' it a i := by
  cases t
  · exact Heap.IsListIter.at x k
  · exact Heap.IsTupleIter.at x k
theorem IterX.obj {t : Bool} {h : Heap} {it a : Addr} {i : Nat} (x : IterX t h it a i) : ∃ o, h.get? it = some o ∧ ∀ v, o.data ≠ .cell v := by
  cases t
  · obtain ⟨o, ho, hc, hd⟩ : h.IsListIter it a i := x
    exact ⟨o, ho, fun v q => by rw [hd] at q; cases q⟩
  · obtain ⟨o, ho, hc, hd⟩ : h.IsTupleIter it a i := x
    exact ⟨o, ho, fun v q => by rw [hd] at q; cases q⟩
theorem drawX {X : Cx} {pins : List (Addr × Obj)} {σ : L2.St} {H : Hp} {s : Shared} {t : Bool} {a : Addr} {xs : List V} (I : Inv X pins σ H s) (h : SqX X.K t H a xs) : ∃ its : List Value, Vals xs its ∧ ContX t s.heap a its.toArray ∧
    ∀ (prog : Program) (w : World) (A : Around) (it : Addr), A.handled = none → a ≠ it → Draws prog w A it [it, a] its.length (fun i v => its[i]? = some v) (fun i h => IterX t h it a i ∧ ContX t h a its.toArray) := by
  cases t
  · obtain ⟨its, r, p, _⟩ := I.list h
    refine ⟨its, r, p.isList, fun prog w A it hh hne => ?_⟩
    have := Draws.list (prog := prog) (w := w) hh it a hne its.toArray
    show Draws prog w A it [it, a] its.length _ fun i h => h.IsListIter it a i ∧ h.IsList a its.toArray
    simpa using this
  · obtain ⟨its, r, p, _⟩ := I.tuple h
    refine ⟨its, r, p, fun prog w A it hh hne => ?_⟩
    have := Draws.tuple (prog := prog) (w := w) hh it a hne its.toArray
    show Draws prog w A it [it, a] its.length _ fun i h => h.IsTupleIter it a i ∧ h.IsTuple a its.toArray
    simpa using this
theorem begX {t : Bool} {a : Addr} {items : Array Value} : ∃ o : Obj, Begins (.ref a) o (fun h => ContX t h a items) ∧ ∀ (h : Heap) (it : Addr), h.get? it = some o → IterX t h it a 0 := by
  cases t
  · exact ⟨_, begins_list a items, fun h it e => ⟨_, e, rfl, rfl⟩⟩
  · exact ⟨_, begins_tuple a items, fun h it e => ⟨_, e, rfl, rfl⟩⟩
theorem IterX.ne {t : Bool} {h : Heap} {it a : Addr} {i : Nat} {items : Array Value} (x : IterX t h it a i) (c : ContX t h a items) : a ≠ it := by
  intro e
  subst e
  cases t
  · obtain ⟨o, ho, hc, hd⟩ : h.IsListIter a a i := x
    obtain ⟨o2, ho2, hc2, _⟩ : h.IsList a items := c
    rw [ho] at ho2
    cases ho2
    rw [hc] at hc2
    simp at hc2
  · obtain ⟨o, ho, hc, hd⟩ : h.IsTupleIter a a i := x
    obtain ⟨o2, ho2, hc2, _⟩ : h.IsTuple a items := c
    rw [ho] at ho2
    cases ho2
    rw [hc] at hc2
    simp at hc2
theorem SqX.inj {X : Cx} {pins : List (Addr × Obj)} {σ : L2.St} {H : Hp} {s : Shared} {t : Bool} {a : Addr} {xs ys : List V} (I : Inv X pins σ H s) (h : SqX X.K t H a xs) (h' : SqX X.K t H a ys) : xs = ys := by
  cases t
  · exact I.list_inj h h'
  · exact I.tuple_inj h h'
def ItZ (K : PySem.W.Frag) (t u : Bool) (a b : Addr) : It :=
  ⟨fun i H => ∃ (xs ys : List V) (x y : V), SqX K t H a xs ∧ SqX K u H b ys ∧ xs[i]? = some x ∧ ys[i]? = some y,
    fun i H v H' => ∃ T x y, v = .ref T ∧ H T = none ∧ H' = upd H T (.tup [x, y]) ∧ (∀ xs, SqX K t H a xs → xs[i]? = some x) ∧ ∀ ys, SqX K u H b ys → ys[i]? = some y,
    fun i H => ∃ xs ys : List V, SqX K t H a xs ∧ SqX K u H b ys ∧ i ≤ xs.length ∧ i ≤ ys.length ∧ (i = xs.length ∨ i = ys.length)⟩
theorem turn_Z {P : Program} {w : World} {K : PySem.W.Frag} {elts : List Expr} {kk : Nat} {tpos : Pos} {t u : Bool} {a b z TI TO i1 i2 : Addr} (S : ZipSep2 z TI TO i1 i2 [i1, a] [i2, b]) :
    Turn P w K (.Tuple elts kk tpos) (ItZ K t u a b) [z, TI, TO, i1, i2] z (fun i h => IsZip h z TI TO .none ∧ IsTupOf2 h TI (.ref i1) (.ref i2) ∧ (∃ x y, IsTupOf2 h TO x y) ∧ IterX t h i1 a i ∧ IterX u h i2 b i) where
  mem := by simp
  obj := fun i h ⟨hz, hI, ⟨x, y, hO⟩, h1, h2⟩ c hc => by
    simp only [List.mem_cons, List.not_mem_nil, or_false] at hc
    rcases hc with rfl | rfl | rfl | rfl | rfl
    · exact ⟨_, hz, fun v q => nomatch q⟩
    · exact ⟨_, hI, fun v q => nomatch q⟩
    · exact ⟨_, hO, fun v q => nomatch q⟩
    · exact h1.obj
    · exact h2.obj
  keep := fun i h h' ⟨hz, hI, ⟨x, y, hO⟩, h1, h2⟩ k => ⟨k z (by simp) _ hz, k TI (by simp) _ hI, ⟨x, y, k TO (by simp) _ hO⟩, h1.at_ fun o q => k i1 (by simp) o q, h2.at_ fun o q => k i2 (by simp) o q⟩
  item := by
    intro X e1 e2 e3 hcalm i pins s σ H E I hf ⟨hz, hI, ⟨x0, y0, hO⟩, h1, h2⟩ ⟨xs, ys, x, y, qx, qy, hx, hy⟩
    subst e1 e2 e3
    obtain ⟨its, rv, c1, D1⟩ := drawX I qx
    obtain ⟨its2, rv2, c2, D2⟩ := drawX I qy
    obtain ⟨v1, hv1, ru⟩ := rv.get hx
    obtain ⟨v2, hv2, ru2⟩ := rv2.get hy
    have hA : X.A.in1.handled = none := I.ok.hd hcalm
    have a1 := IterX.ne h1 c1
    have b1 := IterX.ne h2 c2
    have hl1 : i < its.length := (List.getElem?_eq_some_iff.mp hv1).1
    have hl2 : i < its2.length := (List.getElem?_eq_some_iff.mp hv2).1
    have zlt : z < s.heap.objs.size := Heap.lt_size hz
    refine wpAny_pyNext_zipD2_item S (D1 _ _ _ _ hA a1) (D2 _ _ _ _ hA b1) hz hI hO ⟨h1, c1⟩ ⟨h2, c2⟩ hl1 hl2 fun w1 w2 h' tk p1 p2 z' O' s1 s2 hT hsz hk => ?_
    rw [hv1] at p1
    rw [hv2] at p2
    cases p1
    cases p2
    refine ⟨_, rfl, wpAny_letOwnedTupleGo_zip (s := { s with heap := h', toks := tk }) z' fun h'' z'' sb => ?_⟩
    have hT2 : h''.get? s.heap.objs.size = some { cls := .type "tuple", data := .seq #[v1, v2] } := (sb.2 _ (Nat.ne_of_gt zlt)).trans hT
    have nw : ObjOk X.prog X.w (upd H s.heap.objs.size (.tup [x, y])) h'' s.heap.objs.size (.tup [x, y]) := ⟨by show 2 ≤ sizeLine; decide, [v1, v2], .cons ru (.cons ru2 .nil), ⟨_, hT2, rfl, _, rfl⟩⟩
    have I1 : Inv X pins σ (upd H s.heap.objs.size (.tup [x, y])) { s with heap := h'', toks := tk } := I.turnedNew (ch := [z, TI, TO, i1, i2]) (fun c o hb q => by
      simp only [List.mem_cons, List.not_mem_nil, or_false, not_or] at hb
      exact (sb.2 c hb.1).trans (hk c o hb.1 hb.2.2.1 hb.2.2.2.1 hb.2.2.2.2 q)) hf (Nat.le_refl _) nw
    refine ⟨.ref s.heap.objs.size, _, I1, rfl, ⟨_, x, y, rfl, I.hok.fresh (Nat.le_refl _), rfl, fun l hl => by rw [SqX.inj I hl qx]; exact hx, fun l hl => by rw [SqX.inj I hl qy]; exact hy⟩, ⟨z'', ?_, ⟨v1, v2, ?_⟩, ?_, ?_⟩, fun c hcm => ?_⟩
    · exact (sb.2 _ S.TIz).trans (hk _ _ S.TIz S.TITO S.TIi1 S.TIi2 hI)
    · exact (sb.2 _ S.TOz).trans O'
    · exact s1.1.at_ fun o q => (sb.2 _ S.zi1.symm).trans q
    · exact s2.1.at_ fun o q => (sb.2 _ S.zi2.symm).trans q
    · have hlt : c < s.heap.objs.size := by
        simp only [List.mem_cons, List.not_mem_nil, or_false] at hcm
        rcases hcm with rfl | rfl | rfl | rfl | rfl
        · exact zlt
        · exact Heap.lt_size hI
        · exact Heap.lt_size hO
        · obtain ⟨o, e, _⟩ := h1.obj; exact Heap.lt_size e
        · obtain ⟨o, e, _⟩ := h2.obj; exact Heap.lt_size e
      rw [upd_ne (Nat.ne_of_lt hlt)]
      exact (hf c hcm).1
  done := by
    intro X e1 e2 e3 hcalm i pins s σ H E I hf ⟨hz, hI, ⟨x0, y0, hO⟩, h1, h2⟩ ⟨xs, ys, qx, qy, l1, l2, l3⟩
    subst e1 e2 e3
    obtain ⟨its, rv, c1, D1⟩ := drawX I qx
    obtain ⟨its2, rv2, c2, D2⟩ := drawX I qy
    have hA : X.A.in1.handled = none := I.ok.hd hcalm
    have e1 := rv.length
    have e2 := rv2.length
    exact wpAny_pyNext_zipD2_end S (D1 _ _ _ _ hA (IterX.ne h1 c1)) (D2 _ _ _ _ hA (IterX.ne h2 c2)) hz hI hO ⟨h1, c1⟩ ⟨h2, c2⟩ (by omega) (by omega) (by omega) fun h' tk hk => ⟨rfl, I.turnedL (ch := [z, TI, TO, i1, i2]) (fun c o hb q => by
      simp only [List.mem_cons, List.not_mem_nil, or_false, not_or] at hb
      exact hk c o hb.1 hb.2.2.1 hb.2.2.2.1 hb.2.2.2.2 q) hf⟩
  self := fun A i s Q E st h => wpAny_pyIter_zip st.1 h

def iZ (K : PySem.W.Frag) (ta : TA) : TI := fun σ H R => ta σ H fun vs H1 => ∃ t u a b, vs = [.ref a, .ref b] ∧ (∃ xs, SqX K t H1 a xs) ∧ (∃ ys, SqX K u H1 b ys) ∧ R (ItZ K t u a b) H1
theorem ContX.lt {t : Bool} {h : Heap} {a : Addr} {items : Array Value} (c : ContX t h a items) : a < h.objs.size := by
  cases t
  · obtain ⟨o, ho, _⟩ : h.IsList a items := c
    exact Heap.lt_size ho
  · obtain ⟨o, ho, _⟩ : h.IsTuple a items := c
    exact Heap.lt_size ho
theorem pi_Z {X : Cx} {e e2 : Expr} {ta : TA} {p pos tpos : Pos} {elts : List Expr} {kk : Nat} (hg : Gl X "zip") (hm : X.mg "zip" = none) (ha : PA X [e, e2] ta) (hs : notStar e = true) (hs2 : notStar e2 = true) :
    PI X (.Tuple elts kk tpos) (.Call (.Name "zip" p) [e, e2] [] pos) (iZ X.K ta) := by
  refine ⟨fun pins s σ H R I h => Call_ (ld_blt I hg hm PyProof.Rows.boot_zip (PyProof.Rows.callWith_type1 (thn (ha.run pos pins s σ H _ I h) fun us s1 ⟨vs, H1, I1, r1, t, u, a, b, ev, ⟨xs, qx⟩, ⟨ys, qy⟩, q⟩ => ?_) (star_ok hs) (star_none (es := [e2]) (by simpa using hs2))))⟩
  subst ev
  cases r1 with
  | cons r rr =>
    cases rr with
    | cons r' rr =>
      cases rr
      cases r
      cases r'
      obtain ⟨its, rv, c1, _⟩ := drawX I1 qx
      obtain ⟨its2, rv2, c2, _⟩ := drawX I1 qy
      obtain ⟨o1, B1, g1⟩ := begX (t := t) (a := a) (items := its.toArray)
      obtain ⟨o2, B2, g2⟩ := begX (t := u) (a := b) (items := its2.toArray)
      have la := c1.lt
      have lb := c2.lt
      refine zip_begins2 B1 B2 c1 c2 fun h' hz hI hO f1 f2 hsz hk => wpAny_pyIter_zip hz ?_
      have I2 : Inv X pins σ H1 { s1 with heap := h' } := I1.kept (t' := s1.toks) hk
      have S := zip_sep2 (N := s1.heap.objs.size) (fp1 := [a]) (fp2 := [b]) (by simpa using la) (by simpa using lb)
      refine ⟨s1.heap.objs.size + 4, [s1.heap.objs.size + 4, s1.heap.objs.size + 2, s1.heap.objs.size + 3, s1.heap.objs.size, s1.heap.objs.size + 1], _, _, H1, rfl, I2, turn_Z S, ⟨hz, hI, ⟨_, _, hO⟩, g1 _ _ f1, g2 _ _ f2⟩, fun c hcm => ?_, q⟩
      have hle : s1.heap.objs.size ≤ c := by
        simp only [List.mem_cons, List.not_mem_nil, or_false] at hcm
        rcases hcm with rfl | rfl | rfl | rfl | rfl <;> first | exact Nat.le_refl _ | exact Nat.le_add_right _ _
      exact I1.fpOk hle (I1.hok.fresh hle)
def ItE (K : PySem.W.Frag) (t : Bool) (a : Addr) : It :=
  ⟨fun i H => ∃ (xs : List V) (x : V), SqX K t H a xs ∧ xs[i]? = some x, fun i H v H' => ∃ T x, v = .ref T ∧ H T = none ∧ H' = upd H T (.tup [.int (i : Nat), x]) ∧ ∀ xs, SqX K t H a xs → xs[i]? = some x,
    fun i H => ∃ xs : List V, SqX K t H a xs ∧ i = xs.length⟩
theorem turn_E {P : Program} {w : World} {K : PySem.W.Frag} {elts : List Expr} {kk : Nat} {tpos : Pos} {t : Bool} {a e it : Addr} (hne : e ≠ it) (hea : e ≠ a) :
    Turn P w K (.Tuple elts kk tpos) (ItE K t a) [e, it] e (fun i h => (∃ old, IsEnum h e it ((i : Nat) : Int) old) ∧ IterX t h it a i) where
  mem := by simp
  obj := fun i h ⟨⟨old, he⟩, hi⟩ b hb => by
    simp only [List.mem_cons, List.not_mem_nil, or_false] at hb
    rcases hb with rfl | rfl
    · exact ⟨_, he, fun v q => nomatch q⟩
    · exact hi.obj
  keep := fun i h h' ⟨⟨old, he⟩, hi⟩ k => ⟨⟨old, k e (by simp) _ he⟩, hi.at_ fun o q => k it (by simp) o q⟩
  item := by
    intro X e1 e2 e3 hcalm i pins s σ H E I hf ⟨⟨old, he⟩, hi⟩ ⟨xs, x, qx, hx⟩
    subst e1 e2 e3
    obtain ⟨its, rv, c1, D1⟩ := drawX I qx
    obtain ⟨v1, hv1, ru⟩ := rv.get hx
    have hA : X.A.in1.handled = none := I.ok.hd hcalm
    have hl1 : i < its.length := (List.getElem?_eq_some_iff.mp hv1).1
    have elt : e < s.heap.objs.size := Heap.lt_size he
    have ilt : it < s.heap.objs.size := by obtain ⟨o, q, _⟩ := hi.obj; exact Heap.lt_size q
    refine wpAny_pyNext_enum_itemD (D1 _ _ _ _ hA (IterX.ne hi c1)) he ⟨hi, c1⟩ hl1 hne (by simp [hne, hea]) fun w1 h' tk p1 ho s1 hT hsz hk => ?_
    rw [hv1] at p1
    cases p1
    refine ⟨_, rfl, wpAny_letOwnedTupleGo_enum (s := { s with heap := h', toks := tk + 1 }) ho fun h'' he' sb => ?_⟩
    have hT2 : h''.get? s.heap.objs.size = some { cls := .type "tuple", data := .seq #[.int i tk, v1] } := (sb.2 _ (Nat.ne_of_gt elt)).trans hT
    have nw : ObjOk X.prog X.w (upd H s.heap.objs.size (.tup [.int (i : Nat), x])) h'' s.heap.objs.size (.tup [.int (i : Nat), x]) := ⟨by show 2 ≤ sizeLine; decide, [.int i tk, v1], .cons ⟨_, rfl⟩ (.cons ru .nil), ⟨_, hT2, rfl, _, rfl⟩⟩
    have I1 : Inv X pins σ (upd H s.heap.objs.size (.tup [.int (i : Nat), x])) { s with heap := h'', toks := tk + 1 } := I.turnedNew (ch := [e, it]) (fun c o hb q => by
      simp only [List.mem_cons, List.not_mem_nil, or_false, not_or] at hb
      exact (sb.2 c hb.1).trans (hk c o hb.1 hb.2 q)) hf (Nat.le_refl _) nw
    refine ⟨.ref s.heap.objs.size, _, I1, rfl, ⟨_, x, rfl, I.hok.fresh (Nat.le_refl _), rfl, fun l hl => by rw [SqX.inj I hl qx]; exact hx⟩, ⟨⟨v1, ?_⟩, s1.1.at_ fun o q => (sb.2 _ (Ne.symm hne)).trans q⟩, fun c hcm => ?_⟩
    · have e1 : ((i + 1 : Nat) : Int) = (i : Int) + 1 := by omega
      rw [e1]
      exact he'
    · have hlt : c < s.heap.objs.size := by
        simp only [List.mem_cons, List.not_mem_nil, or_false] at hcm
        rcases hcm with rfl | rfl
        · exact elt
        · exact ilt
      rw [upd_ne (Nat.ne_of_lt hlt)]
      exact (hf c hcm).1
  done := by
    intro X e1 e2 e3 hcalm i pins s σ H E I hf ⟨⟨old, he⟩, hi⟩ ⟨xs, qx, hl⟩
    subst e1 e2 e3
    obtain ⟨its, rv, c1, D1⟩ := drawX I qx
    have hA : X.A.in1.handled = none := I.ok.hd hcalm
    have e1 := rv.length
    obtain ⟨f0, f1, f2, f3, f4, f5⟩ := hf it (by simp)
    have e2 : its.length = i := by omega
    have D := D1 X.prog X.w X.A.in1 it hA (IterX.ne hi c1)
    rw [e2] at D
    exact wpAny_pyNext_enum_endD D he ⟨hi, c1⟩ fun h' eb => ⟨rfl, I.turned (t' := s.toks) (fun b o hb q => eb b o hb q) f0 f1 f3 f4 f5⟩
  self := fun A i s Q E ⟨⟨_, he⟩, _⟩ h => wpAny_pyIter_enum he h
theorem meets_enum1 {v : Value} {o : Obj} {H : Heap → Prop} (B : Begins v o H) :
    Meets (Builtin.«enumerate.__new__» ⟨[.type "enumerate", v], []⟩) (fun _ R s => H s.heap ∧
      R (.ok (.ret (.ref (s.heap.push o).objs.size))) { s with heap := (s.heap.push o).push { cls := .type "enumerate", data := .fields #[.none, .bool false, .ref s.heap.objs.size, rawInt 0, .none, .none] } }) :=
  .of_wp fun prog w A R s h => by
    obtain ⟨hp, g, d, tk, os⟩ := s
    obtain ⟨h1, h⟩ := h
    have hsub := sub_enumerate
    have q1 : ∀ {A' : Around} {E : Value → Shared → Prop} {Q : Value → Shared → Prop}, Q (.ref hp.objs.size) ⟨hp.push o, g, d, tk, os⟩ → wpAny (model prog w) A' (pyIter v) Q E ⟨hp, g, d, tk, os⟩ := fun q => B.iter prog w _ _ ⟨hp, g, d, tk, os⟩ _ h1 q
    wp_walk using q1
    refine wpAny_stack_any fun st => wpAny_pure ?_
    split
    · rename_i c _ _ _ _ _
      cases (c == Value.type "enumerate") <;> (wp_walk using q1; exact ⟨_, rfl, h⟩)
    · wp_walk using q1
      exact ⟨_, rfl, h⟩
section
variable {prog : Program} {w : World} {A : Around} {E : Value → Shared → Prop} {s : Shared}
theorem enum_begins1 {v : Value} {o : Obj} {H : Heap → Prop} {Q : Value → Shared → Prop} (B : Begins v o H) (h1 : H s.heap)
    (h : ∀ h', IsEnum h' (s.heap.objs.size + 1) s.heap.objs.size 0 .none → h'.get? s.heap.objs.size = some o → (∀ b o, s.heap.get? b = some o → h'.get? b = some o) → Q (.ref (s.heap.objs.size + 1)) { s with heap := h' }) :
    wpAny (model prog w) A (call (.type "enumerate") [v]) Q E s := by
  refine callType_new F.called_enumerate (by decide) (F.typeCall_enumerate_1 _) (F.newCall_enumerate_1 _) (fun obj => F.args_object_init_2 obj _) F.entry_enumerate_new (meets_enum1 B) ⟨h1, ?_⟩
  have hz : (s.heap.push o).objs.size = s.heap.objs.size + 1 := Heap.size_push ..
  show _ ∧ _
  rw [hz]
  have he : IsEnum ((s.heap.push o).push { cls := .type "enumerate", data := .fields #[.none, .bool false, .ref s.heap.objs.size, rawInt 0, .none, .none] }) (s.heap.objs.size + 1) s.heap.objs.size 0 .none := by
    have := Heap.get?_push_size (s.heap.push o) (o := { cls := .type "enumerate", data := .fields #[.none, .bool false, .ref s.heap.objs.size, rawInt 0, .none, .none] }) rfl
    rw [hz] at this
    exact this
  exact ⟨⟨_, he, rfl⟩, h _ he (Heap.get?_push_of_some _ (Heap.get?_push_size _ B.free)) fun b o x => Heap.get?_push_of_some _ (Heap.get?_push_of_some _ x)⟩
end
def iE (K : PySem.W.Frag) (ta : TA) : TI := fun σ H R => ta σ H fun vs H1 => ∃ t a, vs = [.ref a] ∧ (∃ xs, SqX K t H1 a xs) ∧ R (ItE K t a) H1
theorem pi_E {X : Cx} {e : Expr} {ta : TA} {p pos tpos : Pos} {elts : List Expr} {kk : Nat} (hg : Gl X "enumerate") (hm : X.mg "enumerate" = none) (ha : PA X [e] ta) (hs : notStar e = true) :
    PI X (.Tuple elts kk tpos) (.Call (.Name "enumerate" p) [e] [] pos) (iE X.K ta) := by
  refine ⟨fun pins s σ H R I h => Call_ (ld_blt I hg hm boot_enumerate (PyProof.Rows.callWith_type1 (thn (ha.run pos pins s σ H _ I h) fun us s1 ⟨vs, H1, I1, r1, t, a, ev, ⟨xs, qx⟩, q⟩ => ?_) (star_ok hs) rfl))⟩
  subst ev
  cases r1 with
  | cons r rr =>
    cases rr
    cases r
    obtain ⟨its, rv, c1, _⟩ := drawX I1 qx
    obtain ⟨o1, B1, g1⟩ := begX (t := t) (a := a) (items := its.toArray)
    have la := c1.lt
    refine enum_begins1 B1 c1 fun h' he f1 hk => wpAny_pyIter_enum he ?_
    have I2 : Inv X pins σ H1 { s1 with heap := h' } := I1.kept (t' := s1.toks) hk
    refine ⟨s1.heap.objs.size + 1, [s1.heap.objs.size + 1, s1.heap.objs.size], _, _, H1, rfl, I2, turn_E (Nat.succ_ne_self _) (fun e => by rw [← e] at la; exact absurd la (Nat.not_lt.mpr (Nat.le_succ _))), ⟨⟨.none, he⟩, g1 _ _ f1⟩, fun c hcm => ?_, q⟩
    have hle : s1.heap.objs.size ≤ c := by
      simp only [List.mem_cons, List.not_mem_nil, or_false] at hcm
      rcases hcm with rfl | rfl <;> first | exact Nat.le_refl _ | exact Nat.le_add_right _ _
    exact I1.fpOk hle (I1.hok.fresh hle)
end Fw

set_option Elab.async false
set_option linter.all false
set_option maxRecDepth 100000
set_option maxHeartbeats 2000000
set_option autoImplicit false
/-! ## Fw7e: reversed, count, index, pop, zip, enumerate, new lists, op= -/
namespace Fw
open PySem PySem.Spec PyProof.Rows L2
section
variable {X : Cx} {rx : PySem.W.Frag → Exc → Value → Option Addr → Hp → Prop} {W : WX} {e a b c : Expr} {fa fb fc : Env → MH → Res D} {pos : Pos}
theorem RepL.rev {K : KX} {F : Hp} {ρ : Ro} {m : MH} {ds : List D} {vs : List V} (h : RepL K F ρ m ds vs) : RepL K F ρ m ds.reverse vs.reverse := by
  induction ds generalizing vs with
  | nil => unfold RepL at h; subst h; exact .nil
  | cons d ds ih =>
    unfold RepL at h
    obtain ⟨v, r, rfl, h1, h2⟩ := h
    simp only [List.reverse_cons]
    exact (ih h2).append (.one h1)
theorem pe_rev' {k : Nat} {p1 p2 p3 : Pos} (h : PE X a (SE (kx X) rx W fa)) : PE X (.Subscript a (.Slice none none (some (.UnaryOp .USub (.Constant (.int 1) k p1) p2)) p3) pos) (SE (kx X) rx W fun v m => (fa v m).bind fun x m => .of (revD m x) m) :=
  PE.weak (pe_revA h) fun σ H Q ⟨b, env, hd, G, m, ρ, F, R, p⟩ => by
    refine ⟨b, env, hd, G, m, ρ, F, R, p.bind.imp (fun x m1 p1 ρ1 F1 H1 v R1 => ?_) fun _ _ z => z⟩
    obtain ⟨d, e, q⟩ := Post.of p1
    have R2 := R1.held (hd' := hd) fun _ => List.mem_cons_of_mem _
    by_cases ht : ∃ xs, x = .tup xs
    · obtain ⟨xs, rfl⟩ := ht
      cases e
      obtain ⟨t, vs, rfl, hs, z, rr⟩ := R1.top.tup_of
      exact ⟨t, vs, rfl, .inl ⟨SqT.ext R1.rl.fh hs, fun p hp => q _ _ _ _ (new_tup R2 (by simpa using z) rr.rev hp)⟩⟩
    · have e' : (lstOf m1 x).map (fun xs => D.lst xs.reverse) = some d := by
        unfold revD at e
        split at e
        · exact absurd ⟨_, rfl⟩ ht
        · exact e
      obtain ⟨xs, e1, rfl⟩ := Option.map_eq_some_iff.mp e'
      obtain ⟨t, vs, rfl, hs, z, rr⟩ := lst_of R1.rl e1 R1.top
      exact ⟨t, vs, rfl, .inr ⟨SqL.of hs, fun p hp => q _ _ _ _ (new_lst R2 (by simpa using z) rr.rev hp)⟩⟩
/-! count, index -/
theorem flat_rep {K : KX} {F : Hp} {ρ : Ro} {m : MH} {d : D} {v : V} (r : Rep K F ρ m d v) (h : Fw.flat d = true) : flatV v = true := by
  rw [r.flat_of h]
  cases d <;> first | rfl | cases h
theorem flatL_rep {K : KX} {F : Hp} {ρ : Ro} {m : MH} : ∀ {ds : List D} {vs : List V}, RepL K F ρ m ds vs → ds.all Fw.flat = true → vs = ds.map flatV' ∧ vs.all flatV = true
  | [], vs, r, _ => by unfold RepL at r; subst r; exact ⟨rfl, rfl⟩
  | d :: ds, vs, r, h => by
    unfold RepL at r
    obtain ⟨v, u, rfl, h1, h2⟩ := r
    simp only [List.all_cons, Bool.and_eq_true] at h
    obtain ⟨i1, i2⟩ := flatL_rep h2 h.2
    refine ⟨by rw [List.map_cons, ← i1, h1.flat_of h.1], ?_⟩
    simp only [List.all_cons, Bool.and_eq_true]
    exact ⟨flat_rep h1 h.1, i2⟩
theorem findF_some {y : D} : ∀ {xs : List D} {i j : Nat}, findF y xs i = some j → ∃ k, j = i + k ∧ (∃ x, xs[k]? = some x ∧ eqF x y = true) ∧ ∀ n x, n < k → xs[n]? = some x → eqF x y = false
  | [], i, j, h => by cases h
  | x :: xs, i, j, h => by
    unfold findF at h
    split at h
    · rename_i q
      cases h
      exact ⟨0, rfl, ⟨x, rfl, q⟩, fun n x hn => by omega⟩
    · rename_i q
      obtain ⟨k, e, ⟨z, h1, h2⟩, h3⟩ := findF_some h
      refine ⟨k + 1, by omega, ⟨z, by simpa using h1, h2⟩, fun n w hn hw => ?_⟩
      cases n with
      | zero =>
        simp at hw
        subst hw
        simpa using q
      | succ n => exact h3 n w (by omega) (by simpa using hw)
def rM1 (K : PySem.W.Frag) : Mk → V → List V → Hp → VK → Prop
  | .cnt => rCntF K
  | .idx => rIndex K
theorem m1_rep {K : KX} {k : Mk} {b : Bs} {env : Env} {hd : List (D × V)} {G : Hp} {m : MH} {ρ : Ro} {F : Hp} {σ : L2.St} {H : Hp} {x y d : D} {v u : V} {Q : VK} (R : RS K b env hd G m ρ F σ H) (hx : Rep K F ρ m x v) (hy : Rep K F ρ m y u) (e : m1D k m x y = some d)
    (q : ∀ ρ' F' H' w, RS K b env ((d, w) :: hd) G m ρ' F' σ H' → Q w H') : rM1 K.k k v [u] H Q := by
  obtain ⟨xs, e1, e2⟩ := Option.bind_eq_some_iff.mp e
  split at e2
  · rename_i hf
    simp only [Bool.and_eq_true] at hf
    obtain ⟨a, vs, rfl, hs, z, rr⟩ := lst_of R.rl e1 hx
    obtain ⟨f1, f2⟩ := flatL_rep rr hf.2
    have f3 := flat_rep hy hf.1
    have f4 := hy.flat_of hf.1
    cases k with
    | cnt =>
      cases e2
      refine ⟨a, vs, u, rfl, rfl, SqL.of hs, f3, f2, ?_⟩
      have : vs.countP (fun z => eqV z u) = xs.countP fun z => eqF z y := by
        rw [f1, f4, List.countP_map]
        rfl
      rw [this]
      exact q ρ F H _ (R.hold (.int _))
    | idx =>
      obtain ⟨j, e3, rfl⟩ := Option.map_eq_some_iff.mp e2
      obtain ⟨k, hk, ⟨w, h1, h2⟩, h3⟩ := findF_some e3
      simp only [Nat.zero_add] at hk
      subst hk
      refine ⟨a, vs, u, j, flatV' w, rfl, rfl, SqL.of hs, f3, f2, by rw [f1, List.getElem?_map, h1]; rfl, by rw [f4]; exact h2, fun n z' hn hz' => ?_, q ρ F H _ (R.hold (.int _))⟩
      rw [f1, List.getElem?_map] at hz'
      obtain ⟨w', hw', rfl⟩ := Option.map_eq_some_iff.mp hz'
      rw [f4]
      exact h3 n w' hn hw'
  · cases e2
theorem isLs_at {m : MH} {x : D} (h : isLs m x = true) : ∃ xs, lstOf m x = some xs := Option.isSome_iff_exists.mp h
def mkName : Mk → Str
  | .cnt => "count"
  | .idx => "index"
theorem pe_m1' (k : Mk) {apos cpos : Pos} (ha : PE X a (SE (kx X) rx W fa)) (hb : PE X b (SE (kx X) rx W fb)) (hs : notStar b = true) (h1 : attributeBase a (mkName k) X.env (eval a X.env) = eval a X.env) (h2 : (apos.endLine == cpos.line) = true) :
    PE X (.Call (.Attribute a (mkName k) apos) [b] [] cpos) (SE (kx X) rx W fun v m => (fa v m).bind fun x m => if isLs m x then (fb v m).bind fun y m => .of (m1D k m x y) m else .fail) := by
  have hpa : PA X [b] _ := pa_cons' hb pa_nil' hs
  have read : ∀ {σ : L2.St} {H : Hp} {Q : VK}, SE (kx X) rx W (fun v m => (fa v m).bind fun x m => if isLs m x then (fb v m).bind fun y m => .of (m1D k m x y) m else .fail) σ H Q → tBM X.K "list" (rM1 X.K k) (SE (kx X) rx W fa) (SA (kx X) rx W fun v m => (fb v m).bind fun x m => (Res.ok [] m).bind fun xs m => .ok (x :: xs) m) σ H Q := by
    intro σ H Q ⟨b0, env, hd, G, m, ρ, F, R, p⟩
    refine ⟨b0, env, hd, G, m, ρ, F, R, p.bind.imp (fun x m1 p1 ρ1 F1 H1 v R1 => ?_) fun _ _ z => z⟩
    split at p1
    · rename_i hx
      obtain ⟨xs, e1⟩ := isLs_at hx
      obtain ⟨t, vs, rfl, hs', z, rr⟩ := lst_of R1.rl e1 R1.top
      refine ⟨.inl ⟨rfl, vs, SqL.of hs'⟩, ?_⟩
      refine ⟨b0, env, (x, .ref t) :: hd, G, m1, ρ1, F1, R1, ?_⟩
      have p1 := p1.bind
      show Post ((fb env m1).bind fun x m => (Res.ok [] m).bind fun xs m => Res.ok (x :: xs) m) _ _
      cases hfb : fb env m1 with
      | fail => rw [hfb] at p1; exact p1.elim
      | exc ee m2 =>
        rw [hfb] at p1
        exact fun ρ' F' H' c dd R' => p1 ρ' F' H' c dd (R'.held fun _ => List.mem_cons_of_mem _)
      | ok y m2 =>
        rw [hfb] at p1
        show ∀ ρ' F' H' us, RS (kx X) b0 env ([y].zip us ++ (x, .ref t) :: hd) G m2 ρ' F' σ H' → [y].length = us.length → _
        intro ρ2 F2 H2 us R2 hlen
        obtain ⟨u, rfl⟩ : ∃ u, us = [u] := by
          match us, hlen with
          | [u], _ => exact ⟨u, rfl⟩
        have R3 : RS (kx X) b0 env ((y, u) :: (x, .ref t) :: hd) G m2 ρ2 F2 σ H2 := R2
        obtain ⟨d, e3, q⟩ := Post.of (show Post (Res.of (m1D k m2 x y) m2) _ _ from p1)
        exact m1_rep (K := kx X) (R3.held (hd' := hd) fun _ z => List.mem_cons_of_mem _ (List.mem_cons_of_mem _ z)) (R3.hd (x, .ref t) (by simp)) R3.top e3 q
    · exact p1.elim
  have hst : (((backTo cpos (starEach [b] X.env)).all fun x => !x.1) && ((backToKw cpos (keywordEach [] X.env)).all fun x => x.1.isSome) && decide (([b].length + ([] : List Keyword).length + if ([] : List Keyword).isEmpty = true then 0 else 1) < 30)) = true := by
    rw [star_ok hs]; rfl
  cases k with
  | cnt => exact PE.weak (pe_bm PySem.F.plainAttrs_list PySem.F.slot_list_count PySem.F.type_list_count mt_cntF ha hpa h1 hst h2 (star_ok hs) rfl) fun σ H Q q => read q
  | idx => exact PE.weak (pe_bm PySem.F.plainAttrs_list PySem.F.slot_list_index PySem.F.type_list_index mt_index ha hpa h1 hst h2 (star_ok hs) rfl) fun σ H Q q => read q
/-! pop -/
theorem bdL_erase {n : Nat} : ∀ {xs : List D} {k : Nat}, bdL n xs = true → bdL n (xs.eraseIdx k) = true
  | [], k, h => by simp [bdL]
  | x :: xs, 0, h => by
    unfold bdL at h
    simp only [Bool.and_eq_true] at h
    exact h.2
  | x :: xs, k + 1, h => by
    unfold bdL at h
    simp only [Bool.and_eq_true] at h
    simp only [List.eraseIdx_cons_succ]
    unfold bdL
    rw [h.1, bdL_erase h.2]; rfl
theorem RepL.erase {K : KX} {F : Hp} {ρ : Ro} {m : MH} : ∀ {ds : List D} {vs : List V} {k : Nat}, RepL K F ρ m ds vs → RepL K F ρ m (ds.eraseIdx k) (vs.eraseIdx k)
  | [], vs, k, r => by unfold RepL at r; subst r; simpa using RepL.nil
  | d :: ds, vs, k, r => by
    unfold RepL at r
    obtain ⟨v, u, rfl, h1, h2⟩ := r
    cases k with
    | zero => exact h2
    | succ k => exact .cons h1 (RepL.erase h2)
theorem pop_rep {K : KX} {b : Bs} {env : Env} {hd : List (D × V)} {G : Hp} {m : MH} {ρ : Ro} {F : Hp} {σ : L2.St} {H : Hp} {x y : D} {v u : V} {Q : VK} {ex : Exc → MH → Prop} (R : RS K b env hd G m ρ F σ H) (hx : Rep K F ρ m x v) (hy : Rep K F ρ m y u)
    (p : Post (popD x y m) (fun d m' => ∀ ρ' F' H' w, RS K b env ((d, w) :: hd) G m' ρ' F' σ H' → Q w H') ex) : rPopAt v [u] H Q := by
  unfold popD at p
  cases x with
  | ref l i =>
    cases y with
    | int k =>
      cases g : get m l i with
      | none => simp only [g] at p; exact p.elim
      | some o =>
        cases o with
        | lst xs =>
          simp only [g] at p
          split at p
          · rename_i hk
            cases hd' : xs[k.toNat]? with
            | none => simp only [hd'] at p; exact p.elim
            | some d =>
              simp only [hd'] at p
              obtain ⟨rfl, hl⟩ := hx.ref_of
              obtain ⟨_, vs, hv, z, rr⟩ := R.rl.ob l i _ g
              obtain ⟨w, hw, rw'⟩ := rr.get hd'
              have l1 := rr.length
              have hsz : xs.length ≤ 9223372036854775807 := by
                have := sizeLine_eq
                omega
              have R1 := R.put g (xs := xs.eraseIdx k.toNat) (vs := vs.eraseIdx k.toNat) (Nat.le_trans (List.length_eraseIdx_le _ _) z) (bdL_erase (R.rl.wf l i _ g)) rr.erase
              refine ⟨ρ l i, vs, k, k.toNat, w, rfl, by rw [hy.int_of], hv, by omega, by omega, seqIndex_of hk.1 (by omega), hw, p ρ F _ w (R1.hold ?_)⟩
              exact rw'.ext ⟨fun _ _ h => h, fun l' i' q => ⟨rfl, (Lv.put g).mpr q⟩⟩
          · exact p.elim
    | _ => exact p.elim
  | _ => cases y <;> exact p.elim
theorem pe_pop' {apos cpos : Pos} (ha : PE X a (SE (kx X) rx W fa)) (hb : PE X b (SE (kx X) rx W fb)) (hs : notStar b = true) (h1 : attributeBase a "pop" X.env (eval a X.env) = eval a X.env) (h2 : (apos.endLine == cpos.line) = true) :
    PE X (.Call (.Attribute a "pop" apos) [b] [] cpos) (SE (kx X) rx W fun v m => (fa v m).bind fun x m => if isL m x then (fb v m).bind fun y m => popD x y m else .fail) := by
  have hpa : PA X [b] _ := pa_cons' hb pa_nil' hs
  refine PE.weak (pe_bm PySem.F.plainAttrs_list PySem.F.slot_list_pop PySem.F.type_list_pop mt_popAt ha hpa h1 ?_ h2 (star_ok hs) rfl) fun σ H Q ⟨b0, env, hd, G, m, ρ, F, R, p⟩ => ?_
  · rw [star_ok hs]; rfl
  · refine ⟨b0, env, hd, G, m, ρ, F, R, p.bind.imp (fun x m1 p1 ρ1 F1 H1 v R1 => ?_) fun _ _ z => z⟩
    split at p1
    · rename_i hx
      obtain ⟨l, i, xs, rfl, g⟩ := isL_at hx
      obtain ⟨rfl, hl⟩ := R1.top.ref_of
      obtain ⟨_, vs, hv, z, rr⟩ := R1.rl.ob l i _ g
      refine ⟨.inl ⟨rfl, vs, SqL.of hv⟩, ?_⟩
      refine ⟨b0, env, (.ref l i, .ref (ρ1 l i)) :: hd, G, m1, ρ1, F1, R1, ?_⟩
      have p1 := p1.bind
      show Post ((fb env m1).bind fun x m => (Res.ok [] m).bind fun xs m => Res.ok (x :: xs) m) _ _
      cases hfb : fb env m1 with
      | fail => rw [hfb] at p1; exact p1.elim
      | exc e m2 =>
        rw [hfb] at p1
        exact fun ρ' F' H' c dd R' => p1 ρ' F' H' c dd (R'.held fun _ => List.mem_cons_of_mem _)
      | ok y m2 =>
        rw [hfb] at p1
        show ∀ ρ' F' H' us, RS (kx X) b0 env ([y].zip us ++ (.ref l i, .ref (ρ1 l i)) :: hd) G m2 ρ' F' σ H' → [y].length = us.length → _
        intro ρ2 F2 H2 us R2 hlen
        obtain ⟨u, rfl⟩ : ∃ u, us = [u] := by
          match us, hlen with
          | [u], _ => exact ⟨u, rfl⟩
        have R3 : RS (kx X) b0 env ((y, u) :: (.ref l i, .ref (ρ1 l i)) :: hd) G m2 ρ2 F2 σ H2 := R2
        exact pop_rep (K := kx X) (R3.held (hd' := hd) fun _ z => List.mem_cons_of_mem _ (List.mem_cons_of_mem _ z)) (R3.hd (.ref l i, .ref (ρ1 l i)) (by simp)) R3.top (show Post (popD (.ref l i) y m2) _ _ from p1)
    · exact p1.elim
/-! zip, enumerate -/
theorem seqC_of {K : KX} {F : Hp} {ρ : Ro} {m : MH} {d : D} {xs : List D} {v : V} (e : seqC d = some xs) (r : Rep K F ρ m d v) : ∃ t a vs, v = .ref a ∧ SqX K.k t F a vs ∧ RepL K F ρ m xs vs := by
  cases d with
  | tup ys =>
    cases e
    obtain ⟨a, vs, rfl, q, z, rs⟩ := r.tup_of
    exact ⟨true, a, vs, rfl, q, rs⟩
  | lst ys =>
    cases e
    obtain ⟨a, vs, rfl, q, z, rs⟩ := r.lst_of
    exact ⟨false, a, vs, rfl, SqL.of q, rs⟩
  | _ => cases e
theorem SqX.ext {K : KX} {F F' : Hp} (h : ∀ a o, F a = some o → F' a = some o) {t : Bool} {a : Addr} {vs : List V} (q : SqX K.k t F a vs) : SqX K.k t F' a vs := by
  cases t
  · exact SqL.ext h q
  · exact SqT.ext h q
/-- which kind of sequence stands for a constant one -/
def kindC : D → Bool
  | .tup _ => true
  | _ => false
theorem seqC_at {K : KX} {F : Hp} {ρ : Ro} {m : MH} {d : D} {xs : List D} {a : Addr} (e : seqC d = some xs) (r : Rep K F ρ m d (.ref a)) : ∃ vs, SqX K.k (kindC d) F a vs ∧ RepL K F ρ m xs vs := by
  cases d with
  | tup ys =>
    cases e
    obtain ⟨a, vs, e, q, z, rs⟩ := r.tup_of
    cases e
    exact ⟨vs, q, rs⟩
  | lst ys =>
    cases e
    obtain ⟨a, vs, e, q, z, rs⟩ := r.lst_of
    cases e
    exact ⟨vs, SqL.of q, rs⟩
  | _ => cases e
theorem seqC_ref {K : KX} {F : Hp} {ρ : Ro} {m : MH} {d : D} {xs : List D} {v : V} (e : seqC d = some xs) (r : Rep K F ρ m d v) : ∃ a, v = .ref a := by
  obtain ⟨t, a, vs, rfl, _⟩ := seqC_of e r
  exact ⟨a, rfl⟩
theorem walks_Z {K : KX} {x y : D} {xs ys : List D} {a b : Addr} (ex : seqC x = some xs) (ey : seqC y = some ys) : Walks' K [(y, .ref b), (x, .ref a)] (.items ((xs.zip ys).map fun p => .tup [p.1, p.2])) (ItZ K.k (kindC x) (kindC y) a b) := by
  intro i b0 env hd G m ρ F σ H R
  obtain ⟨vs, q1, r1⟩ := seqC_at ex (R.hd (x, .ref a) (by simp))
  obtain ⟨us, q2, r2⟩ := seqC_at ey (R.hd (y, .ref b) (by simp))
  have h1 := SqX.ext R.rl.fh q1
  have h2 := SqX.ext R.rl.fh q2
  have l1 := r1.length
  have l2 := r2.length
  refine ⟨fun d hd' => ?_, fun hi => ?_⟩
  · rw [List.getElem?_map] at hd'
    obtain ⟨pp, e1, rfl⟩ := Option.map_eq_some_iff.mp hd'
    rw [List.getElem?_zip_eq_some] at e1
    obtain ⟨v, hv, rv⟩ := r1.get e1.1
    obtain ⟨u, hu, ru⟩ := r2.get e1.2
    refine ⟨⟨vs, us, v, u, h1, h2, hv, hu⟩, fun w H' ⟨T, x', y', e2, e3, e4, e5, e6⟩ => ?_⟩
    subst e2 e4
    have := e5 vs h1
    rw [hv] at this
    cases this
    have := e6 us h2
    rw [hu] at this
    cases this
    exact ⟨_, new_tup R (ds := [pp.1, pp.2]) (by show 2 ≤ sizeLine; decide) (.cons rv (.one ru)) e3⟩
  · simp only [List.length_map, List.length_zip] at hi
    exact ⟨vs, us, h1, h2, by omega, by omega, by omega⟩
theorem pi_zip' {elts : List Expr} {kk : Nat} {tpos p : Pos} (hg : Gl X "zip") (hm : X.mg "zip" = none) (ha : PE X a (SE (kx X) rx W fa)) (hb : PE X b (SE (kx X) rx W fb)) (hs : notStar a = true) (hs2 : notStar b = true) :
    PI X (.Tuple elts kk tpos) (.Call (.Name "zip" p) [a, b] [] pos) (SI (kx X) rx W fun v m => (fa v m).bind fun x m => (fb v m).bind fun y m => .of ((zipD x y).map .items) m) :=
  PI.weak (pi_Z hg hm (pa_cons ha (pa_cons hb pa_nil (star_ok hs2)) (star_ok hs)) hs hs2) fun σ H R' ⟨b0, env, hd, G, m, ρ, F, R, p⟩ => by
    refine ⟨b0, env, hd, G, m, ρ, F, R, p.bind.imp (fun x m1 p1 ρ1 F1 H1 v R1 => ?_) fun _ _ z => z⟩
    refine ⟨b0, env, (x, v) :: hd, G, m1, ρ1, F1, R1, p1.bind.imp (fun y m2 p2 ρ2 F2 H2 u R2 => ?_) fun _ _ z ρ' F' H' c dd R' => z ρ' F' H' c dd (R'.held fun _ => List.mem_cons_of_mem _)⟩
    obtain ⟨w, e, q⟩ := Post.of p2
    obtain ⟨zs, e1, rfl⟩ := Option.map_eq_some_iff.mp e
    obtain ⟨xs, ex, e2⟩ := Option.bind_eq_some_iff.mp e1
    obtain ⟨ys, ey, rfl⟩ := Option.map_eq_some_iff.mp e2
    have hx : Rep (kx X) F2 ρ2 m2 x v := R2.hd (x, v) (by simp)
    have hy := R2.top
    obtain ⟨a1, rfl⟩ := seqC_ref ex hx
    obtain ⟨b1, rfl⟩ := seqC_ref ey hy
    obtain ⟨vs, q1, r1⟩ := seqC_at ex hx
    obtain ⟨us, q2, r2⟩ := seqC_at ey hy
    exact ⟨kindC x, kindC y, a1, b1, rfl, ⟨vs, SqX.ext R2.rl.fh q1⟩, ⟨us, SqX.ext R2.rl.fh q2⟩, q ρ2 F2 H2 _ [(y, .ref b1), (x, .ref a1)] R2 (walks_Z ex ey)⟩
theorem walks_E {K : KX} {x : D} {xs : List D} {a : Addr} (ex : seqC x = some xs) : Walks' K [(x, .ref a)] (.items (xs.zipIdx.map fun p => .tup [.int (p.2 : Nat), p.1])) (ItE K.k (kindC x) a) := by
  intro i b0 env hd G m ρ F σ H R
  obtain ⟨vs, q1, r1⟩ := seqC_at ex (R.hd (x, .ref a) (by simp))
  have h1 := SqX.ext R.rl.fh q1
  have l1 := r1.length
  refine ⟨fun d hd' => ?_, fun hi => ?_⟩
  · rw [List.getElem?_map] at hd'
    obtain ⟨pp, e1, rfl⟩ := Option.map_eq_some_iff.mp hd'
    rw [List.getElem?_zipIdx] at e1
    obtain ⟨z, e2, rfl⟩ := Option.map_eq_some_iff.mp e1
    obtain ⟨v, hv, rv⟩ := r1.get e2
    refine ⟨⟨vs, v, h1, hv⟩, fun w H' ⟨T, x', e3, e4, e5, e6⟩ => ?_⟩
    subst e3 e5
    have := e6 vs h1
    rw [hv] at this
    cases this
    simp only [Nat.zero_add]
    exact ⟨_, new_tup R (ds := [.int (i : Nat), z]) (by show 2 ≤ sizeLine; decide) (.cons (.int _) (.one rv)) e4⟩
  · simp only [List.length_map, List.length_zipIdx] at hi
    exact ⟨vs, h1, by omega⟩
theorem pi_enum' {elts : List Expr} {kk : Nat} {tpos p : Pos} (hg : Gl X "enumerate") (hm : X.mg "enumerate" = none) (ha : PE X a (SE (kx X) rx W fa)) (hs : notStar a = true) :
    PI X (.Tuple elts kk tpos) (.Call (.Name "enumerate" p) [a] [] pos) (SI (kx X) rx W fun v m => (fa v m).bind fun x m => .of ((enumD x).map .items) m) :=
  PI.weak (pi_E hg hm (pa_cons ha pa_nil (star_ok hs)) hs) fun σ H R' ⟨b0, env, hd, G, m, ρ, F, R, p⟩ => by
    refine ⟨b0, env, hd, G, m, ρ, F, R, p.bind.imp (fun x m1 p1 ρ1 F1 H1 v R1 => ?_) fun _ _ z => z⟩
    obtain ⟨w, e, q⟩ := Post.of p1
    obtain ⟨zs, e1, rfl⟩ := Option.map_eq_some_iff.mp e
    obtain ⟨xs, ex, rfl⟩ := Option.map_eq_some_iff.mp e1
    obtain ⟨a1, rfl⟩ := seqC_ref ex R1.top
    obtain ⟨vs, q1, r1⟩ := seqC_at ex R1.top
    exact ⟨kindC x, a1, rfl, ⟨vs, SqX.ext R1.rl.fh q1⟩, q ρ1 F1 H1 _ [(x, .ref a1)] R1 (walks_E ex)⟩
/-! lists that will be changed -/
theorem new_obj {K : KX} {b : Bs} {env : Env} {hd : List (D × V)} {G : Hp} {m : MH} {ρ : Ro} {F : Hp} {σ : L2.St} {H : Hp} {ds : List D} {vs : List V} {Q : VK} {ex : Exc → MH → Prop} (R : RS K b env hd G m ρ F σ H) (z : ds.length ≤ sizeLine) (r : RepL K F ρ m ds vs)
    (p : Post (alloc m (.lst ds)) (fun d m' => ∀ ρ' F' H' v, RS K b env ((d, v) :: hd) G m' ρ' F' σ H' → Q v H') ex) {a : Addr} (ha : H a = none) : Q (.ref a) (upd H a (.lst vs)) := by
  cases m with
  | nil => exact p.elim
  | cons fr rr =>
    simp only [alloc] at p
    split at p
    · rename_i hb
      have := p _ _ _ _ ((R.alloc ha z hb r).hold (.ref (Lv.snoc.mpr (.inl ⟨rfl, rfl⟩))))
      rw [Ro.put_same] at this
      exact this
    · exact p.elim
def nbR : Op2 → R2
  | .mul => rRep
  | .add => rCat
  | _ => fun _ _ _ _ => False
theorem nb_op (o : Op2) : OpR X (binaryOp (opOf o)) (nbR o) := by
  have no : ∀ f, OpR X f (fun _ _ _ _ => False) := fun f _ _ _ _ _ _ _ _ _ _ _ _ h => h.elim
  cases o
  · exact op_cat
  · exact no _
  · exact op_rep
  · exact no _
  · exact no _
  · exact no _
theorem nb_rep {K : KX} (o : Op2) : Op2R K (nbinD o) (nbR o) := by
  intro b env hd G m ρ F σ H x y v u Q ex R r1 r2 p
  unfold nbinD at p
  split at p
  · rename_i k
    split at p
    · rename_i xs e1
      split at p
      · rename_i z
        obtain ⟨a1, vs, rfl, h1, z1, rr1⟩ := lst_of R.rl e1 r1
        have l1 := rr1.length
        exact ⟨a1, k, vs, rfl, r2.int_of, h1, z.1.1, z.1.2, by rw [← l1]; exact z.2, fun p' hp => new_obj R (by rw [flat_len]; exact z.2) (rr1.rep k.toNat) p hp⟩
      · exact p.elim
    · exact p.elim
  · split at p
    · rename_i xs ys e1 e2
      split at p
      · rename_i z
        obtain ⟨a1, vs, rfl, h1, z1, rr1⟩ := lst_of R.rl e1 r1
        obtain ⟨a2, us, rfl, h2, z2, rr2⟩ := lst_of R.rl e2 r2
        have l1 := rr1.length
        have l2 := rr2.length
        exact ⟨a1, a2, vs, us, rfl, rfl, h1, h2, by omega, fun p' hp => new_obj R (by simpa using z) (rr1.append rr2) p hp⟩
      · exact p.elim
    · exact p.elim
  · exact p.elim
theorem pe_nbin' (o : Op2) (ha : PE X a (SE (kx X) rx W fa)) (hb : PE X b (SE (kx X) rx W fb)) : PE X (.BinOp a (opOf o) b pos) (SE (kx X) rx W fun v m => (fa v m).bind fun x m => (fb v m).bind fun y m => nbinD o x y m) :=
  PE.weak (pe_op (nb_op o) ha hb) fun σ H Q q => se_bin (nb_rep (K := kx X) o) q
theorem pe_nlst' {p : Pos} (hg : Gl X "list") (hm : X.mg "list" = none) (ha : PE X a (SE (kx X) rx W fa)) (hs : notStar a = true) : PE X (.Call (.Name "list" p) [a] [] pos) (SE (kx X) rx W fun v m => (fa v m).bind fun x m => (match seqOf m x with
    | some xs => alloc m (.lst xs)
    | none => .fail)) :=
  PE.weak (pe_callTy call_list_of hg hm (by decide +kernel) (pa_cons ha pa_nil (star_ok hs)) (by decide) (by decide) (star_ok hs) rfl) fun σ H Q ⟨b0, env, hd, G, m, ρ, F, R, p⟩ => by
    refine ⟨b0, env, hd, G, m, ρ, F, R, p.bind.imp (fun x m1 p1 ρ1 F1 H1 v R1 => ?_) fun _ _ z => z⟩
    split at p1
    · rename_i xs e1
      obtain ⟨t, vs, rfl, hs', z, rr⟩ := seq_of R1.rl e1 R1.top
      exact ⟨t, vs, rfl, hs', fun p' hp => new_obj (R1.held (hd' := hd) fun _ => List.mem_cons_of_mem _) z rr p1 hp⟩
    · exact p1.elim
/-! op= -/
def augOk : Op2 → Bool
  | .add => true
  | .sub => true
  | _ => false
theorem ip_of {o : Op2} (h : augOk o = true) : PIp X (opOf o) (arR o) := by
  cases o <;> first | exact iop_add | exact iop_sub | cases h
theorem ps_aug' {i : Nat} {x : Str} {o : Op2} {pos' : Pos} (ho : augOk o = true) (hN : X.N.Nodup) (hi : X.N[i]? = some x) (hx : Loc X.env.scope x) (hf : X.fn x = true ∨ X.env.scope.names.lookup x = some .local) (he : PE X e (SE (kx X) rx W fa)) :
    PS X (.AugAssign (.Name x pos') (opOf o) e pos) (SS (kx X) rx W fun v m => (Res.of (v.at_ i) m).st v fun x m => (fa v m).st v fun y m => (arithI o x y m).st v fun z m => if i < v.length then .ok (.nx (v.set i (some z))) m else .fail) :=
  PS.weak (ps_aug hN hi hx he (ip_of ho) hf) fun En σ H ⟨b, env, hd, G, m, ρ, F, R, p⟩ => by
    dsimp only at p
    cases hx : env.at_ i with
    | none => rw [hx] at p; exact p.elim
    | some d =>
      rw [hx] at p
      obtain ⟨v, h1, h2⟩ := R.env i d hx
      refine ⟨v, h1, b, env, (d, v) :: hd, G, m, ρ, F, R.hold h2, (Post.st (show Post ((fa env m).st env _) _ _ from p)).imp (fun y m1 p1 ρ1 F1 H1 u R1 => ?_) fun _ _ z ρ' F' H' c dd R' => z ρ' F' σ H' c dd (R'.held fun _ => List.mem_cons_of_mem _)⟩
      have hd1 : Rep (kx X) F1 ρ1 m1 d v := R1.hd (d, v) (by simp)
      refine ar_rep (K := kx X) o b env hd G m1 ρ1 F1 σ H1 d y v u _ noE (R1.held fun _ z => List.mem_cons_of_mem _ (List.mem_cons_of_mem _ z)) hd1 R1.top ?_
      cases e : arithI o d y m1 with
      | fail => rw [e] at p1; exact p1.elim
      | exc z m2 => exact (arith_exc e).elim
      | ok z m2 =>
        rw [e] at p1
        intro ρ2 F2 H2 w R2
        have p1 : Post (if i < env.length then Res.ok (Fl.nx (env.set i (some z))) m2 else .fail) (Oks (kx X) rx W b hd G En) noE := p1
        split at p1
        · rename_i hlt
          exact p1 ρ2 F2 _ H2 ((R2.held fun _ => List.mem_cons_of_mem _).store R2.top hlt)
        · exact p1.elim
theorem pget_list : PGet X (fun x y H Q => ∃ p xs i v, x = .ref p ∧ y = .int i ∧ SqL X.K H p xs ∧ 0 ≤ i ∧ xs[i.toNat]? = some v ∧ Q v H) := by
  intro pins s σ H x y v u Q I rx ry h
  obtain ⟨p, xs, i, z, rfl, rfl, hq, h0, he, q⟩ := h
  cases rx
  obtain ⟨t, rfl⟩ := ry
  obtain ⟨its, r, pl, hz⟩ := I.list hq
  obtain ⟨w, ew, rw'⟩ := r.get he
  have hl := r.length
  have hn := line63
  have hlt : i.toNat < its.length := (List.getElem?_eq_some_iff.mp ew).1
  exact wpAny_getItem_list (Q := fun r s' => EP X pins σ Q r s') pl.isList h0 (by omega) (by simpa using ew) ⟨z, H, I, rw', q⟩
end
end Fw

set_option Elab.async false
set_option linter.all false
set_option maxRecDepth 100000
set_option maxHeartbeats 2000000
set_option autoImplicit false
/-! ## Fw7f: an item's op=, three names at once -/
namespace Fw
open PySem PySem.Spec PyProof.Rows L2
section
variable {X : Cx} {rx : PySem.W.Frag → Exc → Value → Option Addr → Hp → Prop} {W : WX} {e a j : Expr} {fa fj fe : Env → MH → Res D} {pos : Pos}
theorem set_rep {K : KX} {b : Bs} {env : Env} {hd : List (D × V)} {G : Hp} {m : MH} {ρ : Ro} {F : Hp} {σ : L2.St} {H : Hp} {x y d : D} {v u w : V} {Q : Hp → Prop} {ex : Exc → MH → Prop} (R : RS K b env hd G m ρ F σ H) (hx : Rep K F ρ m x v) (hy : Rep K F ρ m y u) (hw : Rep K F ρ m d w)
    (p : Post (setAt x y d m) (fun _ m' => ∀ ρ' F' H', RS K b env hd G m' ρ' F' σ H' → Q H') ex) : rSetL v u w H Q := by
  unfold setAt at p
  cases x with
  | ref l a =>
    cases y with
    | int kk =>
      cases g : get m l a with
      | none => simp only [g] at p; exact p.elim
      | some o =>
        cases o with
        | lst xs =>
          simp only [g] at p
          cases hpl : place xs.length kk with
          | none => simp only [hpl] at p; exact p.elim
          | some n =>
            simp only [hpl] at p
            split at p
            · rename_i hb
              obtain ⟨rfl, hl⟩ := hx.ref_of
              obtain ⟨_, vs, hv, z, rr⟩ := R.rl.ob l a _ g
              refine ⟨ρ l a, vs, kk, n, rfl, hy.int_of, hv, by rw [← rr.length]; exact hpl, ?_⟩
              refine p ρ F _ (R.put g (by simpa using z) ?_ (RepL.set hw n rr))
              have hwf : bdL (l + 1) xs = true := R.rl.wf l a _ g
              clear p hpl rr hv g z hx hy hw
              induction xs generalizing n with
              | nil => simp [bdL]
              | cons q qs ih =>
                simp only [bdL, Bool.and_eq_true] at hwf
                cases n with
                | zero => simp only [List.set_cons_zero, bdL, Bool.and_eq_true]; exact ⟨hb, hwf.2⟩
                | succ n => simp only [List.set_cons_succ, bdL, Bool.and_eq_true]; exact ⟨hwf.1, ih n hwf.2⟩
            · exact p.elim
    | _ => exact p.elim
  | _ => cases y <;> exact p.elim
theorem getL_rep {K : KX} {F : Hp} {ρ : Ro} {m : MH} {H : Hp} {x y d : D} {v u : V} {Q : VK} (R : Rl K F ρ m H) (hx : Rep K F ρ m x v) (hy : Rep K F ρ m y u) (e : getL m x y = some d) (q : ∀ w, Rep K F ρ m d w → Q w H) :
    ∃ p xs i z, v = .ref p ∧ u = .int i ∧ SqL K.k H p xs ∧ 0 ≤ i ∧ xs[i.toNat]? = some z ∧ Q z H := by
  unfold getL at e
  cases y with
  | int k =>
    simp only at e
    split at e
    · rename_i h0
      obtain ⟨xs, e1, e2⟩ := Option.bind_eq_some_iff.mp e
      obtain ⟨p, vs, rfl, hs, z, rr⟩ := lst_of R e1 hx
      obtain ⟨w, hw, rw'⟩ := rr.get e2
      exact ⟨p, vs, k, w, rfl, hy.int_of, SqL.of hs, h0, hw, q w rw'⟩
    · cases e
  | _ => cases e
theorem aug_ok {j : Expr} (h : plainIx j = true) : ∀ ov iv new, augStore j ov iv new = (do holding [new, ov, iv] (setItem ov iv new); release [new, ov, iv] []; pure .next) := by
  intro ov iv new
  cases j <;> first | rfl | cases h
theorem ps_augS' {o : Op2} {tpos : Pos} (ho : augOk o = true) (hp : plainIx j = true) (ha : PE X a (SE (kx X) rx W fa)) (hj : PE X j (SE (kx X) rx W fj)) (he : PE X e (SE (kx X) rx W fe)) :
    PS X (.AugAssign (.Subscript a j tpos) (opOf o) e pos) (SS (kx X) rx W fun v m => (fa v m).st v fun x m => (fj v m).st v fun y m => (Res.of (getL m x y) m).st v fun z m => (fe v m).st v fun w m => (arithI o z w m).st v fun u m => (setAt x y u m).st v fun _ m => .ok (.nx v) m) :=
  PS.weak (ps_augS ha hj pget_list he (ip_of ho) set_list (aug_ok hp)) fun En σ H ⟨b, env, hd, G, m, ρ, F, R, p⟩ => by
    have up1 : ∀ {q : D × V} {r : D × V}, q ∈ hd → q ∈ r :: hd := fun {q r} => List.mem_cons_of_mem r
    refine ⟨b, env, hd, G, m, ρ, F, R, p.st.imp (fun x m1 p1 ρ1 F1 H1 v R1 => ?_) fun _ _ z ρ' F' H' c dd R' => z ρ' F' σ H' c dd R'⟩
    refine ⟨b, env, (x, v) :: hd, G, m1, ρ1, F1, R1, p1.st.imp (fun y m2 p2 ρ2 F2 H2 u R2 => ?_) fun _ _ z ρ' F' H' c dd R' => z ρ' F' σ H' c dd (R'.held fun _ => List.mem_cons_of_mem _)⟩
    have hx : Rep (kx X) F2 ρ2 m2 x v := R2.hd (x, v) (by simp)
    cases eg : getL m2 x y with
    | none => rw [eg] at p2; exact p2.elim
    | some z =>
      rw [eg] at p2
      refine getL_rep (K := kx X) (Q := fun x H3 => SE (kx X) rx W fe σ H3 fun y H4 => arR o x y H4 fun z H5 => rSetL v u z H5 fun H6 => En.nx σ H6) R2.rl hx R2.top eg fun w rw' => ?_
      refine ⟨b, env, (z, w) :: (y, u) :: (x, v) :: hd, G, m2, ρ2, F2, R2.hold rw', (Post.st (show Post ((fe env m2).st env _) _ _ from p2)).imp (fun t m3 p3 ρ3 F3 H3 tv R3 => ?_) fun _ _ z ρ' F' H' c dd R' => z ρ' F' σ H' c dd (R'.held fun _ h => by simp [h])⟩
      have hz3 : Rep (kx X) F3 ρ3 m3 z w := R3.hd (z, w) (by simp)
      refine ar_rep (K := kx X) o b env ((t, tv) :: (z, w) :: (y, u) :: (x, v) :: hd) G m3 ρ3 F3 σ H3 z t w tv _ noE R3 hz3 R3.top ?_
      cases ea : arithI o z t m3 with
      | fail => rw [ea] at p3; exact p3.elim
      | exc q m4 => exact (arith_exc ea).elim
      | ok r m4 =>
        rw [ea] at p3
        intro ρ4 F4 H4 rv R4
        have p3 : Post ((setAt x y r m4).st env fun _ m => .ok (.nx env) m) (Oks (kx X) rx W b hd G En) noE := p3
        have hx4 : Rep (kx X) F4 ρ4 m4 x v := R4.hd (x, v) (by simp)
        have hy4 : Rep (kx X) F4 ρ4 m4 y u := R4.hd (y, u) (by simp)
        exact set_rep (K := kx X) (R4.held (hd' := hd) fun _ h => by simp [h]) hx4 hy4 R4.top (p3.st.imp (fun _ m5 q ρ5 F5 H5 R5 => q ρ5 F5 σ H5 R5) fun _ _ z => z)
theorem ps_par3' {i j l : Nat} {x y z : Str} {a b c : Expr} {px py pz pt p2 : Pos} {kt k2 : Nat} {fl : Env → MH → Res (List D)} (hc : X.calm = true) (hN : X.N.Nodup) (hi : X.N[i]? = some x) (hj : X.N[j]? = some y) (hl : X.N[l]? = some z) (hij : i ≠ j) (hil : i ≠ l) (hjl : j ≠ l)
    (hx : X.env.scope.names.lookup x = some .local) (hy : X.env.scope.names.lookup y = some .local) (hz : X.env.scope.names.lookup z = some .local) (ha : PA X [a, b, c] (SA (kx X) rx W fl))
    (hw : swappedStores [.Tuple [.Name x px, .Name y py, .Name z pz] kt pt] (.Tuple [a, b, c] k2 p2) X.env = pure (some [x, y, z])) :
    PS X (.Assign [.Tuple [.Name x px, .Name y py, .Name z pz] kt pt] (.Tuple [a, b, c] k2 p2) pos) (SS (kx X) rx W fun v m => (fl v m).st v fun xs m => (match xs with
    | [x, y, z] => if i < v.length ∧ j < v.length ∧ l < v.length then .ok (.nx (((v.set i (some x)).set j (some y)).set l (some z))) m else .fail
    | _ => .fail)) :=
  PS.weak (ps_par3 hc hN hi hj hl hij hil hjl hx hy hz ha hw rfl) fun En σ H ⟨b, env, hd, G, m, ρ, F, R, p⟩ => by
    refine ⟨b, env, hd, G, m, ρ, F, R, p.st.imp (fun xs m1 p1 ρ1 F1 H1 vs R1 hl => ?_) fun _ _ z ρ' F' H' c dd R' => z ρ' F' σ H' c dd R'⟩
    match xs, vs, hl, R1, p1 with
    | [d1, d2, d3], [v1, v2, v3], _, R1, p1 =>
      dsimp only at p1
      split at p1
      · rename_i z
        have r1 : Rep (kx X) F1 ρ1 m1 d1 v1 := R1.hd (d1, v1) (by simp)
        have r2 : Rep (kx X) F1 ρ1 m1 d2 v2 := R1.hd (d2, v2) (by simp)
        have r3 : Rep (kx X) F1 ρ1 m1 d3 v3 := R1.hd (d3, v3) (by simp)
        have R2 := R1.held (hd' := hd) fun _ z => List.mem_append_right _ z
        exact ⟨v1, v2, v3, rfl, p1 ρ1 F1 _ H1 (((R2.store r1 z.1).store r2 (by simpa using z.2.1)).store r3 (by simpa using z.2.2))⟩
      · exact p1.elim
end
end Fw

set_option Elab.async false
set_option linter.all false
set_option maxRecDepth 100000
set_option maxHeartbeats 2000000
set_option autoImplicit false
/-! ## Fw7g: fields; ranges' lists; how many a set has; an instance's length -/
namespace Fw
open PySem PySem.Spec PyProof.Rows L2
section
variable {X : Cx} {rx : PySem.W.Frag → Exc → Value → Option Addr → Hp → Prop} {W : WX} {e a : Expr} {fa : Env → MH → Res D} {pos : Pos}
/-! ### fields -/
theorem RepL.look {K : KX} {F : Hp} {ρ : Ro} {m : MH} {f : Str} {d : D} : ∀ {ns : List Str} {ds : List D} {vs : List V}, RepL K F ρ m ds vs → (ns.zip ds).lookup f = some d → ∃ u, (ns.zip vs).lookup f = some u ∧ Rep K F ρ m d u
  | [], _, _, _, h => by simp at h
  | _ :: _, [], _, _, h => by simp at h
  | n :: ns, x :: ds, vs, r, h => by
    unfold RepL at r
    obtain ⟨v, t, rfl, h1, h2⟩ := r
    rw [List.zip_cons_cons, List.lookup_cons] at h ⊢
    cases q : f == n with
    | true => rw [q] at h; cases h; exact ⟨v, rfl, h1⟩
    | false => rw [q] at h; exact RepL.look h2 h
theorem pe_fld' {c f : Str} (ha : PE X a (SE (kx X) rx W fa)) (hc : Cls X.K (He.ga X.K c)) (hn : NoAttr X.K (He.ga X.K c) f) (hb : attributeBase a f X.env (eval a X.env) = eval a X.env) : PE X (.Attribute a f pos) (SE (kx X) rx W fun v m => (fa v m).bind fun x m => .of (fldD c f x) m) :=
  PE.weak (pe_fld ha hb) fun σ H Q ⟨b, env, hd, G, m, ρ, F, R, p⟩ => by
    refine ⟨b, env, hd, G, m, ρ, F, R, p.bind.imp (fun x m1 p1 ρ1 F1 H1 v R1 => ?_) fun _ _ z => z⟩
    obtain ⟨d, e, q⟩ := Post.of p1
    cases x with
    | ins c' ns xs =>
      simp only [fldD] at e
      split at e
      · rename_i hc'
        subst hc'
        obtain ⟨t, dx, vs, rfl, hF, z, rr⟩ := R1.top.ins_of
        obtain ⟨u, hu, ru⟩ := rr.look e
        exact ⟨t, _, dx, _, u, rfl, R1.rl.fh _ _ hF, hc, hn, hu, q ρ1 F1 H1 u ((R1.held fun _ => List.mem_cons_of_mem _).hold ru)⟩
      · cases e
    | _ => cases e
/-! ### ranges' lists -/
def rngV (n : Int) : List V := (List.range n.toNat).map fun (k : Nat) => V.int (k : Int)
theorem rng_small {n : Int} (h0 : 0 ≤ n) (h1 : n ≤ 10000) : Builtin.Range.small 0 n 1 = true ∧ Builtin.Range.rangeSize 0 n 1 = n.toNat := by
  have hs : Builtin.Range.rangeSize 0 n 1 = n.toNat := by
    unfold Builtin.Range.rangeSize
    rw [if_pos (by omega)]
    split <;> omega
  refine ⟨?_, hs⟩
  unfold Builtin.Range.small
  rw [hs]
  have fits : ∀ k : Int, 0 ≤ k → k ≤ 20000 → Builtin.Range.rangeFitsLong k = true := fun k a b => by
    unfold Builtin.Range.rangeFitsLong
    simp only [Bool.and_eq_true, decide_eq_true_eq]
    omega
  simp only [fits 0 (by omega) (by omega), fits n h0 (by omega), fits 1 (by omega) (by omega), fits (n.toNat : Int) (by omega) (by omega), Bool.and_self, Bool.true_and, Bool.or_eq_true]
  right
  rw [if_pos (by omega)]
  exact fits _ (by omega) (by omega)
theorem vals_get : ∀ {vs : List V} {us : List Value}, vs.length = us.length → (∀ (i : Nat) (h1 : i < vs.length) (h2 : i < us.length), RelV vs[i] us[i]) → Vals vs us
  | [], [], _, _ => .nil
  | [], _ :: _, h, _ => by simp at h
  | _ :: _, [], h, _ => by simp at h
  | v :: vs, u :: us, h, k => .cons (k 0 (by simp) (by simp)) (vals_get (by simpa using h) fun i h1 h2 => k (i + 1) (by simpa using h1) (by simpa using h2))
theorem items_rng {acc : Array Value} {n : Int} (h : ItemsOf (fun i v => ∃ t, v = Value.int (0 + (i : Int) * 1) t) acc n.toNat) : Vals (rngV n) acc.toList := by
  obtain ⟨h1, h2⟩ := h
  refine vals_get (by simp [rngV, h1]) fun i k1 k2 => ?_
  have hi : i < acc.size := by simpa using k2
  obtain ⟨t, e⟩ := h2 i acc[i] (Array.getElem?_eq_getElem hi)
  have e2 : acc.toList[i] = acc[i] := by simp
  rw [e2, e]
  simp only [rngV, List.getElem_map, List.getElem_range]
  exact ⟨t, by rw [show (0 + (i : Int) * 1) = (i : Int) from by omega]⟩
/-- range(n) as a value -/
theorem cr_range1 : CallR X (.type "range") (fun vs H Q => ∃ i, vs = [V.int i] ∧ ∀ p, H p = none → Q (.ref p) (upd H p (.rng 0 i))) := by
  intro pins s σ H vs us Q I r h
  obtain ⟨i, rfl, q⟩ := h
  obtain ⟨u1, rfl, ri⟩ := vals1 r
  obtain ⟨t, rfl⟩ := ri
  refine call_range_1 ⟨.ref s.heap.objs.size, upd H s.heap.objs.size (.rng 0 i), I.laid (t' := s.toks + 1 + 1) (fun b o e => Heap.get?_push_of_some _ e) (Nat.le_refl _) ?_, rfl, q _ (I.hok.fresh (Nat.le_refl _))⟩
  exact ⟨s.toks, t, s.toks + 1, Heap.get?_push_size _ rfl⟩
theorem cr_list_rng (hc : X.calm = true) : CallR X (.type "list") (fun vs H Q => ∃ r n, vs = [V.ref r] ∧ H r = some (.rng 0 n) ∧ 0 ≤ n ∧ n ≤ 10000 ∧ ∀ p, H p = none → Q (.ref p) (upd H p (.lst (rngV n)))) := by
  intro pins s σ H vs us Q I r h
  obtain ⟨ra, n, rfl, ha, h0, h1, q⟩ := h
  obtain ⟨u1, rfl, ri⟩ := vals1 r
  obtain rfl : u1 = Value.ref ra := ri
  obtain ⟨t, u, v, e⟩ := I.hok ra _ ha
  obtain ⟨s1, s2⟩ := rng_small h0 h1
  refine call_list_range (I.ok.hd hc) e s1 s2 (by omega) fun h' tk acc c hk hg hi => ?_
  have hv := items_rng hi
  refine ⟨.ref s.heap.objs.size, upd H s.heap.objs.size (.lst (rngV n)), I.laid (t' := tk) hk (Nat.le_refl _) ?_, rfl, q _ (I.hok.fresh (Nat.le_refl _))⟩
  exact ⟨by simp [rngV, sizeLine_eq]; omega, acc.toList, c, hv, by simpa using hg⟩
theorem here_of {P : Program} {w : World} {H : Hp} {h : Heap} {a : Addr} {o : HO} (x : ObjOk P w H h a o) : ∃ ob, h.get? a = some ob := by
  cases o with
  | lst => exact ⟨_, x.2.choose_spec.choose_spec.2⟩
  | tup => obtain ⟨_, _, _, ob, z, _⟩ := x; exact ⟨ob, z⟩
  | dK => obtain ⟨_, _, _, _, ob, _, _, z, _⟩ := x; exact ⟨ob, z⟩
  | dT => obtain ⟨_, _, _, _, ob, _, _, z, _⟩ := x; exact ⟨ob, z⟩
  | set => obtain ⟨ob, _, _, _, z, _⟩ := x; exact ⟨ob, z⟩
  | ins => exact ⟨_, x.2.2.2.1⟩
  | own => exact x
  | xd => obtain ⟨_, ⟨ob, _, _, z, _⟩, _⟩ := x; exact ⟨ob, z⟩
  | rng => obtain ⟨_, _, _, z⟩ := x; exact ⟨_, z⟩
  | frz => exact ⟨_, x.1⟩
  | tbl => exact ⟨_, x⟩
  | met => exact ⟨_, x⟩
  | ext => exact x.2.1
theorem cr_tup_rng (hc : X.calm = true) : CallR X (.type "tuple") (fun vs H Q => ∃ r n, vs = [V.ref r] ∧ H r = some (.rng 0 n) ∧ 0 ≤ n ∧ n ≤ 10000 ∧ ∀ p, H p = none → Q (.ref p) (upd H p (.tup (rngV n)))) := by
  intro pins s σ H vs us Q I r h
  obtain ⟨ra, n, rfl, ha, h0, h1, q⟩ := h
  obtain ⟨u1, rfl, ri⟩ := vals1 r
  obtain rfl : u1 = Value.ref ra := ri
  obtain ⟨t, u, v, e⟩ := I.hok ra _ ha
  obtain ⟨s1, s2⟩ := rng_small h0 h1
  refine call_tuple_range (I.ok.hd hc) e s1 s2 (by omega) fun h' tk acc hk hi => ?_
  have hv := items_rng hi
  have hp : s.heap.get? h'.objs.size = none := by
    cases z : s.heap.get? h'.objs.size with
    | none => rfl
    | some o => exact absurd (Heap.lt_size (hk _ _ z)) (Nat.lt_irrefl _)
  have hf : H h'.objs.size = none := by
    cases z : H h'.objs.size with
    | none => rfl
    | some o =>
      obtain ⟨ob, z2⟩ := here_of (I.hok _ o z)
      rw [hp] at z2
      cases z2
  refine ⟨.ref h'.objs.size, upd H h'.objs.size (.tup (rngV n)), I.laidN (t' := tk) (fun b o q => Heap.get?_push_of_some _ (hk b o q)) hp hf ?_, rfl, q _ hf⟩
  exact ⟨by simp [rngV, sizeLine_eq]; omega, acc.toList, hv, ⟨_, Heap.get?_push_size _ rfl, rfl, _, rfl⟩⟩
theorem repl_rng {K : KX} {F : Hp} {ρ : Ro} {m : MH} (n : Int) : RepL K F ρ m (rangeD 0 n) (rngV n) := by
  unfold rangeD rngV
  rw [show n - 0 = n from by omega]
  generalize List.range n.toNat = ks
  induction ks with
  | nil => exact .nil
  | cons k ks ih =>
    simp only [List.map_cons]
    refine .cons ?_ ih
    rw [show (0 + (k : Int)) = (k : Int) from by omega]
    exact .int _
theorem rng_len {n : Int} (h : n ≤ 10000) : (rangeD 0 n).length ≤ sizeLine := by
  rw [sizeLine_eq]
  simp [rangeD]
  omega
theorem rng_bd (k : Nat) (n : Int) : bdL k (rangeD 0 n) = true := by
  unfold rangeD
  generalize List.range (n - 0).toNat = ks
  induction ks with
  | nil => rfl
  | cons z ks ih => simp only [List.map_cons, bdL, D.bd, ih, Bool.and_self]
theorem one_bind {g : D → MH → Res D} : (fun v m => ((fa v m).bind fun x m => (Res.ok [] m : Res (List D)).bind fun xs m => Res.ok (x :: xs) m).bind fun xs m => (match xs with
    | [x] => g x m
    | _ => .fail)) = fun v m => (fa v m).bind fun x m => g x m := by
  funext v m
  cases fa v m <;> rfl
/-- what is made of a range -/
theorem pe_rngOf {T : String} {x : Str} {p p2 q : Pos} {c : List V → HO} {g : Int → MH → Res D}
    (hT : CallR X (.type T) (fun vs H Q => ∃ r n, vs = [V.ref r] ∧ H r = some (.rng 0 n) ∧ 0 ≤ n ∧ n ≤ 10000 ∧ ∀ p, H p = none → Q (.ref p) (upd H p (c (rngV n)))))
    (hg : Gl X x) (hm : X.mg x = none) (hv : bootBuiltins x = some (.type T)) (hn : x ≠ "__name__") (hdb : (x == ("__debug__" : Str)) = false) (hgr : Gl X "range") (hmr : X.mg "range" = none) (ha : PE X a (SE (kx X) rx W fa)) (hs : notStar a = true)
    (hstep : ∀ b env hd G m ρ F σ H n (Q : VK) ex (p0 : Addr), RS (kx X) b env hd G m ρ F σ H → 0 ≤ n → n ≤ 10000 → H p0 = none → Post (g n m) (fun d m' => ∀ ρ' F' H' v, RS (kx X) b env ((d, v) :: hd) G m' ρ' F' σ H' → Q v H') ex → Q (.ref p0) (upd H p0 (c (rngV n)))) :
    PE X (.Call (.Name x p) [.Call (.Name "range" p2) [a] [] q] [] pos) (SE (kx X) rx W fun v m => (fa v m).bind fun y m => (match y with
      | .int n => if 0 ≤ n ∧ n ≤ 10000 then g n m else .fail
      | _ => .fail)) := by
  have inner : PE X (.Call (.Name "range" p2) [a] [] q) _ := pe_callTy cr_range1 hgr hmr boot_range (pa_cons' ha pa_nil' hs) (by decide) (by decide) (star_ok hs) rfl
  refine PE.weak (pe_callTy hT hg hm hv (pa_cons inner pa_nil rfl) hn hdb rfl rfl) fun σ H Q h => ?_
  rw [← one_bind (g := fun y m => match y with
      | .int n => if 0 ≤ n ∧ n ≤ 10000 then g n m else .fail
      | _ => .fail)] at h
  refine sa_then (r := fun vs H1 Q => ∃ i, vs = [V.int i] ∧ ∀ p, H1 p = none → ∃ r n, [V.ref p] = [V.ref r] ∧ (upd H1 p (.rng 0 i)) r = some (.rng 0 n) ∧ 0 ≤ n ∧ n ≤ 10000 ∧ ∀ p', (upd H1 p (.rng 0 i)) p' = none → Q (.ref p') (upd (upd H1 p (.rng 0 i)) p' (c (rngV n)))) (fun b env hd G m ρ F H xs vs R rr pp => ?_) h
  match xs, rr, pp with
  | [y], rr, pp =>
    obtain ⟨v, rfl, rv⟩ := repl1 rr
    cases y with
    | int n =>
      simp only at pp
      split at pp
      · rename_i hc
        refine ⟨n, by rw [rv.int_of], fun p0 hp0 => ⟨p0, n, rfl, upd_same, hc.1, hc.2, fun p1 hp1 => ?_⟩⟩
        exact hstep b env hd G m ρ _ σ _ n Q _ p1 (R.newF (.rng 0 n) hp0) hc.1 hc.2 hp1 pp
      · exact pp.elim
    | _ => exact pp.elim
  | [], _, pp => exact pp.elim
  | _ :: _ :: _, _, pp => exact pp.elim
def lrName : Lr → Str
  | .tup => "tuple"
  | _ => "list"
theorem pe_lrng {k : Lr} {p p2 q : Pos} (hc : X.calm = true) (hg : Gl X (lrName k)) (hm : X.mg (lrName k) = none) (hgr : Gl X "range") (hmr : X.mg "range" = none) (ha : PE X a (SE (kx X) rx W fa)) (hs : notStar a = true) :
    PE X (.Call (.Name (lrName k) p) [.Call (.Name "range" p2) [a] [] q] [] pos) (SE (kx X) rx W fun v m => (fa v m).bind fun x m => lrngR k x m) := by
  have e : ∀ (k : Lr) (g : Int → MH → Res D), (∀ n m, 0 ≤ n ∧ n ≤ 10000 → lrngR k (.int n) m = g n m) → (fun v m => (fa v m).bind fun y m => (match y with
      | .int n => if 0 ≤ n ∧ n ≤ 10000 then g n m else .fail
      | _ => .fail)) = fun v m => (fa v m).bind fun x m => lrngR k x m := fun k g h => by
    funext v m
    cases fa v m with
    | ok y m =>
      cases y with
      | int n =>
        simp only [Res.bind_ok]
        by_cases hc : 0 ≤ n ∧ n ≤ 10000
        · rw [if_pos hc, h n m hc]
        · rw [if_neg hc]
          simp only [lrngR, if_neg hc]
      | _ => rfl
    | exc => rfl
    | fail => rfl
  cases k with
  | lst =>
    rw [← e .lst (fun n m => .ok (.lst (rangeD 0 n)) m) fun n m hc => by simp only [lrngR, if_pos hc]]
    exact pe_rngOf (x := "list") (c := .lst) (g := fun n m => .ok (.lst (rangeD 0 n)) m) (cr_list_rng hc) hg hm PyProof.Rows.boot_list (by decide) (by decide) hgr hmr ha hs fun b env hd G m ρ F σ H n Q ex p0 R h0 h1 hp pp => pp _ _ _ _ (new_lst R (rng_len h1) (repl_rng n) hp)
  | tup =>
    rw [← e .tup (fun n m => .ok (.tup (rangeD 0 n)) m) fun n m hc => by simp only [lrngR, if_pos hc]]
    exact pe_rngOf (x := "tuple") (c := .tup) (g := fun n m => .ok (.tup (rangeD 0 n)) m) (cr_tup_rng hc) hg hm PyProof.Rows.boot_tuple (by decide) (by decide) hgr hmr ha hs fun b env hd G m ρ F σ H n Q ex p0 R h0 h1 hp pp => pp _ _ _ _ (new_tup R (rng_len h1) (repl_rng n) hp)
  | new =>
    rw [← e .new (fun n m => Fw.alloc m (.lst (rangeD 0 n))) fun n m hc => by simp only [lrngR, if_pos hc]]
    refine pe_rngOf (x := "list") (c := .lst) (g := fun n m => Fw.alloc m (.lst (rangeD 0 n))) (cr_list_rng hc) hg hm PyProof.Rows.boot_list (by decide) (by decide) hgr hmr ha hs fun b env hd G m ρ F σ H n Q ex p0 R h0 h1 hp pp => ?_
    cases m with
    | nil => exact pp.elim
    | cons fr r =>
      simp only [alloc, MO.bd, rng_bd, if_true] at pp
      have := pp _ _ _ _ ((R.alloc hp (rng_len h1) (rng_bd _ n) (repl_rng n)).hold (.ref (Lv.snoc.mpr (.inl ⟨rfl, rfl⟩))))
      rw [Ro.put_same] at this
      exact this
/-! ### how many a set has -/
theorem dcnt_eq : ∀ (ns l : List Int), l.Nodup → (∀ k, k ∈ l ↔ k ∈ ns) → l.length = dcnt ns
  | [], l, _, h => by
    have : l = [] := List.eq_nil_iff_forall_not_mem.mpr fun k hk => by have := (h k).mp hk; simp at this
    subst this; rfl
  | n :: ns, l, hn, h => by
    unfold dcnt
    split
    · rename_i hm
      refine dcnt_eq ns l hn fun k => ?_
      rw [h k, List.mem_cons]
      exact ⟨fun z => z.elim (fun e => by rw [e]; exact hm) id, .inr⟩
    · rename_i hm
      have hl : n ∈ l := (h n).mpr List.mem_cons_self
      have ih := dcnt_eq ns (l.erase n) (hn.erase n) fun k => by
        rw [hn.mem_erase_iff, h k, List.mem_cons]
        constructor
        · rintro ⟨h1, h2 | h2⟩
          · exact absurd h2 h1
          · exact h2
        · exact fun h2 => ⟨fun e => hm (e ▸ h2), .inr h2⟩
      have := List.length_erase_of_mem hl
      have := List.length_pos_of_mem hl
      omega
def tDcnt (K : PySem.W.Frag) (ta : TE) : TE := fun σ H Q => ta σ H fun x H1 => ∃ (l : Addr) (ns : List Int), x = .ref l ∧ SqT K H1 l (ns.map V.int) ∧ ns.length ≤ 1000 ∧ Q (.int (dcnt ns : Nat)) H1
theorem pe_dcnt {ta : TE} {p p2 q pos : Pos} (hc : X.calm = true) (hl : Gl X "len") (ml : X.mg "len" = none) (hs : Gl X "set") (ms : X.mg "set" = none) (ha : PE X a ta) (na : notStar a = true) : PE X (.Call (.Name "len" p) [.Call (.Name "set" p2) [a] [] q] [] pos) (tDcnt X.K ta) := by
  have st : starEach [a] X.env = (false, eval a X.env) :: starEach [] X.env := star_ok na
  constructor
  intro pins s σ H Q I h
  apply Call_ (ld_blt I hl ml boot_len _)
  apply PyProof.Rows.callWith_builtin1 (PyProof.Rows.args_cons _ rfl) rfl rfl
  apply Call_ (ld_blt I hs ms PyProof.Rows.boot_set _)
  apply PyProof.Rows.callWith_type1 (PyProof.Rows.args_cons (thn (ha.run pins s σ H _ I h) _) st) st rfl
  rintro v s1 ⟨x, H1, I1, r1, l, ns, rfl, hq, hlen, q1⟩
  apply PyProof.Rows.args_nil
  cases r1
  obtain ⟨its, rv, pt, hz⟩ := I1.tuple hq
  apply call_set_tupI ns (I1.ok.hd hc) (show s1.heap.IsTuple l its.toArray from pt) (by simpa using ints_of_vals rv) (by unfold scanBound; omega)
  intro h' tk c R1 hcn k
  apply PyProof.Rows.args_nil
  obtain ⟨o, es, ep, t, ho, hex, hdt, g, nd, hm2, hb, hf, hn, hr, hl2⟩ := R1
  have I2 : L2.Inv X pins σ H1 { s1 with heap := h', toks := tk } := I1.kept k
  have hd := dcnt_eq ns (es.toList.map keyOf) nd fun k => by rw [← hm2 k]; simp
  rw [List.length_map, Array.length_toList] at hd
  apply call_len_set ho hex hdt hf (by rw [hn]; omega)
  exact ⟨.int (dcnt ns : Nat), H1, I2.tok _, ⟨_, by rw [hd]⟩, q1⟩
theorem pe_setLen {p p2 q pos : Pos} (hc : X.calm = true) (hl : Gl X "len") (ml : X.mg "len" = none) (hs : Gl X "set") (ms : X.mg "set" = none) (ha : PE X a (SE (kx X) rx W fa)) (na : notStar a = true) :
    PE X (.Call (.Name "len" p) [.Call (.Name "set" p2) [a] [] q] [] pos) (SE (kx X) rx W fun v m => (fa v m).bind fun x m => .of (setLenD x) m) :=
  PE.weak (pe_dcnt hc hl ml hs ms ha na) fun σ H Q ⟨b, env, hd, G, m, ρ, F, R, p⟩ => by
    refine ⟨b, env, hd, G, m, ρ, F, R, p.bind.imp (fun x m1 p1 ρ1 F1 H1 v R1 => ?_) fun _ _ z => z⟩
    obtain ⟨d, e, q⟩ := Post.of p1
    cases x with
    | tup xs =>
      simp only [setLenD] at e
      obtain ⟨ns, e1, e2⟩ := Option.bind_eq_some_iff.mp e
      split at e2
      · rename_i hn
        cases e2
        obtain ⟨t, vs, rfl, hs, z, rr⟩ := R1.top.tup_of
        have := rr.ints e1
        subst this
        exact ⟨t, ns, rfl, SqT.ext R1.rl.fh hs, hn, q ρ1 F1 H1 _ ((R1.held fun _ => List.mem_cons_of_mem _).hold (.int _))⟩
      · cases e2
    | _ => cases e
end
end Fw

set_option Elab.async false
set_option linter.all false
set_option maxRecDepth 100000
set_option maxHeartbeats 2000000
set_option autoImplicit false
/-! ## Fw7h: instances made; their lengths -/
namespace Fw
open PySem PySem.Spec PyProof.Rows L2
section
variable {X : Cx} {rx : PySem.W.Frag → Exc → Value → Option Addr → Hp → Prop} {W : WX} {e a : Expr} {fa : Env → MH → Res D} {pos : Pos}
theorem guards_make {A : Around} {C : Addr} {us : List Value} (h : A.guards = some []) : (A.under (.builtin "type.__call__" ⟨.ref C :: us, []⟩)).guards = some [] := by
  first
    | exact h
    | simpa [Around.under, Code.weight, Code.isCreation, Code.isGuard, Code.isCaller, Code.frames, Code.isFrame, guardIds] using h
/-- C(v): made, then its __init__ -/
def tMkG (C : Addr) (sp : Sp) (E : L2.St → XK) (ta : TE) : TE := fun σ H Q => ta σ H fun v H1 => ∀ x dx, H1 x = none → H1 dx = none → dx ≠ x →
  sp [.ref x, v] (upd (upd H1 dx (.own x)) x (.ins C dx [])) (fun u H2 => u = .non ∧ Q (.ref x) H2) (E σ)
theorem pe_mkG {j : Nat} {C f : Addr} {fd : FuncData} {ps : List Str} {sp : Sp} {E : L2.St → XK} {ta : TE} {c : Str} {p : Pos} (M : L2.Mk X.K C f) (F : FnG X.prog X.w X.K X.mg X.base j f fd ps sp) (hr : Room (j + 1) X.A) (hgd : X.A.guards = some []) (hb : Binds X.K fd ps []) (hg : Gl X c) (hm : X.mg c = some (.ref C))
    (hx : ∀ σ, PassesAt (L2.CX X.prog X.w) X σ (E σ)) (ha : PE X a ta) (hs : notStar a = true) (hdb : (c == ("__debug__" : Str)) = false) :
    PE X (.Call (.Name c p) [a] [] pos) (tMkG C sp E ta) := by
  constructor
  intro pins s σ H Q I h
  apply wpAny_Call_Name_kw (ld_glob I hg hm _ hdb)
  let Q' : List V → Hp → Prop := fun vs H1 => match vs with
    | [v] => ∀ x dx, H1 x = none → H1 dx = none → dx ≠ x → sp [.ref x, v] (upd (upd H1 dx (.own x)) x (.ins C dx [])) (fun u H2 => u = .non ∧ Q (.ref x) H2) (E σ)
    | _ => False
  have h' : tCons ta tNil σ H Q' := h
  refine PySem.W.callWith_K (h₀ := X.base) I.ok.mod.kin M.kp (thn ((pa_cons ha pa_nil (star_ok hs)).run pos pins s σ H Q' I h') fun us s1 hq0 => ?_) (star_ok hs) rfl
  obtain ⟨vs, H1, I1, r, q⟩ := hq0
  match vs, q with
  | [], q => exact q.elim
  | _ :: _ :: _, q => exact q.elim
  | [v], q =>
    have q : ∀ x dx, H1 x = none → H1 dx = none → dx ≠ x → sp [.ref x, v] (upd (upd H1 dx (.own x)) x (.ins C dx [])) (fun u H2 => u = .non ∧ Q (.ref x) H2) (E σ) := q
    refine ⟨I1.kIn, ?_⟩
    have hq := q (s1.heap.objs.size + 1) s1.heap.objs.size (I1.hok.fresh (Nat.le_succ _)) (I1.hok.fresh (Nat.le_refl _)) (Nat.ne_of_lt (Nat.lt_succ_self _))
    have J := Inv.made (C := C) I1
    have r2 : Vals [V.ref (s1.heap.objs.size + 1), v] (Value.ref (s1.heap.objs.size + 1) :: us) := .cons rfl r
    have hl : (Value.ref (s1.heap.objs.size + 1) :: us).length = ps.length := r2.length.symm.trans (F.len _ _ _ _ hq)
    refine wpAny_call (make_map (f := f) I1.kIn M.makes M.init (beq_iff_eq.mp M.fn) ?_)
    have hbd := hb _ (Value.ref (s1.heap.objs.size + 1) :: us) J.kIn (by rw [List.append_nil]; exact hl)
    rw [List.append_nil] at hbd
    refine codeAny_mono (F.run _ X.stack _ _ _ _ _ _ (E σ) (hr.make C us []) (guards_make hgd) (J.env0.make C us []) hbd r2 hq) fun res s2 hres => ?_
    match res, hres with
    | .error z, hres => exact hx σ pins _ _ z s2 J hres
    | .ok (.ret u), hres =>
      obtain ⟨w, H2, J2, rw2, rfl, q3⟩ := J.after hres
      exact ⟨rw2, V.ref (s1.heap.objs.size + 1), H2, J2, rfl, q3⟩
    | .ok .next, hres => exact hres.elim
    | .ok .brk, hres => exact hres.elim
    | .ok .cont, hres => exact hres.elim
end
/-- two fresh objects that nobody names -/
theorem Rl.two {K : KX} {F H : Hp} {ρ : Ro} {m : MH} {x dx : Addr} {o u : HO} (R : Rl K F ρ m H) (hx : H x = none) (hd : H dx = none) : Rl K F ρ m (upd (upd H dx u) x o) ∧ F x = none ∧ F dx = none ∧ ∀ l i, Lv m l i → ρ l i ≠ x ∧ ρ l i ≠ dx := by
  have fx : F x = none := noF R.fh hx
  have fd : F dx = none := noF R.fh hd
  have ne : ∀ l i, Lv m l i → ρ l i ≠ x ∧ ρ l i ≠ dx := fun l i q => by
    obtain ⟨o', e⟩ := Option.isSome_iff_exists.mp q
    obtain ⟨z, hz, _⟩ := (R.ob l i o' e).2.some
    constructor
    · intro h; rw [h, hx] at hz; cases hz
    · intro h; rw [h, hd] at hz; cases hz
  refine ⟨⟨fun a w e => ?_, fun l i w e => ?_, R.inj, R.wf⟩, fx, fd, ne⟩
  · have h1 : a ≠ x := fun z => by rw [z, fx] at e; cases e
    have h2 : a ≠ dx := fun z => by rw [z, fd] at e; cases e
    rw [upd_ne h1, upd_ne h2]
    exact R.fh a w e
  · have n := ne l i (by unfold Lv; rw [e]; rfl)
    rw [upd_ne n.1, upd_ne n.2]
    exact R.ob l i w e
section
variable {ι : Type} {rx : PySem.W.Frag → Exc → Value → Option Addr → Hp → Prop} {L : Look ι} {call : ι → List D → MH → Res D} {k : Nat} {W : WX} {X : Cx} {a : Expr} {fa : Env → MH → Res D}
theorem pe_mk' (C : Ctx rx L call k W X) (hh : L.hot = false) (f : ι) {c : Str} {p pos : Pos} (hf : (L.kd f).isMk c = true) (hg : Gl X c) (hdb : (c == ("__debug__" : Str)) = false) (ha : PE X a (SE (kx X) rx W fa)) (hs : notStar a = true) :
    PE X (.Call (.Name c p) [a] [] pos) (SE (kx X) rx W fun v m => (fa v m).bind fun x m => call f [x] m) := by
  obtain ⟨i, fd, ps, hF, hm, hk, hb⟩ := (C.mks f c hf).ex
  rw [kx_calm (C.calm hh)] at ha ⊢
  refine PE.weak (pe_mkG (E := WE W) hk hF (C.room hh) C.gd hb hg hm (C.pass hh) ha hs hdb) fun σ H Q ⟨b, env, hd, G, m, ρ, F, R, q⟩ => ?_
  refine ⟨b, env, hd, G, m, ρ, F, R, q.bind.imp (fun x m1 p1 ρ1 F1 H1 v R1 => fun xa dx hx hd' hne => ?_) fun _ _ z => z⟩
  obtain ⟨R2, fx, fd', ne⟩ := R1.rl.two (o := .ins (He.ga X.K c) dx []) (u := .own xa) hx hd'
  have R3 := R1.held (hd' := hd) fun _ => List.mem_cons_of_mem _
  have kp : ∀ {F' H' : Hp} {ρ' : Ro} {m' : MH}, KeepX xa dx F1 ρ1 m1 (upd (upd H1 dx (.own xa)) xa (.ins (He.ga X.K c) dx [])) F' ρ' m' H' → Keep F1 ρ1 m1 H1 F' ρ' m' H' := fun {F' H' ρ' m'} kx' b o h1 h2 h3 => by
    have n1 : b ≠ xa := fun z => by rw [z, hx] at h1; cases h1
    have n2 : b ≠ dx := fun z => by rw [z, hd'] at h1; cases h1
    exact kx' b o n1 n2 (by rw [upd_ne n1, upd_ne n2]; exact h1) h2 h3
  refine ⟨F1, ρ1, m1, x, v, xa, dx, rfl, upd_same, by rw [upd_ne hne]; exact upd_same, hne, fx, fd', ne, R2, R1.top, ?_⟩
  refine p1.imp (fun d m' q F' ρ' H' xt r hl kx' hv => ⟨rfl, q ρ' F' H' _ ((R3.back xt r hl (kp kx')).hold hv)⟩) fun z m' q F' ρ' H' cls dd xt r hl kx' hz => q ρ' F' H' cls dd (R3.back xt r hl (kp kx')) hz
/-! ### len(x) by an own __len__ -/
theorem len_own {prog : Program} {w : World} {A : Around} {E : Value → Shared → Prop} {s : Shared} {K : PySem.W.Frag} {Cc f y : Addr} {o : Obj} {Q : Value → Shared → Prop} (X : K.In s.heap) (hl : PySem.W.findIn K (.ref Cc) "__len__" = some (some (.ref f))) (hf : PySem.W.typeIn K (.ref f) = some (.type "function")) (ho : s.heap.get? y = some o) (hc : o.cls = .ref Cc)
    (hrun : wpAny (model prog w) A.in1 (PySem.call (.ref f) [.ref y]) (fun v s' => ∃ n t, v = Value.int n t ∧ 0 ≤ n ∧ n < 2 ^ 62 ∧ Q (.int n s'.toks) { s' with toks := s'.toks + 1 }) E s) : wpAny (model prog w) A (PySem.call (.builtin "len") [.ref y]) Q E s := by
  have sp : PySem.W.Looks (model prog w) s.heap (specialOf (.ref y) "__len__") (some (.ref f)) := (NwA.type_at ho hc).andThen (PySem.W.looks_findIn X hl)
  apply Calls.call_function_entry kind_len plain_len entry_len (args_len1 _)
  unfold Builtin.«len»
  apply wpAny_bind (m := oneArg "len" _)
  apply wpAny_pure
  apply wpAny_bind (m := callSpecial? (.ref y) (PySem.Str.ofString "__len__"))
  unfold callSpecial?
  apply wpAny_bind
  apply sp.here
  apply wpAny_holding
  apply wpAny_bind
  apply (PySem.W.bind_fn X (.ref y) hf).here
  apply wpAny_bind
  apply wpAny_mono hrun _ fun _ _ z => z
  rintro v s' ⟨n, t, rfl, h0, h1, q⟩
  apply wpAny_pure
  apply wpAny_bind
  apply wpAny_holding
  apply wpAny_pure
  apply wpAny_bind
  apply wpAny_letGo
  show wpAny _ _ (if n < 0 then _ else _) _ _ _
  rw [if_neg (by omega)]
  show wpAny _ _ (if n ≥ 2 ^ 63 then _ else _) _ _ _
  rw [if_neg (by omega)]
  apply wpAny_bind
  apply wpAny_mkInt
  exact wpAny_pure ⟨_, rfl, q⟩
theorem pe_lenI' (C : Ctx rx L call k W X) (hh : L.hot = false) (f : ι) {c : Str} {p pos : Pos} (hf : (L.kd f).isLen c = true) (hg : Gl X "len") (ha : PE X a (SE (kx X) rx W fa)) (hs : notStar a = true) :
    PE X (.Call (.Name "len" p) [a] [] pos) (SE (kx X) rx W fun v m => (fa v m).bind fun x m => if isIns c x then (call f [x] m).nox.bind fun y m => (match y with
      | .int i => if 0 ≤ i ∧ i < 2 ^ 62 then .ok (.int i) m else .fail
      | _ => .fail) else .fail) := by
  obtain ⟨g, fd, ps, hF, hl, hfn, hb⟩ := (C.lens f c hf).ex
  have hm : X.mg "len" = none := C.free _ (by decide)
  have st : starEach [a] X.env = (false, eval a X.env) :: starEach [] X.env := star_ok hs
  rw [kx_calm (C.calm hh)] at ha ⊢
  constructor
  intro pins s σ H Q I h
  obtain ⟨b, env, hd, G, m, ρ, F, R, pp⟩ := h
  let Q1 : VK := fun v H1 => ∃ m1 ρ1 F1 d, RS (k0 X.K) b env ((d, v) :: hd) G m1 ρ1 F1 σ H1 ∧ Post (if isIns c d then (call f [d] m1).nox.bind fun y m => (match y with
      | .int i => if 0 ≤ i ∧ i < 2 ^ 62 then .ok (.int i) m else .fail
      | _ => .fail) else .fail) (fun d m' => ∀ ρ' F' H' v, RS (k0 X.K) b env ((d, v) :: hd) G m' ρ' F' σ H' → Q v H') (Ex (k0 X.K) rx W b env hd G σ)
  have h1 : SE (k0 X.K) rx W fa σ H Q1 := ⟨b, env, hd, G, m, ρ, F, R, pp.bind.imp (fun d m1 p1 ρ1 F1 H1 v R1 => ⟨m1, ρ1, F1, d, R1, p1⟩) fun _ _ z => z⟩
  refine Call_ (ld_blt I hg hm boot_len (PyProof.Rows.callWith_builtin1 (PyProof.Rows.args_cons (thn (ha.run pins s σ H Q1 I h1) fun u s1 hq => ?_) st) st rfl))
  obtain ⟨v, H1, I1, r1, m1, ρ1, F1, d, R1, p1⟩ := hq
  apply PyProof.Rows.args_nil
  cases d with
  | ins c' ns xs =>
    split at p1
    · rename_i hc
      have hc' : c' = c := by simpa [isIns] using hc
      subst hc'
      obtain ⟨t, dx, vs, rfl, hF1, z, rr⟩ := R1.top.ins_of
      obtain rfl : u = Value.ref t := r1
      obtain ⟨_, _, _, hget, _⟩ := (show ObjOk X.prog X.w H1 s1.heap t (.ins (He.ga X.K c') dx (ns.zip vs)) from I1.hok t _ (R1.rl.fh _ _ hF1))
      have R2 := R1.held (hd' := hd) fun _ => List.mem_cons_of_mem _
      let Q2 : VK := fun v H' => ∃ i : Int, v = .int i ∧ 0 ≤ i ∧ i < 2 ^ 62 ∧ Q (.int i) H'
      have sp : spF (k0 X.K) rx (call f) [V.ref t] H1 Q2 (WE W σ) := by
        refine spF_of (xs := [.ins c' ns xs]) R2 (.one R1.top) ?_
        have p2 := p1
        cases hcall : call f [.ins c' ns xs] m1 with
        | fail => rw [hcall] at p2; exact p2.elim
        | exc x mx => rw [hcall] at p2; exact p2.elim
        | ok y m2 =>
          rw [hcall] at p2
          simp only [Res.nox_ok, Res.bind_ok] at p2
          intro ρ' F' H' v R3
          cases y with
          | int i =>
            simp only at p2
            split at p2
            · rename_i hi
              exact ⟨i, R3.top.int_of, hi.1, hi.2, p2 ρ' F' H' _ ((R3.held fun _ => List.mem_cons_of_mem _).hold (.int i))⟩
            · exact p2.elim
          | _ => exact p2.elim
      apply len_own I1.kIn hl (beq_iff_eq.mp hfn) hget rfl
      have hlen : [Value.ref t].length = ps.length := by
        have := hF.len _ _ _ _ sp
        simpa using this
      have hbd := hb s1 [Value.ref t] I1.kIn (by rw [List.append_nil]; exact hlen)
      rw [List.append_nil] at hbd
      refine wpAny_call (codeAny_mono (hF.run X.A.in1 X.stack s1 H1 ⟨[Value.ref t], []⟩ [Value.ref t] [V.ref t] Q2 (WE W σ) (C.room hh).in1 C.gd I1.env0.in1 hbd (.cons rfl .nil) sp) fun res s2 hres => ?_)
      match res, hres with
      | .error z, hres => exact C.pass hh σ pins H1 s1 z s2 I1 hres
      | .ok (.ret u), hres =>
        obtain ⟨v, H2, J2, rv, i, rfl, h0, h2, q⟩ := I1.after hres
        obtain ⟨tk, rfl⟩ := rv
        exact ⟨i, tk, rfl, h0, h2, .int i, H2, J2.tok _, ⟨_, rfl⟩, q⟩
      | .ok .next, hres => exact hres.elim
      | .ok .brk, hres => exact hres.elim
      | .ok .cont, hres => exact hres.elim
    · exact p1.elim
  | _ => exact p1.elim
end
end Fw

set_option Elab.async false
set_option linter.all false
set_option maxRecDepth 100000
set_option maxHeartbeats 2000000
set_option autoImplicit false
/-! ## Fw8: a program in the small language is the written one -/
namespace Fw
open PySem PySem.Spec PyProof.Rows L2

/-! ### the look -/
def visB (sc : Scope) (x : Str) : Bool := (match sc.names.lookup x with
  | some .local => true
  | some .cell => true
  | some .free => true
  | _ => false) && (!(x == ("__debug__" : Str)) && !(x == ("__classdict__" : Str)))
theorem visB_ok {sc : Scope} {x : Str} (h : visB sc x = true) : Vis sc x ∧ (x == ("__debug__" : Str)) = false ∧ (x == ("__classdict__" : Str)) = false := by
  unfold visB at h
  simp only [Bool.and_eq_true, Bool.not_eq_true'] at h
  obtain ⟨h1, h2, h3⟩ := h
  refine ⟨?_, h2, h3⟩
  unfold Vis
  split at h1 <;> first | exact .inl (by assumption) | exact .inr (.inl (by assumption)) | exact .inr (.inr (by assumption)) | cases h1
def glB (sc : Scope) (x : Str) : Bool := decide (sc.names.lookup x = some .globalImplicit) && !(x == ("__debug__" : Str))
def litB : Lit → Expr → Bool
  | .non, .Constant .none _ _ => true
  | .bl b, .Constant (.bool b') _ _ => b == b'
  | .int i, .Constant (.int j) _ _ => decide (i = j)
  | .str x, .Constant (.str y) _ _ => decide (x = y)
  | _, _ => false
def biOk (hot : Bool) : Bi → Bool
  | .sorted => false
  | .min => !hot
  | .max => !hot
  | .sum => !hot
  | .all => !hot
  | .any => !hot
  | _ => true
def notCall : Expr → Bool
  | .Call .. => false
  | _ => true
def tupE : Expr → Bool
  | .Tuple .. => true
  | .List .. => true
  | _ => false
def setE : Expr → Bool
  | .Set .. => true
  | _ => false
def locB (sc : Scope) (bc : Option Scope) (x : Str) : Bool := match sc.names.lookup x with
  | some .local => true
  | some .cell => (match bc with
    | none => true
    | some s => decide (s.names.lookup x = some .cell))
  | _ => false
/-- a walk of pairs wants a target of pairs -/
def goodTg (x tg : Expr) : Bool := match x with
  | .Call (.Name y _) _ _ _ => !(decide (y = ("zip" : Str)) || decide (y = ("enumerate" : Str))) || (match tg with
    | .Tuple .. => true
    | _ => false)
  | _ => true
/-- a class whose instances may be asked for: an own one, ValueError -/
def excB {ι : Type} (L : Look ι) (u : Str) : Bool := (L.cl.any fun p => decide (p.1 = u)) || decide (u = ("ValueError" : Str))
section
variable {ι : Type}
mutual
def chkP (own : List Nat) (L : Look ι) : Pt → Expr → Bool
  | .name i, x => (match x with
    | .Name y _ => decide (L.N[i]? = some y) && (locB L.sc L.bc y && decide (i ∈ own))
    | _ => false)
  | .tup n ts, x => (match x with
    | .Tuple xs _ _ => decide (xs.length = n) && chkPs own L ts xs
    | _ => false)
  | _, _ => false
def chkPs (own : List Nat) (L : Look ι) : Pt → List Expr → Bool
  | .nil, xs => (match xs with
    | [] => true
    | _ => false)
  | .cons a b, xs => (match xs with
    | y :: ys => notStar y && (chkP own L a y && chkPs own L b ys)
    | _ => false)
  | _, _ => false
end
end
section
variable {ι : Type}
def isNil : E ι → Bool
  | .nil => true
  | _ => false
mutual
def chk : E ι → Look ι → Expr → Bool
  | .lit c, L, x => litB c x
  | .var i, L, x => (match x with
    | .Name y _ => decide (L.N[i]? = some y) && visB L.sc y
    | _ => false)
  | .nil, _, _ => false
  | .cons _ _, _, _ => false
  | .tup es, L, x => (match x with
    | .Tuple xs _ _ => chkL es L xs
    | _ => false)
  | .lst es, L, x => (match x with
    | .List xs _ => chkL es L xs
    | _ => false)
  | .new es, L, x => (match x with
    | .List xs _ => chkL es L xs
    | _ => false)
  | .bin o a b, L, x => (match x with
    | .BinOp y op z _ => decide (op = opOf o) && (chk a L y && chk b L z)
    | _ => false)
  | .neg a, L, x => (match x with
    | .UnaryOp .USub y _ => chk a L y
    | _ => false)
  | .cmp o a b, L, x => (match x with
    | .Compare y [op] [z] _ => decide (op = cmOf o) && (chk a L y && chk b L z)
    | _ => false)
  | .and a b, L, x => (match x with
    | .BoolOp .And (y :: [z]) _ => chk a L y && chk b L z
    | .BoolOp .And (y :: z :: z2 :: r) pos => chk a L y && chk b L (.BoolOp .And (z :: z2 :: r) pos)
    | _ => false)
  | .or a b, L, x => (match x with
    | .BoolOp .Or (y :: [z]) _ => chk a L y && chk b L z
    | .BoolOp .Or (y :: z :: z2 :: r) pos => chk a L y && chk b L (.BoolOp .Or (z :: z2 :: r) pos)
    | _ => false)
  | .not a, L, x => (match x with
    | .UnaryOp .Not y _ => chk a L y
    | _ => false)
  | .ite c a b, L, x => (match x with
    | .IfExp y z w _ => chk c L y && (chk a L z && chk b L w)
    | _ => false)
  | .call f es, L, x => (match x with
    | .Call (.Name y _) xs [] _ => !L.hot && ((L.kd f).isFn && (decide (y = L.nm f) && (glB L.sc y && chkL es L xs)))
    | _ => false)
  | .bi b es, L, x => (match x with
    | .Call (.Name y _) (z :: zs) [] _ => decide (y = biName b) && (biOk L.hot b && (glB L.sc y && chkL es L (z :: zs)))
    | _ => false)
  | .isi a t, L, x => (match x with
    | .Call (.Name y _) [z, .Name u _] [] _ => decide (y = ("isinstance" : Str)) && (glB L.sc y && (decide (u = tyStr t) && (glB L.sc u && (notStar z && chk a L z))))
    | _ => false)
  | .idx a i, L, x => (match x with
    | .Subscript y z _ => plainIx z && (chk a L y && chk i L z)
    | _ => false)
  | .app a b, L, x => (match x with
    | .Call (.Attribute y u ap) [z] [] cp => decide (u = ("append" : Str)) && (notCall y && (ap.endLine == cp.line && (notStar z && (chk a L y && chk b L z))))
    | _ => false)
  | .rng1 a, L, x => (match x with
    | .Call (.Name y _) [z] [] _ => decide (y = ("range" : Str)) && (glB L.sc y && (notStar z && chk a L z))
    | _ => false)
  | .rng2 a b, L, x => (match x with
    | .Call (.Name y _) [z, w] [] _ => decide (y = ("range" : Str)) && (glB L.sc y && (notStar z && (notStar w && (chk a L z && chk b L w))))
    | _ => false)
  | .chain o o2 a b c, L, x => (match x with
    | .Compare y [op, op2] [z, w] _ => decide (op = cmOf o) && (decide (op2 = cmOf o2) && (chk a L y && (chk b L z && chk c L w)))
    | _ => false)
  | .sl a lo hi, L, x => (match x with
    | .Subscript y (.Slice l h none _) _ => chk a L y && ((if isNil lo then l.isNone else (match l with
      | some y => chk lo L y
      | none => false)) && (if isNil hi then h.isNone else (match h with
      | some y => chk hi L y
      | none => false)))
    | _ => false)
  | .glob u i, L, x => (match x with
    | .Name y _ => decide (y = u) && (glB L.sc y && decide ((u, i) ∈ L.gl))
    | _ => false)
  | .dlit ks vs, _, x => (match ks, vs, x with
    | [], [], .Dict [] [] _ => true
    | [i], [j], .Dict [some (.Constant (.int i') _ _)] [.Constant (.int j') _ _] _ => decide (i = i') && decide (j = j')
    | _, _, _ => false)
  | .lc _ own t it c e, L, x => (match x with
    | .ListComp elt [⟨tg, iter, ifs, 0⟩] scope _ => !L.hot && (blkC L.N L.sc scope own && ((!(setE iter) && goodTg iter tg) && (chk it L iter && (chkP (own.map (·.2)) { L with sc := relS scope L.sc, bc := some scope } t tg &&
      ((if isNil c then ifs.isEmpty else (match ifs with
      | [y] => chk c { L with sc := relS scope L.sc, bc := some scope } y
      | _ => false)) && chk e { L with sc := relS scope L.sc, bc := some scope } elt)))))
    | _ => false)
  | .isE a u, L, x => (match x with
    | .Call (.Name y _) [z, .Name w _] [] _ => decide (y = ("isinstance" : Str)) && (glB L.sc y && (decide (w = u) && (glB L.sc w && (notStar z && (chk a L z && excB L u)))))
    | _ => false)
  | .rev a, L, x => (match x with
    | .Subscript y (.Slice none none (some (.UnaryOp .USub (.Constant (.int i) _ _) _)) _) _ => decide (i = 1) && chk a L y
    | _ => false)
  | .m1 k a b, L, x => (match x with
    | .Call (.Attribute y u ap) [z] [] cp => decide (u = mkName k) && (notCall y && (ap.endLine == cp.line && (notStar z && (chk a L y && chk b L z))))
    | _ => false)
  | .pop a b, L, x => (match x with
    | .Call (.Attribute y u ap) [z] [] cp => decide (u = ("pop" : Str)) && (notCall y && (ap.endLine == cp.line && (notStar z && (chk a L y && chk b L z))))
    | _ => false)
  | .zip a b, L, x => (match x with
    | .Call (.Name y _) [z, w] [] _ => decide (y = ("zip" : Str)) && (glB L.sc y && (notStar z && (notStar w && (chk a L z && chk b L w))))
    | _ => false)
  | .enum a, L, x => (match x with
    | .Call (.Name y _) [z] [] _ => decide (y = ("enumerate" : Str)) && (glB L.sc y && (notStar z && chk a L z))
    | _ => false)
  | .nbin o a b, L, x => (match x with
    | .BinOp y op z _ => decide (op = opOf o) && (chk a L y && chk b L z)
    | _ => false)
  | .nlst a, L, x => (match x with
    | .Call (.Name y _) [z] [] _ => decide (y = ("list" : Str)) && (glB L.sc y && (notStar z && chk a L z))
    | _ => false)
  | .fld c a f, L, x => (match x with
    | .Attribute y u _ => decide (u = f) && (notCall y && ((L.wl.any fun p => decide (p.1 = c) && decide (f ∈ p.2)) && chk a L y))
    | _ => false)
  | .mk f a, L, x => (match x with
    | .Call (.Name y _) [z] [] _ => !L.hot && ((L.kd f).isMk y && (glB L.sc y && (notStar z && chk a L z)))
    | _ => false)
  | .ins _ _ _, _, _ => false
  | .anyv, _, _ => false
  | .lenI c f a, L, x => (match x with
    | .Call (.Name y _) [z] [] _ => !L.hot && (decide (y = ("len" : Str)) && ((L.kd f).isLen c && (glB L.sc y && (notStar z && chk a L z))))
    | _ => false)
  | .lrng k a, L, x => (match x with
    | .Call (.Name y _) [.Call (.Name r _) [z] [] _] [] _ => !L.hot && (decide (y = lrName k) && (decide (r = ("range" : Str)) && (glB L.sc y && (glB L.sc r && (notStar z && chk a L z)))))
    | _ => false)
  | .setLen a, L, x => (match x with
    | .Call (.Name y _) [.Call (.Name r _) [z] [] _] [] _ => !L.hot && (decide (y = ("len" : Str)) && (decide (r = ("set" : Str)) && (glB L.sc y && (glB L.sc r && (notStar z && chk a L z)))))
    | _ => false)
  | .bad, _, _ => true
def chkL : E ι → Look ι → List Expr → Bool
  | .nil, L, xs => (match xs with
    | [] => true
    | _ => false)
  | .cons a b, L, xs => (match xs with
    | y :: ys => notStar y && (chk a L y && chkL b L ys)
    | _ => false)
  | _, _, _ => false
end
end

section
variable {ι : Type} {rx : PySem.W.Frag → Exc → Value → Option Addr → Hp → Prop} {L : Look ι} {call : ι → List D → MH → Res D} {k : Nat} {W : WX} {X : Cx}
structure SimE (X : Cx) (rx : PySem.W.Frag → Exc → Value → Option Addr → Hp → Prop) (W : WX) (s : Sm) (x : Expr) : Prop where
  pe : PE X x (SE (kx X) rx W s.e)
  pt : PT X x (ST (kx X) rx W s.t)
  pw : ∀ op vs pos, x = .BoolOp op vs pos → PW X x (ST (kx X) rx W s.t)
  pi : ∀ tg, goodTg x tg = true → PI X tg x (SI (kx X) rx W s.w)
def notBool : Expr → Bool
  | .BoolOp .. => false
  | _ => true
theorem SimE.mk' {f : Env → MH → Res D} {x : Expr} (h : PE X x (SE (kx X) rx W f)) (hp : plainTest x = true) : SimE X rx W { e := f } x :=
  ⟨h, pt_plain h hp, fun op vs pos e => (by subst e; cases hp), fun tg _ => pi_val h⟩
theorem glB_ok {x : Str} (C : Ctx rx L call k W X) (h : glB L.sc x = true) : Gl X x ∧ (x == ("__debug__" : Str)) = false := by
  unfold glB at h
  simp only [Bool.and_eq_true, decide_eq_true_eq, Bool.not_eq_true'] at h
  refine ⟨?_, h.2⟩
  show X.env.scope.names.lookup x = _
  rw [C.hs]
  exact h.1
theorem lit_ok (c : Lit) {x : Expr} (h : litB c x = true) : SimE X rx W { e := fun _ m => .ok (litD c) m } x := by
  cases c with
  | non => cases x <;> first | cases h | (rename_i v _ _; cases v <;> first | exact .mk' (pe_ret (d := .non) pe_non rfl rfl) rfl | cases h)
  | bl b => cases x <;> first | cases h | (rename_i v _ _; cases v <;> first | cases h | (rename_i b'; cases (show b = b' from by simpa [litB] using h); exact .mk' (pe_ret pe_bl rfl rfl) rfl))
  | int i => cases x <;> first | cases h | (rename_i v _ _; cases v <;> first | cases h | (rename_i j; cases (show i = j from by simpa [litB] using h); exact .mk' (pe_ret pe_int rfl rfl) rfl))
  | str i => cases x <;> first | cases h | (rename_i v _ _; cases v <;> first | cases h | (rename_i j; cases (show i = j from by simpa [litB] using h); exact .mk' (pe_ret pe_str rfl rfl) rfl))
theorem allStar : ∀ {e : E ι} {xs : List Expr}, chkL e L xs = true → xs.all notStar = true
  | .nil, xs, h => by cases xs with
    | nil => rfl
    | cons => simp [chkL] at h
  | .cons a b, xs, h => by cases xs with
    | nil => simp [chkL] at h
    | cons y ys =>
      simp only [chkL, Bool.and_eq_true] at h
      simp only [List.all_cons, Bool.and_eq_true]
      exact ⟨h.1, allStar h.2.2⟩
  | .lit _, _, h | .var _, _, h | .tup _, _, h | .lst _, _, h | .new _, _, h | .bin _ _ _, _, h | .neg _, _, h | .cmp _ _ _, _, h | .and _ _, _, h | .or _ _, _, h | .not _, _, h | .ite _ _ _, _, h | .call _ _, _, h | .bi _ _, _, h | .isi _ _, _, h
  | .idx _ _, _, h | .app _ _, _, h | .rng1 _, _, h | .rng2 _ _, _, h | .chain _ _ _ _ _, _, h | .sl _ _ _, _, h | .glob _ _, _, h | .dlit _ _, _, h | .lc _ _ _ _ _ _, _, h | .isE _ _, _, h | .rev _, _, h | .m1 _ _ _, _, h | .pop _ _, _, h | .zip _ _, _, h | .enum _, _, h | .nbin _ _ _, _, h | .nlst _, _, h | .fld _ _ _, _, h | .mk _ _, _, h | .ins _ _ _, _, h | .anyv, _, h | .lenI _ _ _, _, h | .lrng _ _, _, h | .setLen _, _, h | .bad, _, h => by simp [chkL] at h
theorem bi_ok (C : Ctx rx L call k W X) (b : Bi) {e : Expr} {es : List Expr} {fl : Env → MH → Res (List D)} {p pos : Pos} (hg : Gl X (biName b)) (ha : PA X (e :: es) (SA (kx X) rx W fl)) (hs : (e :: es).all notStar = true) (hb : biOk L.hot b = true) :
    PE X (.Call (.Name (biName b) p) (e :: es) [] pos) (SE (kx X) rx W fun v m => (fl v m).bind fun xs m => .of (built b xs m) m) := by
  have hm : X.mg (biName b) = none := C.free _ (by cases b <;> simp [biName, freeNames])
  have hdb : (biName b == ("__debug__" : Str)) = false := by cases b <;> decide
  have hn : biName b ≠ "__name__" := by cases b <;> decide
  cases b with
  | len => exact pe_bi bi_len hg hm (by decide +kernel) ha hn hdb hs
  | abs => exact pe_bi bi_abs hg hm (by decide +kernel) ha hn hdb hs
  | min => exact pe_bi (bi_min (C.calm (by simpa [biOk] using hb))) hg hm (by decide +kernel) ha hn hdb hs
  | max => exact pe_bi (bi_max (C.calm (by simpa [biOk] using hb))) hg hm (by decide +kernel) ha hn hdb hs
  | repr => exact pe_bi (bi_repr C.smd C.gd C.units) hg hm (by decide +kernel) ha hn hdb hs
  | sum => exact pe_bi (bi_sum (C.calm (by simpa [biOk] using hb))) hg hm (by decide +kernel) ha hn hdb hs
  | all => exact pe_bi (bi_all (C.calm (by simpa [biOk] using hb))) hg hm (by decide +kernel) ha hn hdb hs
  | any => exact pe_bi (bi_any (C.calm (by simpa [biOk] using hb))) hg hm (by decide +kernel) ha hn hdb hs
  | tuple => exact pe_biT bi_tuple hg hm (by decide +kernel) ha hn hdb hs
  | list => exact pe_biT bi_list hg hm (by decide +kernel) ha hn hdb hs
  | int => exact pe_biT bi_int hg hm (by decide +kernel) ha hn hdb hs
  | sorted => cases hb
theorem locB_ok (C : Ctx rx L call k W X) {x : Str} (h : locB L.sc L.bc x = true) : Loc X.env.scope x ∧ (X.fn x = true ∨ X.env.scope.names.lookup x = some .local) := by
  rw [C.hs]
  unfold locB at h
  split at h
  · exact ⟨.inl (by assumption), .inr (by assumption)⟩
  · refine ⟨.inr (by assumption), .inl (C.fn x ?_)⟩
    cases hbc : L.bc with
    | none => trivial
    | some s =>
      rw [hbc] at h
      exact of_decide_eq_true h
  · cases h
mutual
theorem chkP_ok {own : List Nat} (C : Ctx rx L call k W X) (hh : L.hot = false) : ∀ (t : Pt) {x : Expr}, chkP own L t x = true → PG X x (SP (kx X) own (ptg t).1)
  | .name i, x, h => by
    cases x <;> first | cases h | skip
    simp only [chkP, Bool.and_eq_true, decide_eq_true_eq] at h
    obtain ⟨h1, h2, h3⟩ := h
    obtain ⟨l1, l2⟩ := locB_ok C h2
    exact pv_name (by rw [C.hN]; exact C.nd) (by rw [C.hN]; exact h1) l1 l2 h3
  | .tup n ts, x, h => by
    cases x <;> first | cases h | skip
    simp only [chkP, Bool.and_eq_true, decide_eq_true_eq] at h
    exact pv_tup (C.calm hh) (chkPs_ok C hh ts h.2).1 h.1 (chkPs_ok C hh ts h.2).2
  | .nil, x, h => by cases h
  | .cons _ _, x, h => by cases h
theorem chkPs_ok {own : List Nat} (C : Ctx rx L call k W X) (hh : L.hot = false) : ∀ (t : Pt) {xs : List Expr}, chkPs own L t xs = true → PGs X xs (SPs (kx X) own (ptg t).2) ∧ xs.all notStar = true
  | .nil, xs, h => by
    cases xs with
    | nil => exact ⟨pvs_nil, rfl⟩
    | cons => cases h
  | .cons a b, xs, h => by
    cases xs with
    | nil => cases h
    | cons y ys =>
      simp only [chkPs, Bool.and_eq_true] at h
      obtain ⟨i1, i2⟩ := chkPs_ok C hh b h.2.2
      exact ⟨pvs_cons (chkP_ok C hh a h.2.1) i1 h.1, by simp only [List.all_cons, Bool.and_eq_true]; exact ⟨h.1, i2⟩⟩
  | .name _, xs, h => by cases h
  | .tup _ _, xs, h => by cases h
end
theorem pts_nil' : PTs X [] (ST (kx X) rx W fun _ m => .ok true m) := ⟨fun pins s σ H Q I ⟨b, env, hd, G, m, ρ, F, R, p⟩ => pts_nil.run pins s σ H Q I (p ρ F H R)⟩
/-- a block's context -/
theorem Ctx.blk (C : Ctx rx L call k W X) (hh : L.hot = false) (scope : Scope) (s : Shared) (H : Hp) (Cc : Addr) (cl : List (Str × Addr)) (fp : List Addr) : Ctx rx { L with sc := relS scope L.sc, bc := some scope } call k W0 (X.blk s H scope (compEnvC scope cl Cc X.env) fp) :=
  have tk0 : Takes (X.blk s H scope (compEnvC scope cl Cc X.env) fp) W0 := fun u s' ⟨_, _, _, _, _, _, _, _, _, _, _, _, _, _, _, _, w⟩ => w.elim
  { hN := C.hN, hs := by rw [← C.hs]; rfl, nd := C.nd, calm := C.calm, fn := fun x h => by
      have h' : scope.names.lookup x = some .cell := h
      show (scope.names.lookup x == some .cell) = true
      rw [h']; rfl
    room := C.room, units := C.units, smd := C.smd, gd := C.gd, pass := fun _ => passAt tk0, calls := C.calls, mks := C.mks, lens := C.lens, cw := C.cw, free := C.free, glb := C.glb, tk := fun _ => tk0, top := fun _ e => (by cases e), cl := C.cl, rxd := C.rxd, exf := C.exf }
theorem isNil_eq {e : E ι} (h : isNil e = true) : e = .nil := by cases e <;> first | rfl | cases h
theorem part_ok {e : E ι} {l : Option Expr} (hp : ∀ y, chk e L y = true → PE X y (SE (kx X) rx W (sem call e).e)) (h : (if isNil e then l.isNone else (match l with
      | some y => chk e L y
      | none => false)) = true) : PO X l (SO (kx X) rx W (sem call e).o) := by
  by_cases hn : isNil e = true
  · rw [if_pos hn] at h
    have := isNil_eq hn
    subst this
    cases l with
    | none => exact po_none'
    | some => cases h
  · rw [if_neg hn] at h
    cases l with
    | none => cases h
    | some y =>
      have := po_some' (hp y h)
      cases e <;> first | exact this | exact absurd rfl hn
theorem ifs_ok {e : E ι} {ifs : List Expr} (hp : ∀ y, chk e L y = true → PT X y (ST (kx X) rx W (sem call e).t)) (h : (if isNil e then ifs.isEmpty else (match ifs with
      | [y] => chk e L y
      | _ => false)) = true) : PTs X ifs (ST (kx X) rx W (sem call e).t) := by
  by_cases hn : isNil e = true
  · rw [if_pos hn] at h
    have := isNil_eq hn
    subst this
    cases ifs with
    | nil => exact pts_nil'
    | cons => cases h
  · rw [if_neg hn] at h
    match ifs, h with
    | [y], h => exact pts_one (hp y h)
theorem isE_ok (C : Ctx rx L call k W X) {a : Expr} {fa : Env → MH → Res D} {u : Str} {p p2 pos : Pos} (hs : notStar a = true) (hg : Gl X "isinstance") (hg2 : Gl X u ∧ (u == ("__debug__" : Str)) = false) (ha : PE X a (SE (kx X) rx W fa)) (hx : excB L u = true) :
    PE X (.Call (.Name "isinstance" p) [a, .Name u p2] [] pos) (SE (kx X) rx W fun v m => (fa v m).bind fun y m => .of (isED u y) m) := by
  have hm : X.mg "isinstance" = none := C.free _ (by simp [freeNames])
  unfold excB at hx
  rcases Bool.or_eq_true_iff.mp hx with hx | hx
  · obtain ⟨q, hq, e⟩ := List.any_eq_true.mp hx
    have e := of_decide_eq_true e
    subst e
    refine pe_isE0 (cv := .ref (He.ga X.K q.1)) ha hs hg hm (pe_glob (v := .ref (He.ga X.K q.1)) hg2.1 (C.exf q hq).gl rfl hg2.2) (fun u r => r) fun z hz => ?_
    rw [← C.cl] at hz
    exact ⟨(C.exf _ hz).cc, (C.exf _ hz).kit q hq⟩
  · have e := of_decide_eq_true hx
    subst e
    refine pe_isE0 (cv := .type "ValueError") ha hs hg hm (pe_bltn (v := .ty "ValueError") hg2.1 (C.free _ (by simp [freeNames])) (by decide +kernel) rfl (by decide) (by decide)) (fun u r => r) fun z hz => ?_
    rw [← C.cl] at hz
    exact ⟨(C.exf _ hz).cc, (C.exf _ hz).kitV⟩
mutual
theorem chk_ok : ∀ (e : E ι) {L : Look ι} {W : WX} {X : Cx} (C : Ctx rx L call k W X) {x : Expr}, chk e L x = true → SimE X rx W (sem call e) x
  | .lit c, L, W, X, C, x, h => lit_ok c h
  | .var i, L, W, X, C, x, h => by
    cases x <;> first | cases h | skip
    rename_i y _
    simp only [chk, Bool.and_eq_true, decide_eq_true_eq] at h
    obtain ⟨h1, h2⟩ := h
    obtain ⟨v1, v2, v3⟩ := visB_ok h2
    exact .mk' (pe_local (by rw [C.hN]; exact h1) (by rw [C.hs]; exact v1) v2 v3) rfl
  | .nil, L, W, X, C, x, h => by cases h
  | .cons _ _, L, W, X, C, x, h => by cases h
  | .tup es, L, W, X, C, x, h => by
    cases x <;> first | cases h | exact .mk' (pe_tup' (chkL_ok es C h)) rfl
  | .lst es, L, W, X, C, x, h => by
    cases x <;> first | cases h | exact .mk' (pe_lst' (chkL_ok es C h)) rfl
  | .new es, L, W, X, C, x, h => by
    cases x <;> first | cases h | exact .mk' (pe_new' (chkL_ok es C h)) rfl
  | .bin o a b, L, W, X, C, x, h => by
    cases x <;> first | cases h | skip
    simp only [chk, Bool.and_eq_true, decide_eq_true_eq] at h
    obtain ⟨rfl, h1, h2⟩ := h
    exact .mk' (pe_bin o (chk_ok a C h1).pe (chk_ok b C h2).pe) rfl
  | .neg a, L, W, X, C, x, h => by
    cases x <;> first | cases h | skip
    rename_i op y _
    cases op <;> first | cases h | exact .mk' (pe_neg (chk_ok a C h).pe) rfl
  | .cmp o a b, L, W, X, C, x, h => by
    cases x <;> first | cases h | skip
    rename_i y ops zs pos
    match ops, zs, h with
    | [op], [z], h =>
      simp only [chk, Bool.and_eq_true, decide_eq_true_eq] at h
      obtain ⟨rfl, h1, h2⟩ := h
      have ha := (chk_ok a C h1).pe
      have hb := (chk_ok b C h2).pe
      exact ⟨pe_cm C.units o ha hb, pt_cm C.units o ha hb, fun _ _ _ e => (by cases e), fun tg _ => pi_val (pe_cm C.units o ha hb)⟩
  | .and a b, L, W, X, C, x, h => by
    cases x <;> first | cases h | skip
    rename_i op vs pos
    cases op
    · match vs, h with
      | [y, z], h =>
        simp only [chk, Bool.and_eq_true] at h
        have ha := chk_ok a C h.1
        have hb := chk_ok b C h.2
        have hp := pe_and' (pos := pos) ha.pe (pe_one' hb.pe)
        have hw := pw_and' (pos := pos) ha.pt (pw_and1 hb.pt)
        exact ⟨hp, hw.pt, fun _ _ _ e => (by cases e; exact hw), fun tg _ => pi_val hp⟩
      | y :: z :: z2 :: r, h =>
        simp only [chk, Bool.and_eq_true] at h
        have ha := chk_ok a C h.1
        have hb := chk_ok b C h.2
        have hp := pe_and' (pos := pos) ha.pe hb.pe
        have hw := pw_and' (pos := pos) ha.pt (hb.pw _ _ _ rfl)
        exact ⟨hp, hw.pt, fun _ _ _ e => (by cases e; exact hw), fun tg _ => pi_val hp⟩
    · cases h
  | .or a b, L, W, X, C, x, h => by
    cases x <;> first | cases h | skip
    rename_i op vs pos
    cases op
    · cases h
    · match vs, h with
      | [y, z], h =>
        simp only [chk, Bool.and_eq_true] at h
        have ha := chk_ok a C h.1
        have hb := chk_ok b C h.2
        have hp := pe_or' (pos := pos) ha.pe (pe_one' hb.pe)
        have hw := pw_or' (pos := pos) ha.pt (pw_or1 hb.pt)
        exact ⟨hp, hw.pt, fun _ _ _ e => (by cases e; exact hw), fun tg _ => pi_val hp⟩
      | y :: z :: z2 :: r, h =>
        simp only [chk, Bool.and_eq_true] at h
        have ha := chk_ok a C h.1
        have hb := chk_ok b C h.2
        have hp := pe_or' (pos := pos) ha.pe hb.pe
        have hw := pw_or' (pos := pos) ha.pt (hb.pw _ _ _ rfl)
        exact ⟨hp, hw.pt, fun _ _ _ e => (by cases e; exact hw), fun tg _ => pi_val hp⟩
  | .not a, L, W, X, C, x, h => by
    cases x <;> first | cases h | skip
    rename_i op y pos
    cases op <;> first | cases h | skip
    have ha := chk_ok a C h
    have hp := pe_not' (pos := pos) ha.pe
    exact ⟨hp, pt_not' ha.pt, fun _ _ _ e => (by cases e), fun tg _ => pi_val hp⟩
  | .ite c a b, L, W, X, C, x, h => by
    cases x <;> first | cases h | skip
    simp only [chk, Bool.and_eq_true] at h
    obtain ⟨h0, h1, h2⟩ := h
    rename_i tt bb oo pos
    have hp := pe_ite (pos := pos) (chk_ok c C h0).pt (chk_ok a C h1).pe (chk_ok b C h2).pe
    exact ⟨hp, PT.no fun σ H Q ⟨b, env, hd, G, m, ρ, F, R, p⟩ => p, fun _ _ _ e => (by cases e), fun tg _ => pi_val hp⟩
  | .call f es, L, W, X, C, x, h => by
    cases x <;> first | cases h | skip
    rename_i fn xs kws pos
    cases fn <;> first | cases h | skip
    rename_i y p
    match kws, h with
    | [], h =>
      simp only [chk, Bool.and_eq_true, decide_eq_true_eq, Bool.not_eq_true'] at h
      obtain ⟨hh, hf, rfl, hg, hl⟩ := h
      obtain ⟨g1, g2⟩ := glB_ok C hg
      cases es with
      | nil =>
        cases xs with
        | nil => exact .mk' (pe_call0' C hh f hf g1 g2) rfl
        | cons => simp [chkL] at hl
      | cons a b =>
        cases xs with
        | nil => simp [chkL] at hl
        | cons z zs => exact .mk' (pe_call' C hh f hf g1 g2 (chkL_ok (.cons a b) C hl) (allStar hl)) rfl
      | _ => simp [chkL] at hl
  | .bi b es, L, W, X, C, x, h => by
    cases x <;> first | cases h | skip
    rename_i fn xs kws pos
    cases fn <;> first | cases h | skip
    rename_i y p
    match xs, kws, h with
    | z :: zs, [], h =>
      simp only [chk, Bool.and_eq_true, decide_eq_true_eq] at h
      obtain ⟨rfl, hb, hg, hl⟩ := h
      exact .mk' (bi_ok C b (glB_ok C hg).1 (chkL_ok es C hl) (allStar hl) hb) rfl
  | .isi a t, L, W, X, C, x, h => by
    cases x <;> first | cases h | skip
    rename_i fn xs kws pos
    cases fn <;> first | cases h | skip
    rename_i y p
    match xs, kws, h with
    | [z, .Name u _], [], h =>
      simp only [chk, Bool.and_eq_true, decide_eq_true_eq] at h
      obtain ⟨rfl, hg, rfl, hg2, hs, ha⟩ := h
      exact .mk' (pe_isi t (chk_ok a C ha).pe hs (glB_ok C hg).1 (C.free _ (by simp [freeNames])) (glB_ok C hg2).1 (C.free _ (by cases t <;> simp [tyStr, freeNames]))) rfl
  | .idx a i, L, W, X, C, x, h => by
    cases x <;> first | cases h | skip
    simp only [chk, Bool.and_eq_true] at h
    obtain ⟨h0, h1, h2⟩ := h
    exact .mk' (pe_idx (chk_ok a C h1).pe (chk_ok i C h2).pe h0) rfl
  | .app a b, L, W, X, C, x, h => by
    cases x <;> first | cases h | skip
    rename_i fn xs kws pos
    cases fn <;> first | cases h | skip
    rename_i y u ap
    match xs, kws, h with
    | [z], [], h =>
      simp only [chk, Bool.and_eq_true, decide_eq_true_eq] at h
      obtain ⟨rfl, h0, h1, h2, ha, hb⟩ := h
      exact .mk' (pe_app (chk_ok a C ha).pe (chk_ok b C hb).pe h2 (by cases y <;> first | rfl | cases h0) h1) rfl
  | .rng1 a, L, W, X, C, x, h => by
    cases x <;> first | cases h | skip
    rename_i fn xs kws pos
    cases fn <;> first | cases h | skip
    rename_i y u
    match xs, kws, h with
    | [z], [], h =>
      simp only [chk, Bool.and_eq_true, decide_eq_true_eq] at h
      obtain ⟨rfl, hg, hs, ha⟩ := h
      exact ⟨PE.no fun σ H Q ⟨b, env, hd, G, m, ρ, F, R, p⟩ => p, PT.no fun σ H Q ⟨b, env, hd, G, m, ρ, F, R, p⟩ => p, fun _ _ _ e => (by cases e), fun tg _ => pi_rng1 (glB_ok C hg).1 (C.free _ (by simp [freeNames])) (chk_ok a C ha).pe hs⟩
  | .rng2 a b, L, W, X, C, x, h => by
    cases x <;> first | cases h | skip
    rename_i fn xs kws pos
    cases fn <;> first | cases h | skip
    rename_i y u
    match xs, kws, h with
    | [z, w], [], h =>
      simp only [chk, Bool.and_eq_true, decide_eq_true_eq] at h
      obtain ⟨rfl, hg, hs, hs2, ha, hb⟩ := h
      exact ⟨PE.no fun σ H Q ⟨b, env, hd, G, m, ρ, F, R, p⟩ => p, PT.no fun σ H Q ⟨b, env, hd, G, m, ρ, F, R, p⟩ => p, fun _ _ _ e => (by cases e), fun tg _ => pi_rng2 (glB_ok C hg).1 (C.free _ (by simp [freeNames])) (chk_ok a C ha).pe (chk_ok b C hb).pe hs hs2⟩
  | .chain o o2 a b c, L, W, X, C, x, h => by
    cases x <;> first | cases h | skip
    rename_i y ops zs pos
    match ops, zs, h with
    | [op, op2], [z, w], h =>
      simp only [chk, Bool.and_eq_true, decide_eq_true_eq] at h
      obtain ⟨rfl, rfl, h1, h2, h3⟩ := h
      have ha := (chk_ok a C h1).pe
      have hb := (chk_ok b C h2).pe
      have hc := (chk_ok c C h3).pe
      exact ⟨pe_chain' C.units o o2 ha hb hc, pt_chain' C.units o o2 ha hb hc, fun _ _ _ e => (by cases e), fun tg _ => pi_val (pe_chain' C.units o o2 ha hb hc)⟩
  | .sl a lo hi, L, W, X, C, x, h => by
    cases x <;> first | cases h | skip
    rename_i y z pos
    cases z <;> first | cases h | skip
    rename_i l hh st p2
    cases st with
    | some => cases h
    | none =>
      simp only [chk, Bool.and_eq_true] at h
      obtain ⟨h1, h2, h3⟩ := h
      exact .mk' (pe_sl' (chk_ok a C h1).pe (part_ok (fun y q => (chk_ok lo C q).pe) h2) (part_ok (fun y q => (chk_ok hi C q).pe) h3)) rfl
  | .glob u i, L, W, X, C, x, h => by
    cases x <;> first | cases h | skip
    rename_i y pos
    simp only [chk, Bool.and_eq_true, decide_eq_true_eq] at h
    obtain ⟨rfl, h1, h2⟩ := h
    obtain ⟨t, ht⟩ := C.glb _ h2
    obtain ⟨g1, g2⟩ := glB_ok C h1
    exact .mk' (pe_glob' g1 ht g2) rfl
  | .dlit ks vs, L, W, X, C, x, h => by
    unfold chk at h
    split at h
    · exact .mk' pe_dict0 rfl
    · simp only [Bool.and_eq_true, decide_eq_true_eq] at h
      obtain ⟨rfl, rfl⟩ := h
      exact .mk' pe_dict1 rfl
    · cases h
  | .lc mu own t it c e, L, W, X, C, x, h => by
    cases x <;> first | cases h | skip
    rename_i elt gs scope pos
    match gs, h with
    | [⟨tg, iter, ifs, 0⟩], h =>
      simp only [chk, Bool.and_eq_true, Bool.not_eq_true'] at h
      obtain ⟨hh, h1, h2, h3, h4, h5, h6⟩ := h
      have hc := C.calm hh
      have hB : ∀ (s : Shared) (H : Hp) (Cc : Addr) (cl : List (Str × Addr)) (fp : List Addr), Ctx rx { L with sc := relS scope L.sc, bc := some scope } call k W0 (X.blk s H scope (compEnvC scope cl Cc X.env) fp) := fun s H Cc cl fp => C.blk hh scope s H Cc cl fp
      have hk : ∀ (s : Shared) (H : Hp) (Cc : Addr) (cl : List (Str × Addr)) (fp : List Addr), kx (X.blk s H scope (compEnvC scope cl Cc X.env) fp) = k0 X.K := fun s H Cc cl fp => kx_calm (X := X.blk s H scope (compEnvC scope cl Cc X.env) fp) hc
      obtain ⟨h2, h2'⟩ := h2
      have hpi := (chk_ok it C h3).pi tg h2'
      have hset : ∀ x, foldedSetIterable iter X.env x = pure x := by intro x; cases iter <;> first | rfl | cases h2
      rw [kx_calm hc] at hpi
      have hpe : PE X (.ListComp elt [⟨tg, iter, ifs, 0⟩] scope pos) (SE (kx X) rx W (lcF (sem call it).w (ptg t).1 (sem call c).t (sem call e).e (own.map (·.2)) mu)) := by
        rw [kx_calm hc]
        exact pe_lc' hc (by rw [C.hN]; exact C.nd) hpi (by rw [C.hN, C.hs]; exact blkOk_by h1) (fun s H Cc cl fp => by
          have := chkP_ok (hB s H Cc cl fp) hh t h4
          rw [hk] at this
          exact this) (fun s H Cc cl fp => by
          have := ifs_ok (fun y q => (chk_ok c (hB s H Cc cl fp) q).pt) h5
          rw [hk] at this
          exact this) (fun s H Cc cl fp => by
          have := (chk_ok e (hB s H Cc cl fp) h6).pe
          rw [hk] at this
          exact this) hset
      exact .mk' hpe rfl
  | .isE a u, L, W, X, C, x, h => by
    cases x <;> first | cases h | skip
    rename_i fn xs kws pos
    cases fn <;> first | cases h | skip
    rename_i y p
    match xs, kws, h with
    | [z, .Name w _], [], h =>
      simp only [chk, Bool.and_eq_true, decide_eq_true_eq] at h
      obtain ⟨rfl, hg, rfl, hg2, hs, ha, hx⟩ := h
      exact .mk' (isE_ok C hs (glB_ok C hg).1 (glB_ok C hg2) (chk_ok a C ha).pe hx) rfl
  | .rev a, L, W, X, C, x, h => by
    unfold chk at h
    split at h
    · simp only [Bool.and_eq_true, decide_eq_true_eq] at h
      obtain ⟨rfl, ha⟩ := h
      exact .mk' (pe_rev' (chk_ok a C ha).pe) rfl
    · cases h
  | .m1 m a b, L, W, X, C, x, h => by
    unfold chk at h
    split at h
    · rename_i y u ap z cp
      simp only [Bool.and_eq_true, decide_eq_true_eq] at h
      obtain ⟨rfl, h0, h1, h2, ha, hb⟩ := h
      exact .mk' (pe_m1' m (chk_ok a C ha).pe (chk_ok b C hb).pe h2 (by cases m <;> (cases y <;> first | rfl | cases h0)) h1) rfl
    · cases h
  | .pop a b, L, W, X, C, x, h => by
    unfold chk at h
    split at h
    · rename_i y u ap z cp
      simp only [Bool.and_eq_true, decide_eq_true_eq] at h
      obtain ⟨rfl, h0, h1, h2, ha, hb⟩ := h
      exact .mk' (pe_pop' (chk_ok a C ha).pe (chk_ok b C hb).pe h2 (by cases y <;> first | rfl | cases h0) h1) rfl
    · cases h
  | .zip a b, L, W, X, C, x, h => by
    unfold chk at h
    split at h
    · simp only [Bool.and_eq_true, decide_eq_true_eq] at h
      obtain ⟨rfl, hg, hs, hs2, ha, hb⟩ := h
      refine ⟨PE.no fun σ H Q ⟨b, env, hd, G, m, ρ, F, R, p⟩ => p, PT.no fun σ H Q ⟨b, env, hd, G, m, ρ, F, R, p⟩ => p, fun _ _ _ e => (by cases e), fun tg ht => ?_⟩
      cases tg <;> first | (simp [goodTg] at ht; done) | skip
      exact pi_zip' (glB_ok C hg).1 (C.free _ (by simp [freeNames])) (chk_ok a C ha).pe (chk_ok b C hb).pe hs hs2
    · cases h
  | .enum a, L, W, X, C, x, h => by
    unfold chk at h
    split at h
    · simp only [Bool.and_eq_true, decide_eq_true_eq] at h
      obtain ⟨rfl, hg, hs, ha⟩ := h
      refine ⟨PE.no fun σ H Q ⟨b, env, hd, G, m, ρ, F, R, p⟩ => p, PT.no fun σ H Q ⟨b, env, hd, G, m, ρ, F, R, p⟩ => p, fun _ _ _ e => (by cases e), fun tg ht => ?_⟩
      cases tg <;> first | (simp [goodTg] at ht; done) | skip
      exact pi_enum' (glB_ok C hg).1 (C.free _ (by simp [freeNames])) (chk_ok a C ha).pe hs
    · cases h
  | .nbin o a b, L, W, X, C, x, h => by
    unfold chk at h
    split at h
    · simp only [Bool.and_eq_true, decide_eq_true_eq] at h
      obtain ⟨rfl, ha, hb⟩ := h
      exact .mk' (pe_nbin' o (chk_ok a C ha).pe (chk_ok b C hb).pe) rfl
    · cases h
  | .nlst a, L, W, X, C, x, h => by
    unfold chk at h
    split at h
    · simp only [Bool.and_eq_true, decide_eq_true_eq] at h
      obtain ⟨rfl, hg, hs, ha⟩ := h
      exact .mk' (pe_nlst' (glB_ok C hg).1 (C.free _ (by simp [freeNames])) (chk_ok a C ha).pe hs) rfl
    · cases h
  | .fld c a f, L, W, X, C, x, h => by
    unfold chk at h
    split at h
    · rename_i y u p
      simp only [Bool.and_eq_true, decide_eq_true_eq, List.any_eq_true] at h
      obtain ⟨rfl, h0, ⟨q, hq, rfl, hf⟩, ha⟩ := h
      have cw := C.cw q hq
      exact .mk' (pe_fld' (chk_ok a C ha).pe cw.cls (cw.no _ hf) (by cases y <;> first | rfl | cases h0)) rfl
    · cases h
  | .mk f a, L, W, X, C, x, h => by
    unfold chk at h
    split at h
    · rename_i y p z pos
      simp only [Bool.and_eq_true, Bool.not_eq_true'] at h
      obtain ⟨hh, hf, hg, hs, ha⟩ := h
      obtain ⟨g1, g2⟩ := glB_ok C hg
      exact .mk' (pe_mk' C hh f hf g1 g2 (chk_ok a C ha).pe hs) rfl
    · cases h
  | .ins _ _ _, L, W, X, C, x, h => by unfold chk at h; cases h
  | .anyv, L, W, X, C, x, h => by unfold chk at h; cases h
  | .lenI c f a, L, W, X, C, x, h => by
    unfold chk at h
    split at h
    · rename_i y p z pos
      simp only [Bool.and_eq_true, decide_eq_true_eq, Bool.not_eq_true'] at h
      obtain ⟨hh, rfl, hf, hg, hs, ha⟩ := h
      exact .mk' (pe_lenI' C hh f hf (glB_ok C hg).1 (chk_ok a C ha).pe hs) rfl
    · cases h
  | .lrng k a, L, W, X, C, x, h => by
    unfold chk at h
    split at h
    · rename_i y p r p2 z p3 pos
      simp only [Bool.and_eq_true, decide_eq_true_eq, Bool.not_eq_true'] at h
      obtain ⟨hh, rfl, rfl, hg, hg2, hs, ha⟩ := h
      exact .mk' (pe_lrng (C.calm hh) (glB_ok C hg).1 (C.free _ (by cases k <;> simp [lrName, freeNames])) (glB_ok C hg2).1 (C.free _ (by simp [freeNames])) (chk_ok a C ha).pe hs) rfl
    · cases h
  | .setLen a, L, W, X, C, x, h => by
    unfold chk at h
    split at h
    · rename_i y p r p2 z p3 pos
      simp only [Bool.and_eq_true, decide_eq_true_eq, Bool.not_eq_true'] at h
      obtain ⟨hh, rfl, rfl, hg, hg2, hs, ha⟩ := h
      exact .mk' (pe_setLen (C.calm hh) (glB_ok C hg).1 (C.free _ (by simp [freeNames])) (glB_ok C hg2).1 (C.free _ (by simp [freeNames])) (chk_ok a C ha).pe hs) rfl
    · cases h
  | .bad, L, W, X, C, x, h => by
    exact ⟨PE.no fun σ H Q ⟨b, env, hd, G, m, ρ, F, R, p⟩ => p, PT.no fun σ H Q ⟨b, env, hd, G, m, ρ, F, R, p⟩ => p, fun _ _ _ e => ⟨fun wh pins s σ H Q _ ⟨b, env, hd, G, m, ρ, F, R, p⟩ => p.elim⟩, fun tg _ => PI.no fun σ H Q ⟨b, env, hd, G, m, ρ, F, R, p⟩ => p⟩
theorem chkL_ok : ∀ (e : E ι) {L : Look ι} {W : WX} {X : Cx} (C : Ctx rx L call k W X) {xs : List Expr}, chkL e L xs = true → PA X xs (SA (kx X) rx W (sem call e).l)
  | .nil, L, W, X, C, xs, h => by
    cases xs with
    | nil => exact pa_nil'
    | cons => cases h
  | .cons a b, L, W, X, C, xs, h => by
    cases xs with
    | nil => cases h
    | cons y ys =>
      simp only [chkL, Bool.and_eq_true] at h
      exact pa_cons' (chk_ok a C h.2.1).pe (chkL_ok b C h.2.2) h.1
  | .lit _, _, _, _, _, _, h | .var _, _, _, _, _, _, h | .tup _, _, _, _, _, _, h | .lst _, _, _, _, _, _, h | .new _, _, _, _, _, _, h | .bin _ _ _, _, _, _, _, _, h | .neg _, _, _, _, _, _, h | .cmp _ _ _, _, _, _, _, _, h | .and _ _, _, _, _, _, _, h | .or _ _, _, _, _, _, _, h | .not _, _, _, _, _, _, h | .ite _ _ _, _, _, _, _, _, h | .call _ _, _, _, _, _, _, h
  | .bi _ _, _, _, _, _, _, h | .isi _ _, _, _, _, _, _, h | .idx _ _, _, _, _, _, _, h | .app _ _, _, _, _, _, _, h | .rng1 _, _, _, _, _, _, h | .rng2 _ _, _, _, _, _, _, h | .chain _ _ _ _ _, _, _, _, _, _, h | .sl _ _ _, _, _, _, _, _, h | .glob _ _, _, _, _, _, _, h | .dlit _ _, _, _, _, _, _, h | .lc _ _ _ _ _ _, _, _, _, _, _, h | .isE _ _, _, _, _, _, _, h | .rev _, _, _, _, _, _, h | .m1 _ _ _, _, _, _, _, _, h | .pop _ _, _, _, _, _, _, h | .zip _ _, _, _, _, _, _, h | .enum _, _, _, _, _, _, h | .nbin _ _ _, _, _, _, _, _, h | .nlst _, _, _, _, _, _, h | .fld _ _ _, _, _, _, _, _, h | .mk _ _, _, _, _, _, _, h | .ins _ _ _, _, _, _, _, _, h | .anyv, _, _, _, _, _, h | .lenI _ _ _, _, _, _, _, _, h | .lrng _ _, _, _, _, _, _, h | .setLen _, _, _, _, _, _, h | .bad, _, _, _, _, _, h => by simp [chkL] at h
end
end
end Fw

set_option Elab.async false
set_option linter.all false
set_option maxRecDepth 100000
set_option maxHeartbeats 2000000
set_option autoImplicit false
/-! ## Fw9: targets and statements looked at; a whole program -/
namespace Fw
open PySem PySem.Spec PyProof.Rows L2

/-- stored as written, one after the other -/
def plainAsg (sc : Scope) (tg e : Expr) : Bool := noComp e && (!(tupE tg) || !(tupE e) || (match tg, e with
  | .Tuple ts _ _, .Tuple vs _ _ => decide (ts.length ≠ vs.length) || (decide (ts.length ≠ 2) && decide (ts.length ≠ 3)) || vs.all (foldedForSure 8) || ts.any fun t => match t with
    | .Name y _ => decide (sc.names.lookup y ≠ some .local)
    | _ => true
  | _, _ => false))
section
variable {ι : Type} (L : Look ι)
mutual
def chkT : T ι → Expr → Bool
  | .name i, x => (match x with
    | .Name y _ => decide (L.N[i]? = some y) && locB L.sc L.bc y
    | _ => false)
  | .tup n ts, x => (match x with
    | .Tuple xs _ _ => !L.hot && (decide (xs.length = n) && chkTs ts xs)
    | _ => false)
  | .sub o i, x => (match x with
    | .Subscript y z _ => plainIx z && (chk o L y && chk i L z)
    | _ => false)
  | _, _ => false
def chkTs : T ι → List Expr → Bool
  | .nil, xs => (match xs with
    | [] => true
    | _ => false)
  | .cons a b, xs => (match xs with
    | y :: ys => notStar y && (chkT a y && chkTs b ys)
    | _ => false)
  | _, _ => false
end
/-- a comprehension on one line with a plain name -/
def swB (y : Str) (py : Pos) : Expr → Bool
  | .ListComp _ _ scope pos => (py.line == pos.line) && !(scope.names.any fun (n, k) => n == y && (k == .local || k == .cell))
  | _ => false
def isLc : E ι → Bool
  | .lc _ _ _ _ _ _ => true
  | _ => false
/-- a, b, c = x, y, z with plain local names -/
def par3B (i j l : Nat) (tg e : Expr) : Bool := match tg, e with
  | .Tuple [.Name x px, .Name y py, .Name z pz] _ _, .Tuple [a, b, c] _ _ => decide (L.N[i]? = some x) && (decide (L.N[j]? = some y) && (decide (L.N[l]? = some z) && (decide (x ≠ y) && (decide (x ≠ z) && (decide (y ≠ z) && (decide (L.sc.names.lookup x = some .local) && (decide (L.sc.names.lookup y = some .local) && (decide (L.sc.names.lookup z = some .local) &&
      (py.line == px.line && (pz.line == px.line && (notStar a && (notStar b && (notStar c && (!(foldedForSure 8 a && (foldedForSure 8 b && foldedForSure 8 c)) && !(constantsAlone 8 a && (constantsAlone 8 b && constantsAlone 8 c))))))))))))))))
  | _, _ => false
/-- a, b = x, y with plain local names -/
def parB (i j : Nat) (tg e : Expr) : Bool := match tg, e with
  | .Tuple [.Name y py, .Name z pz] _ _, .Tuple [a, b] _ _ => decide (L.N[i]? = some y) && (decide (L.N[j]? = some z) && (decide (y ≠ z) && (decide (L.sc.names.lookup y = some .local) && (decide (L.sc.names.lookup z = some .local) && (pz.line == py.line &&
      (notStar a && (notStar b && (!(foldedForSure 8 a && foldedForSure 8 b) && !(constantsAlone 8 a && constantsAlone 8 b)))))))))
  | _, _ => false
end
section
variable {ι : Type}
mutual
def chkS : S ι → Look ι → Stmt → Bool
  | .pass, L, x => (match x with
    | .Pass _ => true
    | _ => false)
  | .asg t e, L, x => (match x with
    | .Assign [y] z _ => notStar y && (plainAsg L.sc y z && (chkT L t y && chk e L z))
    | _ => false)
  | .par i j es, L, x => (match x with
    | .Assign [y] (.Tuple zs k p) _ => !L.hot && (parB L i j y (.Tuple zs k p) && chkL es L zs)
    | _ => false)
  | .exp e, L, x => (match x with
    | .Expr z _ => noComp z && chk e L z
    | _ => false)
  | .ret e, L, x => (match x with
    | .Return (some z) _ => chk e L z
    | _ => false)
  | .retN, L, x => (match x with
    | .Return none _ => true
    | _ => false)
  | .ifs c a b, L, x => (match x with
    | .If y zs ws _ => chk c L y && (chkB a L zs && chkB b L ws)
    | _ => false)
  | .whl c b, L, x => (match x with
    | .While y zs [] _ => !L.hot && (chk c L y && chkB b L zs)
    | _ => false)
  | .for_ t e b, L, x => (match x with
    | .For y z ws [] _ => !L.hot && ((!(setE z) && goodTg z y) && (chkT L t y && (chk e L z && chkB b L ws)))
    | _ => false)
  | .setLc i e, L, x => (match x with
    | .Assign [.Name y py] z spos => !L.hot && (decide (L.N[i]? = some y) && (decide (L.sc.names.lookup y = some .local) && (swB y py z && (isLc e && chk e L z))))
    | _ => false)
  | .raise u sups, L, x => (match x with
    | .Raise (some (.Call (.Name y _) [.Constant (.str _) _ _] [] _)) none _ => !L.hot && (decide (y = u) && (decide ((u, sups) ∈ L.cl) && glB L.sc y))
    | _ => false)
  | .tryE u i a b, L, x => (match x with
    | .Try body [.ExceptHandler (some (.Name y _)) (some n) (b₀ :: suite) _] [] [] _ => !L.hot && (L.bc.isNone && (decide (y = u) && ((L.cl.any fun p => decide (p.1 = u)) && (glB L.sc y && (decide (L.N[i]? = some n) && (decide (L.sc.names.lookup n = some .local) && (chkB a L body && chkB b { L with hot := true } (b₀ :: suite))))))))
    | _ => false)
  | .aug i o e, L, x => (match x with
    | .AugAssign (.Name y _) op z _ => decide (op = opOf o) && (augOk o && (decide (L.N[i]? = some y) && (locB L.sc L.bc y && chk e L z)))
    | _ => false)
  | .augS a j o e, L, x => (match x with
    | .AugAssign (.Subscript y w _) op z _ => decide (op = opOf o) && (augOk o && (plainIx w && (chk a L y && (chk j L w && chk e L z))))
    | _ => false)
  | .par3 i j l es, L, x => (match x with
    | .Assign [y] (.Tuple zs k p) _ => !L.hot && (par3B L i j l y (.Tuple zs k p) && chkL es L zs)
    | _ => false)
  | .bad, _, _ => true
  | _, _, _ => false
def chkB : S ι → Look ι → List Stmt → Bool
  | .nil, L, xs => (match xs with
    | [] => true
    | _ => false)
  | .cons a b, L, xs => (match xs with
    | y :: ys => chkS a L y && chkB b L ys
    | _ => false)
  | _, _, _ => false
end
end

section
variable {ι : Type} {rx : PySem.W.Frag → Exc → Value → Option Addr → Hp → Prop} {L : Look ι} {call : ι → List D → MH → Res D} {k : Nat} {W : WX} {X : Cx}
theorem pg_sub' {o i : Expr} {fo fi : Env → MH → Res D} {pos : Pos} (h1 : PE X o (SE (kx X) rx W fo)) (h2 : PE X i (SE (kx X) rx W fi)) (hp : plainIx i = true) : PG X (.Subscript o i pos) (SG (kx X) rx W fun d v m => (fo v m).bind fun x m => (fi v m).bind fun y m => (setAt x y d m).bind fun _ m => .ok v m) :=
  PG.weak (pg_sub h1 h2 set_list (by intro _; cases i <;> first | rfl | cases hp)) fun v σ H Q ⟨b, env, hd, G, m, ρ, F, d, R, p⟩ => by
    refine ⟨b, env, (d, v) :: hd, G, m, ρ, F, R, p.bind.imp (fun x m1 p1 ρ1 F1 H1 vx R1 => ?_) fun _ _ z ρ' F' H' c dd R' => z ρ' F' σ H' c dd env (R'.held fun _ => List.mem_cons_of_mem _)⟩
    refine ⟨b, env, (x, vx) :: (d, v) :: hd, G, m1, ρ1, F1, R1, p1.bind.imp (fun y m2 p2 ρ2 F2 H2 vy R2 => ?_) fun _ _ z ρ' F' H' c dd R' => z ρ' F' σ H' c dd env (R'.held fun _ z => List.mem_cons_of_mem _ (List.mem_cons_of_mem _ z))⟩
    have R3 := R2.held (hd' := hd) fun _ z => List.mem_cons_of_mem _ (List.mem_cons_of_mem _ (List.mem_cons_of_mem _ z))
    have hx : Rep (kx X) F2 ρ2 m2 x vx := R2.hd (x, vx) (by simp)
    have hw : Rep (kx X) F2 ρ2 m2 d v := R2.hd (d, v) (by simp)
    exact set_rep R3 hx R2.top hw (p2.bind.imp (fun _ m' q ρ' F' H' R' => q ρ' F' σ H' R') fun _ _ z => z)
mutual
theorem chkT_ok (C : Ctx rx L call k W X) : ∀ (t : T ι) {x : Expr}, chkT L t x = true → PG X x (SG (kx X) rx W (tgt call t).g)
  | .name i, x, h => by
    cases x <;> first | cases h | skip
    simp only [chkT, Bool.and_eq_true, decide_eq_true_eq] at h
    obtain ⟨h1, h2⟩ := h
    obtain ⟨l1, l2⟩ := locB_ok C h2
    exact pg_name' (by rw [C.hN]; exact C.nd) (by rw [C.hN]; exact h1) l1 l2
  | .tup n ts, x, h => by
    cases x <;> first | cases h | skip
    simp only [chkT, Bool.and_eq_true, decide_eq_true_eq, Bool.not_eq_true'] at h
    exact pg_tup' (C.calm h.1) (chkTs_ok C ts h.2.2).1 h.2.1 (chkTs_ok C ts h.2.2).2
  | .sub o i, x, h => by
    cases x <;> first | cases h | skip
    simp only [chkT, Bool.and_eq_true, decide_eq_true_eq] at h
    exact pg_sub' (chk_ok o C h.2.1).pe (chk_ok i C h.2.2).pe h.1
  | .nil, x, h => by cases h
  | .cons _ _, x, h => by cases h
theorem chkTs_ok (C : Ctx rx L call k W X) : ∀ (t : T ι) {xs : List Expr}, chkTs L t xs = true → PGs X xs (SGs (kx X) rx W (tgt call t).gs) ∧ xs.all notStar = true
  | .nil, xs, h => by
    cases xs with
    | nil => exact ⟨pgs_nil', rfl⟩
    | cons => cases h
  | .cons a b, xs, h => by
    cases xs with
    | nil => cases h
    | cons y ys =>
      simp only [chkTs, Bool.and_eq_true] at h
      obtain ⟨i1, i2⟩ := chkTs_ok C b h.2.2
      exact ⟨pgs_cons' (chkT_ok C a h.2.1) i1 h.1, by simp only [List.all_cons, Bool.and_eq_true]; exact ⟨h.1, i2⟩⟩
  | .name _, xs, h => by cases h
  | .tup _ _, xs, h => by cases h
  | .sub _ _, xs, h => by cases h
end

theorem filter_short {sc : Scope} {env : PySem.Env} (hs : env.scope = sc) (line : Nat) : ∀ ts : List Expr, (ts.any fun t => match t with
    | .Name y _ => decide (sc.names.lookup y ≠ some .local)
    | _ => true) = true → (ts.filterMap fun
    | .Name id pos => if env.kindOf id == some .local && pos.line == line then some id else none
    | _ => none).length ≠ ts.length := by
  intro ts h
  have le : ∀ (f : Expr → Option Str) (l : List Expr), (l.filterMap f).length ≤ l.length := fun f l => List.length_filterMap_le f l
  induction ts with
  | nil => simp at h
  | cons t ts ih =>
    rw [List.filterMap_cons]
    simp only [List.any_cons, Bool.or_eq_true] at h
    split
    · have := le (fun
        | .Name id pos => if env.kindOf id == some .local && pos.line == line then some id else none
        | _ => none) ts
      simp only [List.length_cons]
      omega
    · rename_i y hy
      rcases h with h | h
      · exfalso
        cases t with
        | Name id pos =>
          simp only at hy h
          split at hy
          · rename_i hc
            simp only [Bool.and_eq_true, beq_iff_eq] at hc
            have h1 : sc.names.lookup id = some .local := by rw [← hs]; exact hc.1
            exact of_decide_eq_true h h1
          · cases hy
        | _ => cases hy
      · have := ih h
        simp only [List.length_cons]
        omega
theorem plain_ok {sc : Scope} {env : PySem.Env} {tg e : Expr} {l : Nat} (hs : env.scope = sc) (h : plainAsg sc tg e = true) : swapsWithSole [tg] e l env = pure false ∧ swappedStores [tg] e env = pure none := by
  unfold plainAsg at h
  simp only [Bool.and_eq_true] at h
  obtain ⟨h0, h1⟩ := h
  refine ⟨swaps_ok h0, ?_⟩
  unfold swappedStores
  cases tg with
  | Tuple ts k p =>
    cases e with
    | Tuple vs k2 p2 =>
      simp only [tupE, Bool.not_true, Bool.false_or, Bool.or_eq_true, decide_eq_true_eq, Bool.and_eq_true] at h1
      simp only
      split
      · rfl
      · rename_i hl
        simp only [Bool.or_eq_true, Bool.not_eq_true', Bool.or_eq_false_iff, beq_eq_false_iff_ne, bne_iff_ne, not_or, ne_eq, Decidable.not_not] at hl
        split
        · rfl
        · split
          · rfl
          · rename_i hn
            split
            · rfl
            · rename_i hf
              exfalso
              rcases h1 with ((h1 | h1) | h1) | h1
              · exact h1 hl.1.2.symm
              · obtain ⟨⟨g1, g2⟩, g3⟩ := hl
                exact g1 ⟨h1.1, h1.2⟩
              · exact hf h1
              · simp only [Bool.or_eq_true, bne_iff_ne, not_or, ne_eq, Decidable.not_not] at hn
                exact filter_short hs _ ts h1 hn.1
    | _ => rfl
  | List ts p =>
    cases e with
    | Tuple vs k2 p2 => simp [tupE] at h1
    | _ => rfl
  | _ => cases e <;> rfl

theorem par_ok {env : PySem.Env} {i j : Nat} {tg e : Expr} (hs : env.scope = L.sc) (hk : env.scope.kind = .function) (h : parB L i j tg e = true) : ∃ y z py pz k1 p1 a b k2 p2, tg = .Tuple [.Name y py, .Name z pz] k1 p1 ∧ e = .Tuple [a, b] k2 p2 ∧ L.N[i]? = some y ∧ L.N[j]? = some z ∧ y ≠ z ∧
    L.sc.names.lookup y = some .local ∧ L.sc.names.lookup z = some .local ∧ notStar a = true ∧ notStar b = true ∧ swappedStores [tg] e env = pure (some [y, z]) := by
  unfold parB at h
  split at h
  · rename_i y py z pz k1 p1 a b k2 p2
    simp only [Bool.and_eq_true, decide_eq_true_eq, Bool.not_eq_true', beq_iff_eq] at h
    obtain ⟨h1, h2, h3, h4, h5, h6, h7, h8, h9, h10⟩ := h
    refine ⟨y, z, py, pz, k1, p1, a, b, k2, p2, rfl, rfl, h1, h2, h3, h4, h5, h7, h8, ?_⟩
    have ky : env.kindOf y = some .local := by show env.scope.names.lookup y = _; rw [hs]; exact h4
    have kz : env.kindOf z = some .local := by show env.scope.names.lookup z = _; rw [hs]; exact h5
    have hb : env.blockKind = .function := by unfold PySem.Env.blockKind; rw [hk]; rfl
    have hyz : (z == y) = false := by rw [beq_eq_false_iff_ne]; exact fun e => h3 e.symm
    have hyz' : (y == z) = false := by rw [beq_eq_false_iff_ne]; exact h3
    unfold swappedStores
    simp only [List.length_cons, List.length_nil, List.any_cons, List.any_nil, hb, ky, kz, Expr.pos, List.head?_cons, Option.map_some, Option.getD_some, List.filterMap_cons, List.filterMap_nil, List.all_cons, List.all_nil, Bool.and_true, h6, h9, h10]
    simp [List.eraseDups_cons, hyz, hyz', h6, h3, Ne.symm h3]
    intro q
    exfalso
    rcases q with q | q
    · cases a with
      | Starred => cases h7
      | _ => cases q
    · cases b with
      | Starred => cases h8
      | _ => cases q
  · cases h
theorem par3_ok {env : PySem.Env} {i j l : Nat} {tg e : Expr} (hs : env.scope = L.sc) (hk : env.scope.kind = .function) (h : par3B L i j l tg e = true) : ∃ x y z px py pz k1 p1 a b c k2 p2, tg = .Tuple [.Name x px, .Name y py, .Name z pz] k1 p1 ∧ e = .Tuple [a, b, c] k2 p2 ∧ L.N[i]? = some x ∧ L.N[j]? = some y ∧ L.N[l]? = some z ∧ x ≠ y ∧ x ≠ z ∧ y ≠ z ∧
    L.sc.names.lookup x = some .local ∧ L.sc.names.lookup y = some .local ∧ L.sc.names.lookup z = some .local ∧ swappedStores [tg] e env = pure (some [x, y, z]) := by
  unfold par3B at h
  split at h
  · rename_i x px y py z pz k1 p1 a b c k2 p2
    simp only [Bool.and_eq_true, decide_eq_true_eq, Bool.not_eq_true', beq_iff_eq] at h
    obtain ⟨h1, h2, h3, n1, n2, n3, l1, l2, l3, e1, e2, s1, s2, s3, f1, f2⟩ := h
    refine ⟨x, y, z, px, py, pz, k1, p1, a, b, c, k2, p2, rfl, rfl, h1, h2, h3, n1, n2, n3, l1, l2, l3, ?_⟩
    have kx : env.kindOf x = some .local := by show env.scope.names.lookup x = _; rw [hs]; exact l1
    have ky : env.kindOf y = some .local := by show env.scope.names.lookup y = _; rw [hs]; exact l2
    have kz : env.kindOf z = some .local := by show env.scope.names.lookup z = _; rw [hs]; exact l3
    have hb : env.blockKind = .function := by unfold PySem.Env.blockKind; rw [hk]; rfl
    have b1 : (y == x) = false := by rw [beq_eq_false_iff_ne]; exact fun e => n1 e.symm
    have b2 : (z == x) = false := by rw [beq_eq_false_iff_ne]; exact fun e => n2 e.symm
    have b3 : (z == y) = false := by rw [beq_eq_false_iff_ne]; exact fun e => n3 e.symm
    unfold swappedStores
    simp only [List.length_cons, List.length_nil, List.any_cons, List.any_nil, hb, kx, ky, kz, Expr.pos, List.head?_cons, Option.map_some, Option.getD_some, List.filterMap_cons, List.filterMap_nil, List.all_cons, List.all_nil, Bool.and_true, e1, e2, f1, f2]
    simp [List.eraseDups_cons, b1, b2, b3, n1, n2, n3, Ne.symm n1, Ne.symm n2, Ne.symm n3, List.filter]
    intro q
    exfalso
    rcases q with q | q | q
    · cases a <;> first | (cases s1; done) | cases q
    · cases b <;> first | (cases s2; done) | cases q
    · cases c <;> first | (cases s3; done) | cases q
  · cases h
/-- a try's body's context -/
theorem Ctx.tr (C : Ctx rx L call k W X) (hh : L.hot = false) (hbc : L.bc = none) {W' : WX} {pn : List (Addr × Obj)} {xe : Value → Shared → Prop} (tk : Takes (X.tr pn xe) W') : Ctx rx L call k W' (X.tr pn xe) :=
  { hN := C.hN, hs := C.hs, nd := C.nd, calm := C.calm, fn := C.fn, room := C.room, units := C.units, smd := C.smd, gd := C.gd, pass := fun _ => passAt tk, calls := C.calls, mks := C.mks, lens := C.lens, cw := C.cw, free := C.free, glb := C.glb, tk := fun _ => tk, top := fun h1 h2 => C.top h1 h2, cl := C.cl, rxd := C.rxd, exf := C.exf }
/-- an except suite's context -/
theorem Ctx.suite (C : Ctx rx L call k W X) (a : Addr) (pn : List (Addr × Obj)) : Ctx rx { L with hot := true } call k W0 (X.suite a pn) :=
  { hN := C.hN, hs := C.hs, nd := C.nd, calm := fun h => (by cases h), fn := C.fn, room := fun h => (by cases h), units := C.units, smd := C.smd, gd := C.gd, pass := fun h => (by cases h), calls := C.calls, mks := C.mks, lens := C.lens, cw := C.cw, free := C.free, glb := C.glb, tk := fun h => (by cases h), top := fun h => (by cases h), cl := C.cl, rxd := C.rxd, exf := C.exf }
theorem setLc_ok (C : Ctx rx L call k W X) (hh : L.hot = false) (hk : X.env.scope.kind = .function) {i : Nat} {y : Str} {py pos pos2 : Pos} {mu : Bool} {own : List (Str × Nat)} {t : Pt} {it c e : E ι} {elt : Expr} {gs : List Comprehension} {scope : Scope} (h1 : L.N[i]? = some y) (h2 : L.sc.names.lookup y = some .local)
    (h3 : (py.line == pos2.line) = true) (h4 : (scope.names.any fun (n, k) => n == y && (k == .local || k == .cell)) = false)
    (it_ok : ∀ {L : Look ι} {W : WX} {X : Cx} (C : Ctx rx L call k W X) {x : Expr}, chk it L x = true → SimE X rx W (sem call it) x) (c_ok : ∀ {L : Look ι} {W : WX} {X : Cx} (C : Ctx rx L call k W X) {x : Expr}, chk c L x = true → SimE X rx W (sem call c) x) (e_ok : ∀ {L : Look ι} {W : WX} {X : Cx} (C : Ctx rx L call k W X) {x : Expr}, chk e L x = true → SimE X rx W (sem call e) x)
    (h : chk (.lc mu own t it c e) L (.ListComp elt gs scope pos2) = true) : PS X (.Assign [.Name y py] (.ListComp elt gs scope pos2) pos) (SS (kx X) rx W (exec call (.setLc i (.lc mu own t it c e)))) := by
  match gs, h with
  | [⟨tg, iter, ifs, 0⟩], h =>
    simp only [chk, Bool.and_eq_true, Bool.not_eq_true'] at h
    obtain ⟨_, b1, b2, b3, b4, b5, b6⟩ := h
    have hc := C.calm hh
    have hB : ∀ (s : Shared) (H : Hp) (Cc : Addr) (cl : List (Str × Addr)) (fp : List Addr), Ctx rx { L with sc := relS scope L.sc, bc := some scope } call k W0 (X.blk s H scope (compEnvC scope cl Cc X.env) fp) := fun s H Cc cl fp => C.blk hh scope s H Cc cl fp
    have hkk : ∀ (s : Shared) (H : Hp) (Cc : Addr) (cl : List (Str × Addr)) (fp : List Addr), kx (X.blk s H scope (compEnvC scope cl Cc X.env) fp) = k0 X.K := fun s H Cc cl fp => kx_calm (X := X.blk s H scope (compEnvC scope cl Cc X.env) fp) hc
    obtain ⟨b2, b2'⟩ := b2
    have hpi := (it_ok C b3).pi tg b2'
    have hset : ∀ x, foldedSetIterable iter X.env x = pure x := by intro x; cases iter <;> first | rfl | cases b2
    rw [kx_calm hc] at hpi ⊢
    exact ps_setLc' (mu := mu) hc (by rw [C.hN]; exact C.nd) (by rw [C.hN]; exact h1) (by rw [C.hs]; exact h2) (sw_true hk (by rw [C.hs]; exact h2) h3 h4) hpi (by rw [C.hN, C.hs]; exact blkOk_by b1) (fun s H Cc cl fp => by
          have := chkP_ok (hB s H Cc cl fp) hh t b4
          rw [hkk] at this
          exact this) (fun s H Cc cl fp => by
          have := ifs_ok (fun y q => (c_ok (hB s H Cc cl fp) q).pt) b5
          rw [hkk] at this
          exact this) (fun s H Cc cl fp => by
          have := (e_ok (hB s H Cc cl fp) b6).pe
          rw [hkk] at this
          exact this) hset
mutual
theorem chkS_ok : ∀ (a : S ι) {L : Look ι} {W : WX} {X : Cx} (C : Ctx rx L call k W X) (hk : X.env.scope.kind = .function) (hp : PassesOwn (model X.prog X.w) X.A X.env X.xe) {x : Stmt}, chkS a L x = true → PS X x (SS (kx X) rx W (exec call a))
  | .pass, L, W, X, C, hk, hp, x, h => by
    cases x <;> first | exact ps_pass' | cases h
  | .asg t e, L, W, X, C, hk, hp, x, h => by
    cases x <;> first | cases h | skip
    rename_i ts z pos
    match ts, h with
    | [y], h =>
      simp only [chkS, Bool.and_eq_true] at h
      obtain ⟨h0, h1, h2, h3⟩ := h
      obtain ⟨q1, q2⟩ := plain_ok (l := pos.line) C.hs h1
      exact ps_asg' (chk_ok e C h3).pe (chkT_ok C t h2) q1 q2 h0
  | .par i j es, L, W, X, C, hk, hp, x, h => by
    cases x <;> first | cases h | skip
    rename_i ts z pos
    match ts, z, h with
    | [y], .Tuple zs k' p, h =>
      simp only [chkS, Bool.and_eq_true, Bool.not_eq_true'] at h
      obtain ⟨hh, h1, h2⟩ := h
      obtain ⟨y1, z1, py, pz, k1, p1, a, b, k2, p2, rfl, e2, n1, n2, n3, n4, n5, n6, n7, n8⟩ := par_ok C.hs hk h1
      cases e2
      have hij : i ≠ j := fun e => by subst e; rw [n1] at n2; cases n2; exact n3 rfl
      exact ps_par' (C.calm hh) (by rw [C.hN]; exact C.nd) (by rw [C.hN]; exact n1) (by rw [C.hN]; exact n2) hij (by rw [C.hs]; exact n4) (by rw [C.hs]; exact n5) (chkL_ok es C h2) n8
  | .exp e, L, W, X, C, hk, hp, x, h => by
    cases x <;> first | cases h | skip
    simp only [chkS, Bool.and_eq_true] at h
    exact ps_exp' (chk_ok e C h.2).pe h.1
  | .ret e, L, W, X, C, hk, hp, x, h => by
    cases x <;> first | cases h | skip
    rename_i z pos
    cases z with
    | none => cases h
    | some z => exact ps_ret' (chk_ok e C h).pe
  | .retN, L, W, X, C, hk, hp, x, h => by
    cases x <;> first | cases h | skip
    rename_i z pos
    cases z with
    | none => exact ps_retN'
    | some z => cases h
  | .ifs c a b, L, W, X, C, hk, hp, x, h => by
    cases x <;> first | cases h | skip
    simp only [chkS, Bool.and_eq_true] at h
    exact ps_ifs' (chk_ok c C h.1).pt (chkB_ok a C hk hp h.2.1) (chkB_ok b C hk hp h.2.2)
  | .whl c b, L, W, X, C, hk, hp, x, h => by
    cases x <;> first | cases h | skip
    rename_i y zs ws pos
    cases ws with
    | cons => cases h
    | nil =>
      simp only [chkS, Bool.and_eq_true] at h
      exact ps_whl' hp (chk_ok c C h.2.1).pt (chkB_ok b C hk hp h.2.2)
  | .for_ t e b, L, W, X, C, hk, hp, x, h => by
    cases x <;> first | cases h | skip
    rename_i y z ws vs pos
    cases vs with
    | cons => cases h
    | nil =>
      simp only [chkS, Bool.and_eq_true, Bool.not_eq_true'] at h
      obtain ⟨hh, ⟨h0, h0'⟩, h1, h2, h3⟩ := h
      exact ps_for' hp (C.calm hh) ((chk_ok e C h2).pi _ h0') (chkT_ok C t h1) (chkB_ok b C hk hp h3) (by intro x; cases z <;> first | rfl | cases h0)
  | .nil, L, W, X, C, hk, hp, x, h => by cases h
  | .cons _ _, L, W, X, C, hk, hp, x, h => by cases h
  | .setLc i e, L, W, X, C, hk, hp, x, h => by
    cases x <;> first | cases h | skip
    rename_i ts z pos
    match ts, h with
    | [.Name y py], h =>
      simp only [chkS, Bool.and_eq_true, decide_eq_true_eq, Bool.not_eq_true'] at h
      obtain ⟨hh, h1, h2, h3, h4, h5⟩ := h
      cases e <;> first | cases h4 | skip
      rename_i mu own t it c e
      cases z <;> first | cases h3 | skip
      rename_i elt gs scope pos2
      simp only [swB, Bool.and_eq_true, Bool.not_eq_true'] at h3
      exact setLc_ok C hh hk h1 h2 h3.1 h3.2 (fun {L} {W} {X} C {x} => chk_ok it C) (fun {L} {W} {X} C {x} => chk_ok c C) (fun {L} {W} {X} C {x} => chk_ok e C) h5
  | .raise u sups, L, W, X, C, hk, hp, x, h => by
    unfold chkS at h
    split at h
    · simp only [Bool.and_eq_true, decide_eq_true_eq, Bool.not_eq_true'] at h
      obtain ⟨hh, rfl, hm, hg⟩ := h
      obtain ⟨g1, g2⟩ := glB_ok C hg
      rw [C.rxd]
      exact ps_raise' (C.calm hh) (C.tk hh) hm (C.exf _ hm) g1 g2
    · cases h
  | .tryE u i a b, L, W, X, C, hk, hp, x, h => by
    unfold chkS at h
    split at h
    · simp only [Bool.and_eq_true, decide_eq_true_eq, Bool.not_eq_true', Option.isNone_iff_eq_none] at h
      obtain ⟨hh, hbc, rfl, hx, hg, h1, h2, h3, h4⟩ := h
      obtain ⟨g1, g2⟩ := glB_ok C hg
      obtain ⟨t1, t2⟩ := C.top hh hbc
      obtain ⟨q, hq, hqe⟩ := List.any_eq_true.mp hx
      have hr := C.rxd
      rw [hr]
      exact ps_try' C.cl (C.calm hh) t1 t2 (by rw [C.hN]; exact C.nd) (by rw [C.hN]; exact h1) (by show X.env.scope.names.lookup _ = _; rw [C.hs]; exact h2) g1 g2 (List.mem_map.mpr ⟨q, hq, of_decide_eq_true hqe⟩) C.exf (C.tk hh)
        (fun W' pn xe tk hp' => by
          have C' := C.tr hh hbc tk
          have q := chkB_ok a C' hk hp' h3
          rw [hr] at q
          exact q) (fun aa oe pn => by
          have C' := C.suite aa ((aa, oe) :: pn)
          have q := chkB_ok b C' hk PassesOwn.never h4
          rw [hr] at q
          exact q)
    · cases h
  | .aug i o e, L, W, X, C, hk, hp, x, h => by
    unfold chkS at h
    split at h
    · simp only [Bool.and_eq_true, decide_eq_true_eq] at h
      obtain ⟨rfl, ho, h1, h2, h3⟩ := h
      obtain ⟨l1, l2⟩ := locB_ok C h2
      exact ps_aug' ho (by rw [C.hN]; exact C.nd) (by rw [C.hN]; exact h1) l1 l2 (chk_ok e C h3).pe
    · cases h
  | .augS a j o e, L, W, X, C, hk, hp, x, h => by
    unfold chkS at h
    split at h
    · simp only [Bool.and_eq_true, decide_eq_true_eq] at h
      obtain ⟨rfl, ho, h1, h2, h3, h4⟩ := h
      exact ps_augS' ho h1 (chk_ok a C h2).pe (chk_ok j C h3).pe (chk_ok e C h4).pe
    · cases h
  | .par3 i j l es, L, W, X, C, hk, hp, x, h => by
    unfold chkS at h
    split at h
    · simp only [Bool.and_eq_true, Bool.not_eq_true'] at h
      obtain ⟨hh, h1, h2⟩ := h
      obtain ⟨x1, y1, z1, px, py, pz, k1, p1, a, b, c, k2, p2, rfl, e2, n1, n2, n3, d1, d2, d3, l1, l2, l3, hw⟩ := par3_ok C.hs hk h1
      cases e2
      have hij : i ≠ j := fun e => by subst e; rw [n1] at n2; cases n2; exact d1 rfl
      have hil : i ≠ l := fun e => by subst e; rw [n1] at n3; cases n3; exact d2 rfl
      have hjl : j ≠ l := fun e => by subst e; rw [n2] at n3; cases n3; exact d3 rfl
      exact ps_par3' (C.calm hh) (by rw [C.hN]; exact C.nd) (by rw [C.hN]; exact n1) (by rw [C.hN]; exact n2) (by rw [C.hN]; exact n3) hij hil hjl (by rw [C.hs]; exact l1) (by rw [C.hs]; exact l2) (by rw [C.hs]; exact l3) (chkL_ok es C h2) hw
    · cases h
  | .bad, L, W, X, C, hk, hp, x, h => ⟨fun _ _ σ H En _ ⟨b, env, hd, G, m, ρ, F, R, p⟩ => p.elim⟩
theorem chkB_ok : ∀ (a : S ι) {L : Look ι} {W : WX} {X : Cx} (C : Ctx rx L call k W X) (hk : X.env.scope.kind = .function) (hp : PassesOwn (model X.prog X.w) X.A X.env X.xe) {xs : List Stmt}, chkB a L xs = true → PSs X xs (SS (kx X) rx W (exec call a))
  | .nil, L, W, X, C, hk, hp, xs, h => by
    cases xs with
    | nil => exact pss_nil'
    | cons => cases h
  | .cons a b, L, W, X, C, hk, hp, xs, h => by
    cases xs with
    | nil => cases h
    | cons y ys =>
      simp only [chkB, Bool.and_eq_true] at h
      exact pss_cons' (chkS_ok a C hk hp h.1) (chkB_ok b C hk hp h.2)
  | .pass, _, _, _, _, _, _, _, h | .asg _ _, _, _, _, _, _, _, _, h | .par _ _ _, _, _, _, _, _, _, _, h | .exp _, _, _, _, _, _, _, _, h | .ret _, _, _, _, _, _, _, _, h | .retN, _, _, _, _, _, _, _, h | .ifs _ _ _, _, _, _, _, _, _, _, h | .whl _ _, _, _, _, _, _, _, _, h | .for_ _ _ _, _, _, _, _, _, _, _, h
  | .setLc _ _, _, _, _, _, _, _, _, h | .raise _ _, _, _, _, _, _, _, _, h | .tryE _ _ _ _, _, _, _, _, _, _, _, h | .aug _ _ _, _, _, _, _, _, _, _, h | .augS _ _ _ _, _, _, _, _, _, _, _, h | .par3 _ _ _ _, _, _, _, _, _, _, _, h | .bad, _, _, _, _, _, _, _, h => by cases h
end
end
end Fw

set_option Elab.async false
set_option linter.all false
set_option maxRecDepth 100000
set_option maxHeartbeats 2000000
set_option autoImplicit false
/-! ## Fw10: a whole program does what run says; a law's end -/
namespace Fw
open PySem PySem.Spec PyProof.Rows L2

/-! ### leaving a frame -/
theorem D.bd_le {n k : Nat} (h : n ≤ k) : (∀ d : D, d.bd n = true → d.bd k = true) := by
  have both : (∀ d : D, d.bd n = true → d.bd k = true) ∧ True := ⟨fun d => D.rec (motive_1 := fun d => d.bd n = true → d.bd k = true) (motive_2 := fun ds => bdL n ds = true → bdL k ds = true)
    (by intros; rfl) (by intros; rfl) (by intros; rfl) (by intros; rfl) (fun xs ih q => by unfold D.bd at q ⊢; exact ih q) (fun xs ih q => by unfold D.bd at q ⊢; exact ih q)
    (fun l i q => by unfold D.bd at q ⊢; simp only [decide_eq_true_eq] at q ⊢; omega) (fun ks xs ih q => by unfold D.bd at q ⊢; exact ih q) (fun xs ih q => by unfold D.bd at q ⊢; exact ih q) (fun x q => by unfold D.bd at q; cases q) (fun c ns xs ih q => by unfold D.bd at q ⊢; exact ih q) (by intros; rfl) (by intros; rfl)
    (fun x xs h1 h2 q => by unfold bdL at q ⊢; simp only [Bool.and_eq_true] at q ⊢; exact ⟨h1 q.1, h2 q.2⟩) d, trivial⟩
  exact both.1
theorem bdL_le {n k : Nat} (h : n ≤ k) : ∀ ds : List D, bdL n ds = true → bdL k ds = true
  | [], _ => rfl
  | x :: xs, q => by
    unfold bdL at q ⊢
    simp only [Bool.and_eq_true] at q ⊢
    exact ⟨D.bd_le h x q.1, bdL_le h xs q.2⟩
theorem MO.bd_le {n k : Nat} (h : n ≤ k) (o : MO) (q : o.bd n = true) : o.bd k = true := by
  cases o with
  | lst xs => exact bdL_le h xs q
section
variable {K : KX} {F H : Hp} {ρ ρ' : Ro} {m m' : MH}
mutual
/-- a value that names no place from level n on -/
theorem Rep.below {n : Nat} (x : ∀ l i, l < n → Lv m l i → ρ' l i = ρ l i ∧ Lv m' l i) : ∀ {d : D} {v : V}, d.bd n = true → Rep K F ρ m d v → Rep K F ρ' m' d v
  | .non, _, _, h => h
  | .bl _, _, _, h => h
  | .int _, _, _, h => h
  | .str _, _, _, h => h
  | .tup xs, v, b, h => by
    unfold Rep at h ⊢
    unfold D.bd at b
    obtain ⟨a, vs, e, q, z, r⟩ := h
    exact ⟨a, vs, e, q, z, RepL.below x b r⟩
  | .lst xs, v, b, h => by
    unfold Rep at h ⊢
    unfold D.bd at b
    obtain ⟨a, vs, e, q, z, r⟩ := h
    exact ⟨a, vs, e, q, z, RepL.below x b r⟩
  | .ref l i, v, b, h => by
    unfold Rep at h ⊢
    unfold D.bd at b
    obtain ⟨e, q⟩ := h
    obtain ⟨e2, q2⟩ := x l i (of_decide_eq_true b) q
    exact ⟨by rw [e, e2], q2⟩
  | .dct ks xs, v, b, h => by
    unfold Rep at h ⊢
    unfold D.bd at b
    obtain ⟨a, vs, e, q, z, r⟩ := h
    exact ⟨a, vs, e, q, z, RepL.below x b r⟩
  | .scr xs, v, b, h => by
    unfold Rep at h ⊢
    unfold D.bd at b
    obtain ⟨a, vs, e, q, z, r⟩ := h
    exact ⟨a, vs, e, q, z, RepL.below x b r⟩
  | .exc _, v, b, h => by
    unfold D.bd at b
    cases b
  | .ins c ns xs, v, b, h => by
    unfold Rep at h ⊢
    unfold D.bd at b
    obtain ⟨a, dx, vs, e, q, z, r⟩ := h
    exact ⟨a, dx, vs, e, q, z, RepL.below x b r⟩
  | .any, v, b, h => by unfold Rep; trivial
theorem RepL.below {n : Nat} (x : ∀ l i, l < n → Lv m l i → ρ' l i = ρ l i ∧ Lv m' l i) : ∀ {ds : List D} {vs : List V}, bdL n ds = true → RepL K F ρ m ds vs → RepL K F ρ' m' ds vs
  | [], _, _, h => h
  | d :: ds, vs, b, h => by
    unfold RepL at h ⊢
    unfold bdL at b
    simp only [Bool.and_eq_true] at b
    obtain ⟨v, r, e, h1, h2⟩ := h
    exact ⟨v, r, e, Rep.below x b.1 h1, RepL.below x b.2 h2⟩
end
theorem ObR.below {n : Nat} (x : ∀ l i, l < n → Lv m l i → ρ' l i = ρ l i ∧ Lv m' l i) {o : MO} {h : Option HO} (b : o.bd n = true) (q : ObR K F ρ m o h) : ObR K F ρ' m' o h := by
  cases o with
  | lst xs =>
    obtain ⟨vs, e, z, r⟩ := q
    exact ⟨vs, e, z, r.below x b⟩
theorem lv_pop {fr : List MO} {r : MH} {l i : Nat} (h : l < r.length) : Lv (fr :: r) l i ↔ Lv r l i := by
  unfold Lv
  rw [get_cons, if_neg (by omega)]
theorem get_pop {fr : List MO} {r : MH} {l i : Nat} {o : MO} (h : get r l i = some o) : get (fr :: r) l i = some o := by
  have := get_lt h
  unfold get
  rw [if_neg (by omega)]
  exact h
theorem Rl.pop {fr : List MO} {r : MH} (R : Rl K F ρ (fr :: r) H) : Rl K F ρ r H := by
  refine ⟨R.fh, fun l i o e => ?_, fun l i l' i' h h' => R.inj l i l' i' ?_ ?_, fun l i o e => R.wf l i o (get_pop e)⟩
  · obtain ⟨h1, h2⟩ := R.ob l i o (get_pop e)
    exact ⟨h1, h2.below (n := l + 1) (fun l' i' hl hv => ⟨rfl, (lv_pop (by have := get_lt e; omega)).mp hv⟩) (R.wf l i o (get_pop e))⟩
  · obtain ⟨o, e⟩ := Option.isSome_iff_exists.mp h
    unfold Lv; rw [get_pop e]; rfl
  · obtain ⟨o, e⟩ := Option.isSome_iff_exists.mp h'
    unfold Lv; rw [get_pop e]; rfl
theorem Rl.push (R : Rl K F ρ m H) : Rl K F ρ ([] :: m) H ∧ Ext F ρ m F ρ ([] :: m) := by
  have up : ∀ {l i o}, get m l i = some o → get ([] :: m) l i = some o := fun h => get_pop h
  have dn : ∀ {l i o}, get ([] :: m) l i = some o → get m l i = some o := fun {l i o} h => by
    unfold get at h
    split at h
    · simp at h
    · exact h
  have x : Ext F ρ m F ρ ([] :: m) := ⟨fun _ _ h => h, fun l i h => by
    obtain ⟨o, e⟩ := Option.isSome_iff_exists.mp h
    exact ⟨rfl, by unfold Lv; rw [up e]; rfl⟩⟩
  have lv : ∀ {l i}, Lv ([] :: m) l i → Lv m l i := fun {l i} h => by
    obtain ⟨o, e⟩ := Option.isSome_iff_exists.mp h
    unfold Lv; rw [dn e]; rfl
  exact ⟨⟨R.fh, fun l i o e => ⟨(R.ob l i o (dn e)).1, (R.ob l i o (dn e)).2.ext x⟩, fun l i l' i' h h' => R.inj l i l' i' (lv h) (lv h'), fun l i o e => R.wf l i o (dn e)⟩, x⟩
end

/-- how a frame is left: what it had stays where it was -/
structure Gone (K : KX) (F : Hp) (ρ : Ro) (fr : List MO) (r : MH) (H : Hp) (d : D) (v : V) (m' : MH) (d' : D) (ρ' : Ro) : Prop where
  rl : Rl K F ρ' m' H
  len : m'.length = r.length
  rep : Rep K F ρ' m' d' v
  old : ∀ l i, Lv r l i → ρ' l i = ρ l i ∧ Lv m' l i
  new : ∀ l i, Lv m' l i → ∃ l' i', Lv (fr :: r) l' i' ∧ ρ' l i = ρ l' i'
theorem leave_ok {K : KX} {F H : Hp} {ρ : Ro} {fr : List MO} {r : MH} {d : D} {v : V} {m' : MH} {d' : D} (R : Rl K F ρ (fr :: r) H) (hv : Rep K F ρ (fr :: r) d v) (h : leave d (fr :: r) = .ok d' m') : ∃ ρ', Gone K F ρ fr r H d v m' d' ρ' := by
  have keep : ∀ {d : D}, d.bd r.length = true → Rep K F ρ (fr :: r) d v → Rep K F ρ r d v := fun hb h => h.below (n := r.length) (fun l i hl q => ⟨rfl, (lv_pop hl).mp q⟩) hb
  have lvlt : ∀ {l i}, Lv r l i → l < r.length := fun {l i} q => by
    obtain ⟨o, e⟩ := Option.isSome_iff_exists.mp q
    exact get_lt e
  have plain : d.bd r.length = true → Gone K F ρ fr r H d v r d ρ := fun hb =>
    ⟨R.pop, rfl, keep hb hv, fun l i q => ⟨rfl, q⟩, fun l i q => ⟨l, i, (lv_pop (lvlt q)).mpr q, rfl⟩⟩
  cases d with
  | ref l i =>
    simp only [leave] at h
    split at h
    · rename_i hl
      subst hl
      cases g : fr[i]? with
      | none => simp only [g] at h; cases h
      | some o =>
        simp only [g] at h
        split at h
        · rename_i hb
          cases r with
          | nil => cases h
          | cons fr2 r2 =>
            simp only [alloc] at h
            split at h
            · rename_i hb2
              cases h
              have gg : get (fr :: fr2 :: r2) (fr2 :: r2).length i = some o := by unfold get; rw [if_pos rfl]; exact g
              obtain ⟨hF, hob⟩ := R.ob _ _ _ gg
              obtain ⟨rfl, _⟩ := hv.ref_of
              generalize ha : ρ (fr2 :: r2).length i = a at *
              have R1 := R.pop
              refine ⟨ρ.put r2.length fr2.length a, ⟨?_, rfl, ?_, fun l i q => ⟨Ro.put_ne fun z => not_lv_end (z.1 ▸ z.2 ▸ q), Lv.snoc.mpr (.inr q)⟩, fun l i q => ?_⟩⟩
              · have x : Ext F ρ (fr2 :: r2) F (ρ.put r2.length fr2.length a) ((fr2 ++ [o]) :: r2) := ⟨fun _ _ h => h, fun l i q => ⟨Ro.put_ne fun z => not_lv_end (z.1 ▸ z.2 ▸ q), Lv.snoc.mpr (.inr q)⟩⟩
                have ne : ∀ l i, Lv (fr2 :: r2) l i → ρ l i ≠ a := fun l i' q z => by
                  have q1 : Lv (fr :: fr2 :: r2) l i' := (lv_pop (lvlt q)).mpr q
                  have q2 : Lv (fr :: fr2 :: r2) (fr2 :: r2).length i := by unfold Lv; rw [gg]; rfl
                  obtain ⟨e1, _⟩ := R.inj _ _ _ _ q1 q2 (z.trans ha.symm)
                  have := lvlt q
                  omega
                have old : ∀ l i, Lv (fr2 :: r2) l i → (ρ.put r2.length fr2.length a) l i = ρ l i := fun l i q => (x.r l i q).1
                refine ⟨R.fh, fun l' i' u e => ?_, fun a1 c a2 c2 h1 h2 z => ?_, fun l' i' u e => ?_⟩
                · rw [get_snoc] at e
                  by_cases q : l' = r2.length ∧ i' = fr2.length
                  · rw [if_pos q] at e
                    obtain ⟨rfl, rfl⟩ := q
                    cases e
                    rw [Ro.put_same]
                    refine ⟨hF, hob.below (n := r2.length + 1) (fun l i hl q => ?_) hb2⟩
                    have q' : Lv (fr2 :: r2) l i := (lv_pop (by simpa using hl)).mp q
                    exact x.r l i q'
                  · rw [if_neg q] at e
                    have hlv' : Lv (fr2 :: r2) l' i' := by unfold Lv; rw [e]; rfl
                    rw [old _ _ hlv']
                    have := R1.ob l' i' u e
                    exact ⟨this.1, this.2.ext x⟩
                · rcases Lv.snoc.mp h1 with ⟨rfl, rfl⟩ | h1 <;> rcases Lv.snoc.mp h2 with ⟨rfl, rfl⟩ | h2
                  · exact ⟨rfl, rfl⟩
                  · rw [Ro.put_same, old _ _ h2] at z
                    exact absurd z.symm (ne _ _ h2)
                  · rw [Ro.put_same, old _ _ h1] at z
                    exact absurd z (ne _ _ h1)
                  · rw [old _ _ h1, old _ _ h2] at z
                    exact R1.inj _ _ _ _ h1 h2 z
                · rw [get_snoc] at e
                  by_cases q : l' = r2.length ∧ i' = fr2.length
                  · rw [if_pos q] at e
                    obtain ⟨rfl, rfl⟩ := q
                    cases e
                    exact hb2
                  · rw [if_neg q] at e
                    exact R1.wf l' i' u e
              · have := Rep.ref (K := K) (F := F) (ρ := ρ.put r2.length fr2.length a) (m := (fr2 ++ [o]) :: r2) (l := r2.length) (i := fr2.length) (Lv.snoc.mpr (.inl ⟨rfl, rfl⟩))
                rw [Ro.put_same] at this
                exact this
              · rcases Lv.snoc.mp q with ⟨rfl, rfl⟩ | q
                · exact ⟨(fr2 :: r2).length, _, by unfold Lv; rw [gg]; rfl, by rw [Ro.put_same, ha]⟩
                · exact ⟨l, i, (lv_pop (lvlt q)).mpr q, Ro.put_ne fun z => not_lv_end (z.1 ▸ z.2 ▸ q)⟩
            · cases h
        · cases h
    · rename_i hl
      cases h
      refine ⟨ρ, plain ?_⟩
      obtain ⟨_, q⟩ := hv.ref_of
      obtain ⟨o, e⟩ := Option.isSome_iff_exists.mp q
      have := get_lt e
      unfold D.bd
      simp at this
      exact decide_eq_true (by omega)
  | _ =>
    simp only [leave] at h
    split at h
    · cases h; exact ⟨ρ, plain (by assumption)⟩
    · cases h
end Fw

set_option Elab.async false
set_option linter.all false
set_option maxRecDepth 100000
set_option maxHeartbeats 2000000
set_option autoImplicit false
/-! ## Fw10a: an own class's __init__ -/
namespace Fw
open PySem PySem.Spec PyProof.Rows L2
section
variable {ι : Type} (L : Look ι)
/-- the attributes set, one by one -/
def chkFs (y : Str) : List Str → E ι → List Stmt → Bool
  | [], .nil, [] => true
  | f :: fs, .cons e es, .Assign [.Attribute (.Name z _) g _] v _ :: r => decide (z = y) && (decide (g = f) && (noComp v && (chk e L v && chkFs y fs es r)))
  | _, _, _ => false
end
section
variable {K : KX} {b : Bs} {env : Env} {hd : List (D × V)} {G : Hp} {m : MH} {ρ : Ro} {F : Hp} {σ : L2.St} {H : Hp}
/-- what stands aside is changed -/
theorem RS.setPin (R : RS K b env hd G m ρ F σ H) {a : Addr} {o : HO} (u : HO) (h : G a = some o) : RS K b env hd (upd G a u) m ρ F σ (upd H a u) := by
  obtain ⟨h1, h2, h3⟩ := R.pin a o h
  refine ⟨⟨fun x w e => ?_, fun l i w e => ?_, R.rl.inj, R.rl.wf⟩, R.len, R.env, R.hd, fun x w e => ?_, R.ml, R.xt⟩
  · have : x ≠ a := fun z => by rw [z, h2] at e; cases e
    rw [upd_ne this]; exact R.rl.fh x w e
  · have : ρ l i ≠ a := h3 l i (by unfold Lv; rw [e]; rfl)
    rw [upd_ne this]; exact R.rl.ob l i w e
  · by_cases z : x = a
    · subst z
      rw [upd_same] at e ⊢
      exact ⟨e, h2, h3⟩
    · rw [upd_ne z] at e ⊢
      exact R.pin x w e
end
theorem putF_new {f : Str} {v : V} : ∀ {fs : List (Str × V)}, (∀ q ∈ fs, q.1 ≠ f) → putF f v fs = fs ++ [(f, v)]
  | [], _ => rfl
  | (g, x) :: r, h => by
    unfold putF
    rw [if_neg (h (g, x) List.mem_cons_self), putF_new fun q hq => h q (List.mem_cons_of_mem _ hq)]
    rfl
section
variable {ι : Type} {rx : PySem.W.Frag → Exc → Value → Option Addr → Hp → Prop} {L : Look ι} {call : ι → List D → MH → Res D} {k : Nat} {W : WX} {X : Cx}
/-- what an exception finds behind some attributes -/
def ExG (K : KX) (rx : PySem.W.Frag → Exc → Value → Option Addr → Hp → Prop) (W : WX) (b : Bs) (env : Env) (hd : List (D × V)) (G : Hp) (a : Addr) : Exc → MH → Prop :=
  fun x m' => ∀ G' ρ' F' σ' H' c dd, (∀ z, z ≠ a → G' z = G z) → (∃ o, G' a = some o) → RS K b env hd G' m' ρ' F' σ' H' → rx K.k x c dd H' → W c dd σ' H'
theorem fs_ok (C : Ctx rx L call k W X) {y : Str} {c : Str} (hN : L.N[0]? = some y) (hv : Vis X.env.scope y) (hd1 : (y == ("__debug__" : Str)) = false) (hd2 : (y == ("__classdict__" : Str)) = false) (hc : Cls X.K (He.ga X.K c)) :
    ∀ (fs : List Str) (es : E ι) (sts : List Stmt), chkFs L y fs es sts = true → (∀ f ∈ fs, NoAttr X.K (He.ga X.K c) f) → fs.Nodup →
      ∃ t, PSs X sts t ∧ ∀ En σ H b env hd G m ρ F a dx done, RS (kx X) b env hd G m ρ F σ H → σ[0]? = some (some (.ref a)) → G a = some (.ins (He.ga X.K c) dx done) → (∀ q ∈ done, q.1 ∉ fs) → done.length + fs.length < 1000 →
        Post (evs call es env m) (fun ds m' => ∀ ρ' F' H' vs G', G' a = some (.ins (He.ga X.K c) dx (done ++ fs.zip vs)) → (∀ z, z ≠ a → G' z = G z) → RS (kx X) b env (ds.zip vs ++ hd) G' m' ρ' F' σ H' → ds.length = vs.length → En.nx σ H')
          (ExG (kx X) rx W b env hd G a) → t En σ H
  | [], es, sts, h, _, _ => by
    cases es <;> first | (simp [chkFs] at h; done) | skip
    cases sts with
    | cons => simp [chkFs] at h
    | nil =>
      refine ⟨_, pss_nil, fun En σ H b env hd G m ρ F a dx done R hσ hG _ _ p => ?_⟩
      have p : ∀ ρ' F' H' (vs : List V) (G' : Hp), G' a = some (.ins (He.ga X.K c) dx (done ++ [].zip vs)) → (∀ z, z ≠ a → G' z = G z) → RS (kx X) b env (([] : List D).zip vs ++ hd) G' m ρ' F' σ H' → ([] : List D).length = vs.length → En.nx σ H' := p
      exact p ρ F H [] G (by rw [hG]; simp) (fun _ _ => rfl) R rfl
  | f :: fs, es, sts, h, hn, nd => by
    cases es <;> first | (simp [chkFs] at h; done) | skip
    rename_i e es
    cases sts with
    | nil => simp [chkFs] at h
    | cons st r =>
      unfold chkFs at h
      split at h
      · rename_i h0 _ _
        cases h0
      · rename_i f' fs' e' es' z zp g gp v p r' q1 q2 q3
        cases q1
        cases q2
        cases q3
        simp only [Bool.and_eq_true, decide_eq_true_eq] at h
        obtain ⟨rfl, rfl, h0, h1, h2⟩ := h
        obtain ⟨t, ht, hq⟩ := fs_ok C hN hv hd1 hd2 hc fs es r h2 (fun x hx => hn x (List.mem_cons_of_mem _ hx)) nd.of_cons
        refine ⟨_, pss_cons (ps_fld (pe_var (by rw [C.hN]; exact hN) hv hd1 hd2) (chk_ok e C h1).pe (swaps_ok h0)) ht, fun En σ H b env hd G m ρ F a dx done R hσ hG hdn hl p => ?_⟩
        have p : Post (((sem call e).e env m).bind fun x m => (evs call es env m).bind fun xs m => .ok (x :: xs) m) _ _ := p
        refine ⟨b, env, hd, G, m, ρ, F, R, p.bind.imp (fun d m1 p1 ρ1 F1 H1 v R1 => ?_) fun x m' z ρ' F' H' c' dd R' => z G ρ' F' σ H' c' dd (fun _ _ => rfl) ⟨_, hG⟩ R'⟩
        refine ⟨.ref a, hσ, a, He.ga X.K c, dx, done, rfl, (R1.pin a _ hG).1, hc, hn g List.mem_cons_self, by simp at hl; omega, ?_⟩
        have hput : putF g v done = done ++ [(g, v)] := putF_new fun q hq e => hdn q hq (by rw [e]; exact List.mem_cons_self)
        have R2 := R1.setPin (.ins (He.ga X.K c) dx (done ++ [(g, v)])) hG
        rw [hput]
        refine hq En σ _ b env ((d, v) :: hd) _ m1 ρ1 F1 a dx (done ++ [(g, v)]) R2 hσ upd_same (fun q hq' => ?_) (by simp at hl ⊢; omega) (p1.bind.imp (fun ds m2 p2 ρ2 F2 H2 vs G2 e1 e2 R3 hlen => ?_) fun x m' z G2 ρ' F' σ' H' c' dd e1 e2 R' => ?_)
        · rcases List.mem_append.mp hq' with hq' | hq'
          · exact fun z => hdn q hq' (List.mem_cons_of_mem _ z)
          · cases List.mem_singleton.mp hq'
            exact (List.nodup_cons.mp nd).1
        · have p2 : ∀ ρ' F' H' (vs : List V) (G' : Hp), G' a = some (.ins (He.ga X.K c) dx (done ++ (g :: fs).zip vs)) → (∀ z, z ≠ a → G' z = G z) → RS (kx X) b env ((d :: ds).zip vs ++ hd) G' m2 ρ' F' σ H' → (d :: ds).length = vs.length → En.nx σ H' := p2
          refine p2 ρ2 F2 H2 (v :: vs) G2 (by rw [e1]; simp) (fun z hz => by rw [e2 z hz, upd_ne hz]) (R3.held fun q hq' => ?_) (by simp [hlen])
          simp only [List.zip_cons_cons, List.cons_append, List.mem_cons, List.mem_append] at hq' ⊢
          rcases hq' with z | z | z <;> simp [z]
        · exact z G2 ρ' F' σ' H' c' dd (fun z hz => by rw [e1 z hz, upd_ne hz]) e2 (R'.held fun _ => List.mem_cons_of_mem _)
      · cases h
/-- an __init__: one look, then the attributes -/
theorem ini_ok (C : Ctx rx L call k W X) (hk : X.env.scope.kind = .function) (hp : PassesOwn (model X.prog X.w) X.A X.env X.xe) {y c u : Str} {sups ns : List Str} {t es : E ι} {tx : Expr} {rs : Stmt} {sts : List Stmt} {pos : Pos}
    (h1 : chk t L tx = true) (h2 : chkS (.raise u sups) L rs = true) (h3 : chkFs L y ns es sts = true) (hN : L.N[0]? = some y) (hv : Vis X.env.scope y) (hd1 : (y == ("__debug__" : Str)) = false) (hd2 : (y == ("__classdict__" : Str)) = false) (hw : (c, ns) ∈ L.wl)
    (nd : ns.Nodup) (hl : ns.length < 1000) :
    ∃ tS, PSs X (.If tx [rs] [] pos :: sts) tS ∧ ∀ En σ H b env hd G m ρ F a dx, RS (kx X) b env hd G m ρ F σ H → σ[0]? = some (some (.ref a)) → G a = some (.ins (He.ga X.K c) dx []) →
      Post (tst call t env m) (fun tr m' => if tr then (ExG (kx X) rx W b env hd G a) ⟨u, sups, []⟩ m' else
          Post (evs call es env m') (fun ds m' => ∀ ρ' F' H' vs G', G' a = some (.ins (He.ga X.K c) dx (ns.zip vs)) → (∀ z, z ≠ a → G' z = G z) → RS (kx X) b env (ds.zip vs ++ hd) G' m' ρ' F' σ H' → ds.length = vs.length → En.nx σ H')
            (ExG (kx X) rx W b env hd G a)) (ExG (kx X) rx W b env hd G a) → tS En σ H := by
  have cw := C.cw _ hw
  obtain ⟨t', ht, hq⟩ := fs_ok C hN hv hd1 hd2 cw.cls ns es sts h3 cw.no nd
  refine ⟨_, pss_cons (ps_if (chk_ok t C h1).pt (pss_cons' (chkS_ok (.raise u sups) C hk hp h2) pss_nil') pss_nil) ht, fun En σ H b env hd G m ρ F a dx R hσ hG p => ?_⟩
  refine ⟨b, env, hd, G, m, ρ, F, R, p.imp (fun tr m1 p1 ρ1 F1 H1 R1 => ?_) fun x m' z ρ' F' H' c' dd R' => z G ρ' F' σ H' c' dd (fun _ _ => rfl) ⟨_, hG⟩ R'⟩
  cases tr with
  | true =>
    rw [if_pos rfl] at p1 ⊢
    refine ⟨b, env, hd, G, m1, ρ1, F1, R1, ?_⟩
    exact fun ρ' F' σ' H' c' dd R' hx => p1 G ρ' F' σ' H' c' dd (fun _ _ => rfl) ⟨_, hG⟩ R' hx
  | false =>
    rw [if_neg (by decide)] at p1 ⊢
    exact hq En σ H1 b env hd G m1 ρ1 F1 a dx [] R1 hσ hG (fun q hq => (by cases hq)) (by simpa using hl) p1
end
end Fw

set_option Elab.async false
set_option linter.all false
set_option maxRecDepth 100000
set_option maxHeartbeats 2000000
set_option autoImplicit false
/-! ## Fw11: every def of a program does what run says -/
namespace Fw
open PySem PySem.Spec PyProof.Rows L2

section
variable {K : KX} {rx : PySem.W.Frag → Exc → Value → Option Addr → Hp → Prop}
/-- how a body is entered -/
theorem rs_start {F : Hp} {ρ : Ro} {m : MH} {H : Hp} {xs : List D} {vs : List V} {N : List Str} {ns np : Nat} (R : Rl K F ρ m H) (rr : RepL K F ρ m xs vs) (hl : xs.length = np) (hn : N.length = ns) (G : Hp)
    (hG : ∀ a o, G a = some o → H a = some o ∧ F a = none ∧ ∀ l i, Lv m l i → ρ l i ≠ a) : RS K ⟨F, ρ, m⟩ (xs.map some ++ List.replicate (ns - np) none) [] G ([] :: m) ρ F (L2.start N vs) H := by
  obtain ⟨R1, x⟩ := R.push
  have hlen := rr.length
  refine ⟨R1, ?_, fun i d e => ?_, fun p hp => (by cases hp), fun a o e => ?_, rfl, x⟩
  · unfold L2.start
    simp only [List.length_append, List.length_map, List.length_replicate]
    omega
  · unfold Env.at_ at e
    by_cases hi : i < xs.length
    · rw [List.getElem?_append_left (by simpa using hi), List.getElem?_map, List.getElem?_eq_getElem hi] at e
      simp only [Option.map_some, Option.getD_some, Option.some.injEq] at e
      subst e
      obtain ⟨v, h1, h2⟩ := rr.get (List.getElem?_eq_getElem hi)
      refine ⟨v, ?_, h2.ext x⟩
      unfold L2.start
      rw [List.getElem?_append_left (by simp; omega), List.getElem?_map, h1]
      rfl
    · rw [List.getElem?_append_right (by simpa using hi), List.getElem?_replicate] at e
      split at e <;> simp at e
  · obtain ⟨h1, h2, h3⟩ := hG a o e
    refine ⟨h1, h2, fun l i q => h3 l i ?_⟩
    obtain ⟨o', e'⟩ := Option.isSome_iff_exists.mp q
    have : get m l i = some o' := by
      unfold get at e'
      split at e'
      · simp at e'
      · exact e'
    unfold Lv
    rw [this]; rfl
/-- how a body is left -/
theorem rs_end {F : Hp} {ρ : Ro} {m : MH} {H G : Hp} {env : Env} {hd : List (D × V)} {σ : L2.St} {fr : List MO} {r : MH} {ρ' : Ro} {F' : Hp} {H' : Hp} {m' : MH} {ρ2 : Ro}
    (hG : ∀ a o, H a = some o → F a = none → (∀ l i, Lv m l i → ρ l i ≠ a) → G a = some o)
    (R : RS K ⟨F, ρ, m⟩ env hd G (fr :: r) ρ' F' σ H') (old : ∀ l i, Lv r l i → ρ2 l i = ρ' l i ∧ Lv m' l i) (new : ∀ l i, Lv m' l i → ∃ l' i', Lv (fr :: r) l' i' ∧ ρ2 l i = ρ' l' i') :
    Ext F ρ m F' ρ2 m' ∧ Keep F ρ m H F' ρ2 m' H' := by
  have hml : r.length = m.length := by
    have := R.ml
    simp only [List.length_cons] at this
    omega
  refine ⟨⟨R.xt.f, fun l i q => ?_⟩, fun a o h1 h2 h3 => ?_⟩
  · obtain ⟨e1, q1⟩ := R.xt.r l i q
    obtain ⟨o', e'⟩ := Option.isSome_iff_exists.mp q
    have hl := get_lt e'
    have q2 : Lv r l i := (lv_pop (by omega)).mp q1
    obtain ⟨e3, q3⟩ := old l i q2
    exact ⟨e3.trans e1, q3⟩
  · obtain ⟨g1, g2, g3⟩ := R.pin a o (hG a o h1 h2 h3)
    refine ⟨g1, g2, fun l i q => ?_⟩
    obtain ⟨l', i', q', e⟩ := new l i q
    rw [e]
    exact g3 l' i' q'
end

section
variable {K : KX}
/-- how an __init__ is left: its instance freezes -/
theorem rs_endX {F H G : Hp} {ρ : Ro} {m : MH} {env : Env} {hd : List (D × V)} {σ : L2.St} {fr : List MO} {r : MH} {ρ' : Ro} {F' : Hp} {H' : Hp} {a dx : Addr} {u : HO} {m' : MH} {ρ2 : Ro}
    (hG : ∀ b o, b ≠ a → H b = some o → F b = none → (∀ l i, Lv m l i → ρ l i ≠ b) → G b = some o) (hu : G a = some u)
    (R : RS K ⟨F, ρ, m⟩ env hd G (fr :: r) ρ' F' σ H') (old : ∀ l i, Lv r l i → ρ2 l i = ρ' l i ∧ Lv m' l i) (new : ∀ l i, Lv m' l i → ∃ l' i', Lv (fr :: r) l' i' ∧ ρ2 l i = ρ' l' i') :
    Ext F ρ m F' ρ2 m' ∧ Ext F ρ m (upd F' a u) ρ2 m' ∧ KeepX a dx F ρ m H F' ρ2 m' H' ∧ KeepX a dx F ρ m H (upd F' a u) ρ2 m' H' := by
  have hml : r.length = m.length := by
    have := R.ml
    simp only [List.length_cons] at this
    omega
  have fa : F' a = none := (R.pin a u hu).2.1
  have x1 : Ext F ρ m F' ρ2 m' := ⟨R.xt.f, fun l i q => by
    obtain ⟨e1, q1⟩ := R.xt.r l i q
    obtain ⟨o', e'⟩ := Option.isSome_iff_exists.mp q
    have hl := get_lt e'
    have q2 : Lv r l i := (lv_pop (by omega)).mp q1
    obtain ⟨e3, q3⟩ := old l i q2
    exact ⟨e3.trans e1, q3⟩⟩
  have k1 : KeepX a dx F ρ m H F' ρ2 m' H' := fun b o n1 _ h1 h2 h3 => by
    obtain ⟨g1, g2, g3⟩ := R.pin b o (hG b o n1 h1 h2 h3)
    refine ⟨g1, g2, fun l i q => ?_⟩
    obtain ⟨l', i', q', e⟩ := new l i q
    rw [e]
    exact g3 l' i' q'
  refine ⟨x1, x1.trans (Ext.newF fa), k1, fun b o n1 n2 h1 h2 h3 => ?_⟩
  obtain ⟨g1, g2, g3⟩ := k1 b o n1 n2 h1 h2 h3
  exact ⟨g1, by rw [upd_ne n1]; exact g2, g3⟩
end

/-! ### a program -/
def fnScopeB (N ps : List Str) (sc : Scope) : Bool :=
  decide (sc.kind = .function) && (!sc.isCoroutine && (!sc.isGenerator && (decide N.Nodup && (decide (N.take ps.length = ps) && (ps.all (fun x => decide (sc.names.lookup x = some .local) || decide (sc.names.lookup x = some .cell)) && sc.names.all fun y => decide (y.2 ≠ .free))))))
theorem fnScope_ok {N ps : List Str} {sc : Scope} (h : fnScopeB N ps sc = true) : FnScope N ps sc := by
  unfold fnScopeB at h
  simp only [Bool.and_eq_true, decide_eq_true_eq, Bool.not_eq_true', List.all_eq_true, Bool.or_eq_true] at h
  obtain ⟨h1, h2, h3, h4, h5, h6, h7⟩ := h
  exact ⟨h1, h2, h3, h4, h5, h6, h7⟩
structure Prg (ι : Type) where
  P : ι → Fn ι
  nm : ι → Str
  N : ι → List Str
  ps : ι → List Str
  dd : ι → He.DefD
  cl : List (Str × List Str) := []
  gl : List (Str × Int) := []
  kd : ι → Kd := fun _ => .fn
  wl : List (Str × List Str) := []
def Prg.look {ι : Type} (p : Prg ι) (f : ι) : Look ι := { nm := p.nm, N := p.N f, sc := (p.dd f).scope, cl := p.cl, gl := p.gl, kd := p.kd, wl := p.wl }
/-- an __init__: its argument moves up, the instance's place stands ahead; one look; the attributes -/
def iniS {ι : Type} (t : E ι) (u : Str) (sups : List Str) (c : Str) (ns : List Str) (es : E ι) : S ι :=
  .cons (.asg (.name 1) (.var 0)) (.cons (.asg (.name 0) .anyv) (.cons (.ifs t (.cons (.raise u sups) .nil) .nil) (.cons (.ret (.ins c ns es)) .nil)))
def iniB {ι : Type} (L : Look ι) (c : Str) (F : Fn ι) (body : List Stmt) : Bool := match F, body with
  | ⟨np, ns', .cons (.asg (.name 1) (.var 0)) (.cons (.asg (.name 0) .anyv) (.cons (.ifs t (.cons (.raise u sups) .nil) .nil) (.cons (.ret (.ins c' ns es)) .nil)))⟩, .If tx [rs] [] _ :: sts =>
    decide (np = 1) && (decide (ns' = 2) && (decide (c' = c) && (chk t L tx && (chkS (.raise u sups) L rs && ((match L.N with
      | [y, _] => chkFs L y ns es sts && visB L.sc y
      | _ => false) && (decide ((c, ns) ∈ L.wl) && (decide ns.Nodup && decide (ns.length < 1000))))))))
  | _, _ => false
def Prg.ok {ι : Type} (p : Prg ι) (f : ι) : Bool :=
  fnScopeB (p.N f) (p.ps f) (p.dd f).scope && (match p.kd f with
    | .ini c => decide ((p.ps f).length = 2) && iniB (p.look f) c (p.P f) (p.dd f).body
    | _ => decide ((p.ps f).length = (p.P f).np) && (decide ((p.N f).length = (p.P f).ns) && chkB (p.P f).body (p.look f) (p.dd f).body))
/-- where a program's defs stand -/
structure Laid {ι : Type} (p : Prg ι) (K : PySem.W.Frag) (mg : Str → Option Value) where
  ad : ι → Addr
  fd : ι → FuncData
  def_ : ∀ f, FunD K (p.dd f).name (p.dd f).qual (p.dd f).params (p.dd f).body (p.dd f).scope [] [] (ad f) (fd f)
  glo : ∀ f, (p.kd f).isFn = true → mg (p.nm f) = some (.ref (ad f))
  bind : ∀ f, Binds K (fd f) (p.ps f) []
  free : ∀ x ∈ freeNames, mg x = none
  glb : ∀ q ∈ p.gl, ∃ t, mg q.1 = some (.int q.2 t)
  exf : ∀ q ∈ p.cl, ExcFacts K mg p.cl q
  smd : SmD K
  cw : ∀ q ∈ p.wl, ClsW K q
  mkr : ∀ f c, (p.kd f).isMk c = true → mg c = some (.ref (He.ga K c)) ∧ L2.Mk K (He.ga K c) (ad f)
  len : ∀ f c, (p.kd f).isLen c = true → PySem.W.findIn K (.ref (He.ga K c)) "__len__" = some (some (.ref (ad f))) ∧ PySem.W.isFn K (.ref (ad f)) = true
/-- what a def promises -/
def Prg.sp {ι : Type} (p : Prg ι) (K : KX) (rx : PySem.W.Frag → Exc → Value → Option Addr → Hp → Prop) (d : Nat) (f : ι) : Sp := match p.kd f with
  | .ini c => spI K rx c (run p.P d f)
  | _ => spF K rx (run p.P d f)
section
variable {ι : Type} {p : Prg ι} {K : KX} {rx : PySem.W.Frag → Exc → Value → Option Addr → Hp → Prop} {d : Nat} {f : ι}
theorem Prg.sp_fn (h : (p.kd f).isFn = true) : p.sp K rx d f = spF K rx (run p.P d f) := by
  unfold Prg.sp
  cases e : p.kd f <;> rw [e] at h <;> first | rfl | cases h
theorem Prg.sp_mk {c : Str} (h : (p.kd f).isMk c = true) : p.sp K rx d f = spI K rx c (run p.P d f) := by
  unfold Prg.sp
  cases e : p.kd f with
  | ini c' =>
    rw [e] at h
    have : c' = c := by simpa [Kd.isMk] using h
    subst this; rfl
  | fn => rw [e] at h; cases h
  | meth => rw [e] at h; cases h
theorem Prg.sp_len {c : Str} (h : (p.kd f).isLen c = true) : p.sp K rx d f = spF K rx (run p.P d f) := by
  unfold Prg.sp
  cases e : p.kd f <;> rw [e] at h <;> first | rfl | cases h
end
/-- what an __init__ computes -/
theorem run_ini {ι : Type} (P : ι → Fn ι) (d : Nat) (f : ι) {t : E ι} {u : Str} {sups : List Str} {c : Str} {ns : List Str} {es : E ι} (e : P f = ⟨1, 2, iniS t u sups c ns es⟩) (x : D) (m : MH) :
    run P (d + 1) f [x] m = left ((tst (run P d) t [some .any, some x] ([] :: m)).st [some .any, some x] fun b m => if b then .ok (.ex ⟨u, sups, []⟩ [some .any, some x]) m else
      (evs (run P d) es [some .any, some x] m).st [some .any, some x] fun xs m => if xs.length = ns.length then .ok (.rt (.ins c ns xs)) m else .fail) := by
  unfold run
  rw [e]
  simp only [List.length_singleton, if_true]
  congr 1
  simp only [iniS, exec, ev, sem, List.map_cons, List.map_nil, Nat.reduceSub, List.replicate, List.cons_append, List.nil_append, Env.at_, List.getElem?_cons_zero, Option.getD_some, Res.of, Res.st_ok, tgt, List.length_cons, List.length_nil, List.set]
  simp only [Nat.reduceAdd, Nat.reduceLT, if_true, Res.tg_ok, Res.then_nx, List.length_cons, List.length_nil, List.set]
  cases tst (run P d) t [some D.any, some x] ([] :: m) with
  | fail => rfl
  | exc => rfl
  | ok b m1 =>
    cases b with
    | true => rfl
    | false =>
      simp only [Res.st_ok, Bool.false_eq_true, if_false, Res.then_nx]
      show ((((sem (run P d) es).l [some D.any, some x] m1).bind fun xs m => if xs.length = ns.length then Res.ok (D.ins c ns xs) m else Res.fail).st [some D.any, some x] fun x m => Res.ok (Fl.rt x) m).then_ _ = Res.st ((sem (run P d) es).l [some D.any, some x] m1) _ _
      cases (sem (run P d) es).l [some D.any, some x] m1 with
      | fail => rfl
      | exc => rfl
      | ok xs m2 =>
        simp only [Res.bind_ok, Res.st_ok]
        split <;> rfl
section
variable {ι : Type} {P : Program} {w : World} {K : PySem.W.Frag} {mg : Str → Option Value} {base : Heap}
theorem spF_false {rx : PySem.W.Frag → Exc → Value → Option Addr → Hp → Prop} {f : List D → MH → Res D} (hf : ∀ xs m, f xs m = .fail) {vs : List V} {H : Hp} {Q : VK} {E : XK} (h : spF (k0 K) rx f vs H Q E) : False := by
  obtain ⟨F, ρ, m, xs, R, rr, p⟩ := h
  rw [hf] at p
  exact p
theorem ctx_of {A : Around} {outer : List PySem.Env} {s : Shared} {H : Hp} {cdv : Value} (p : Prg ι) (hcl : p.cl = clsOf P) (L : Laid p K mg) {d : Nat} (ih : ∀ g, FnG P w K mg base (2 * d) (L.ad g) (L.fd g) (p.ps g) (p.sp (k0 K) (rxO p.cl) d g)) (f : ι) (S : FnScope (p.N f) (p.ps f) (p.dd f).scope) (E : XK)
    (hr : Room (2 * d + 1) (A.deeper (envOfC (p.dd f).qual (p.dd f).scope s.heap.objs.size (L.ad f) cdv))) (hgd : (A.deeper (envOfC (p.dd f).qual (p.dd f).scope s.heap.objs.size (L.ad f) cdv)).guards = some []) :
    Ctx (rxO p.cl) (p.look f) (run p.P d) (2 * d) (fun cls dd _ H => E cls dd H) (cxOf (L2.CX P w) P w K mg base (p.N f) (p.dd f).qual (p.dd f).scope (L.ad f) cdv A outer s H E) := by
  have tk := takes_of (X := cxOf (L2.CX P w) P w K mg base (p.N f) (p.dd f).qual (p.dd f).scope (L.ad f) cdv A outer s H E) rfl rfl rfl (E := E) rfl
  exact { hN := rfl, hs := rfl, nd := S.nd, calm := fun _ => rfl, fn := fun _ _ => rfl, room := fun _ => hr, units := hr.units, smd := L.smd, gd := hgd, pass := fun _ => passAt tk,
          calls := fun g hg => ⟨⟨L.ad g, L.fd g, p.ps g, by have := ih g; rwa [Prg.sp_fn hg] at this, L.glo g hg, (L.def_ g).kp, L.bind g⟩⟩,
          mks := fun g c hg => ⟨⟨L.ad g, L.fd g, p.ps g, by have := ih g; rwa [Prg.sp_mk hg] at this, (L.mkr g c hg).1, (L.mkr g c hg).2, L.bind g⟩⟩,
          lens := fun g c hg => ⟨⟨L.ad g, L.fd g, p.ps g, by have := ih g; rwa [Prg.sp_len hg] at this, (L.len g c hg).1, (L.len g c hg).2, L.bind g⟩⟩,
          cw := L.cw, free := L.free, glb := L.glb, tk := fun _ => tk, top := fun _ _ => ⟨rfl, rfl⟩, cl := hcl, rxd := rfl, exf := L.exf }
open Classical in
theorem prog_fn (p : Prg ι) (hcl : p.cl = clsOf P) (L : Laid p K mg) {d : Nat} (ih : ∀ g, FnG P w K mg base (2 * d) (L.ad g) (L.fd g) (p.ps g) (p.sp (k0 K) (rxO p.cl) d g)) (f : ι)
    (hsp0 : p.sp (k0 K) (rxO p.cl) (d + 1) f = spF (k0 K) (rxO p.cl) (run p.P (d + 1) f)) (h1 : fnScopeB (p.N f) (p.ps f) (p.dd f).scope = true) (h2 : (p.ps f).length = (p.P f).np) (h3 : (p.N f).length = (p.P f).ns) (h4 : chkB (p.P f).body (p.look f) (p.dd f).body = true) :
    FnG P w K mg base (2 * (d + 1)) (L.ad f) (L.fd f) (p.ps f) (p.sp (k0 K) (rxO p.cl) (d + 1) f) := by
  have S := fnScope_ok h1
  have sp : ∀ {vs : List V} {H : Hp} {Q : VK} {E : XK}, spF (k0 K) (rxO p.cl) (run p.P (d + 1) f) vs H Q E → ∃ F ρ m xs, Rl (k0 K) F ρ m H ∧ RepL (k0 K) F ρ m xs vs ∧ xs.length = (p.P f).np ∧
      Post (left (exec (run p.P d) (p.P f).body (xs.map some ++ List.replicate ((p.P f).ns - (p.P f).np) none) ([] :: m)))
        (fun d m' => ∀ F' ρ' H' v, Ext F ρ m F' ρ' m' → Rl (k0 K) F' ρ' m' H' → m'.length = m.length → Keep F ρ m H F' ρ' m' H' → Rep (k0 K) F' ρ' m' d v → Q v H')
        (fun x m' => ∀ F' ρ' H' c dd, Ext F ρ m F' ρ' m' → Rl (k0 K) F' ρ' m' H' → m'.length = m.length → Keep F ρ m H F' ρ' m' H' → rxO p.cl K x c dd H' → E c dd H') := by
    intro vs H Q E ⟨F, ρ, m, xs, R, rr, q⟩
    unfold run at q
    split at q
    · exact ⟨F, ρ, m, xs, R, rr, by assumption, q⟩
    · exact q.elim
  rw [show p.sp (k0 K) (rxO p.cl) (d + 1) f = spF (k0 K) (rxO p.cl) (run p.P (d + 1) f) from hsp0]
  refine fnG_of (L.def_ f) S (fun vs H Q E h => ?_) fun cdv A outer s H vs Q E hr hgd h => ?_
  · obtain ⟨F, ρ, m, xs, R, rr, e, q⟩ := sp h
    rw [← rr.length, e, h2]
  · obtain ⟨F, ρ, m, xs, R, rr, e, q⟩ := sp h
    have tk := takes_of (X := cxOf (L2.CX P w) P w K mg base (p.N f) (p.dd f).qual (p.dd f).scope (L.ad f) cdv A outer s H E) rfl rfl rfl (E := E) rfl
    have C := ctx_of (A := A) (outer := outer) (s := s) (H := H) (cdv := cdv) p hcl L ih f S E hr hgd
    have hkx : kx (cxOf (L2.CX P w) P w K mg base (p.N f) (p.dd f).qual (p.dd f).scope (L.ad f) cdv A outer s H E) = k0 K := kx_calm rfl
    let G : Hp := fun a => if F a = none ∧ ∀ l i, Lv m l i → ρ l i ≠ a then H a else none
    have hG1 : ∀ a o, G a = some o → H a = some o ∧ F a = none ∧ ∀ l i, Lv m l i → ρ l i ≠ a := fun a o e => by
      have e : (if F a = none ∧ ∀ l i, Lv m l i → ρ l i ≠ a then H a else none) = some o := e
      split at e
      · rename_i z
        exact ⟨e, z.1, z.2⟩
      · cases e
    have hG2 : ∀ a o, H a = some o → F a = none → (∀ l i, Lv m l i → ρ l i ≠ a) → G a = some o := fun a o e1 e2 e3 => by
      show (if F a = none ∧ ∀ l i, Lv m l i → ρ l i ≠ a then H a else none) = some o
      rw [if_pos ⟨e2, e3⟩]; exact e1
    refine ⟨SS (k0 K) (rxO p.cl) (fun cls dd _ H => E cls dd H) (exec (run p.P d) (p.P f).body), by
      have := chkB_ok (p.P f).body C S.kind (passes_of rfl) h4
      rw [hkx] at this
      exact this, ⟨F, ρ, m⟩, _, [], G, _, ρ, F, rs_start R rr e (by rw [h3]) G hG1, ?_⟩
    cases hx : exec (run p.P d) (p.P f).body (xs.map some ++ List.replicate ((p.P f).ns - (p.P f).np) none) ([] :: m) with
    | fail => rw [hx] at q; exact q.elim
    | ok fl m' =>
      rw [hx] at q
      have fin : ∀ {d : D} {σ' : L2.St} {H' : Hp} {v : V} {env' : Env} {ρ' : Ro} {F' : Hp}, RS (k0 K) ⟨F, ρ, m⟩ env' [(d, v)] G m' ρ' F' σ' H' →
          Post (leave d m') (fun d m' => ∀ F' ρ' H' v, Ext F ρ m F' ρ' m' → Rl (k0 K) F' ρ' m' H' → m'.length = m.length → Keep F ρ m H F' ρ' m' H' → Rep (k0 K) F' ρ' m' d v → Q v H')
            (fun x m' => ∀ F' ρ' H' c dd, Ext F ρ m F' ρ' m' → Rl (k0 K) F' ρ' m' H' → m'.length = m.length → Keep F ρ m H F' ρ' m' H' → rxO p.cl K x c dd H' → E c dd H') → Q v H' := by
        intro dd σ' H' v env' ρ' F' R' q
        cases m' with
        | nil => have := R'.ml; simp at this
        | cons fr r =>
          cases hlv : leave dd (fr :: r) with
          | fail => rw [hlv] at q; exact q.elim
          | exc x m2 =>
            exfalso
            cases dd with
            | ref l i =>
              simp only [leave] at hlv
              split at hlv
              · cases hfr : fr[i]? with
                | none => simp only [hfr] at hlv; cases hlv
                | some o =>
                  simp only [hfr] at hlv
                  split at hlv
                  · cases r with
                    | nil => cases hlv
                    | cons =>
                      simp only [alloc] at hlv
                      split at hlv <;> cases hlv
                  · cases hlv
              · cases hlv
            | _ =>
              simp only [leave] at hlv
              split at hlv <;> cases hlv
          | ok d2 m2 =>
            rw [hlv] at q
            obtain ⟨ρ2, gone⟩ := leave_ok R'.rl R'.top hlv
            obtain ⟨x1, x2⟩ := rs_end hG2 R' gone.old gone.new
            have hml : m2.length = m.length := by
              have := R'.ml
              have := gone.len
              simp only [List.length_cons] at *
              omega
            exact q F' ρ2 H' v x1 gone.rl hml x2 gone.rep
      cases fl with
      | nx env' => exact fun ρ' F' σ' H' R' => fin (R'.hold .non) q
      | rt dv => exact fun ρ' F' σ' H' v env' R' => fin R' q
      | ex x env' =>
      intro ρ' F' σ' H' c dd R' hrx
      cases m' with
      | nil => have := R'.ml; simp at this
      | cons fr r =>
        simp only [left] at q
        have hml : r.length = m.length := by
          have := R'.ml
          simp only [List.length_cons] at this
          omega
        obtain ⟨x1, x2⟩ := rs_end (m' := r) (ρ2 := ρ') hG2 R' (fun l i q => ⟨rfl, q⟩) fun l i q => ⟨l, i, by
          obtain ⟨o, e⟩ := Option.isSome_iff_exists.mp q
          unfold Lv; rw [get_pop e]; rfl, rfl⟩
        exact q F' ρ' H' c dd x1 R'.rl.pop hml x2 hrx
    | exc x m' => rw [hx] at q; exact q.elim
/-- what stands aside freezes -/
theorem RS.freeze {K : KX} {b : Bs} {env : Env} {hd : List (D × V)} {G : Hp} {m : MH} {ρ : Ro} {F : Hp} {σ : L2.St} {H : Hp} (R : RS K b env hd G m ρ F σ H) {a : Addr} {u : HO} (h : G a = some u) : Rl K (upd F a u) ρ m H := by
  obtain ⟨h1, h2, h3⟩ := R.pin a u h
  refine ⟨fun x w e => ?_, fun l i w e => ?_, R.rl.inj, R.rl.wf⟩
  · by_cases z : x = a
    · subst z
      rw [upd_same] at e
      cases e
      exact h1
    · rw [upd_ne z] at e
      exact R.rl.fh x w e
  · have : ρ l i ≠ a := h3 l i (by unfold Lv; rw [e]; rfl)
    rw [upd_ne this]
    exact ⟨(R.rl.ob l i w e).1, (R.rl.ob l i w e).2.ext (Ext.newF h2)⟩
open Classical in
theorem prog_ini (p : Prg ι) (hcl : p.cl = clsOf P) (L : Laid p K mg) {d : Nat} (ih : ∀ g, FnG P w K mg base (2 * d) (L.ad g) (L.fd g) (p.ps g) (p.sp (k0 K) (rxO p.cl) d g)) (f : ι) {c : Str}
    (hkd : p.kd f = .ini c) (h1 : fnScopeB (p.N f) (p.ps f) (p.dd f).scope = true) (h2 : (p.ps f).length = 2) (h4 : iniB (p.look f) c (p.P f) (p.dd f).body = true) :
    FnG P w K mg base (2 * (d + 1)) (L.ad f) (L.fd f) (p.ps f) (p.sp (k0 K) (rxO p.cl) (d + 1) f) := by
  have S := fnScope_ok h1
  unfold iniB at h4
  split at h4
  · rename_i np ns' t u sups c' ns es tx rs pos sts eF eB
    simp only [Bool.and_eq_true, decide_eq_true_eq] at h4
    obtain ⟨rfl, rfl, rfl, k1, k2, k3, k4, k5, k6⟩ := h4
    obtain ⟨y, y2, hN, k31, k32⟩ : ∃ y y2, p.N f = [y, y2] ∧ chkFs (p.look f) y ns es sts = true ∧ visB (p.look f).sc y = true := by
      split at k3
      · rename_i y y2 hN
        simp only [Bool.and_eq_true] at k3
        exact ⟨y, y2, hN, k3.1, k3.2⟩
      · cases k3
    obtain ⟨v1, v2, v3⟩ := visB_ok k32
    rw [show p.sp (k0 K) (rxO p.cl) (d + 1) f = spI (k0 K) (rxO p.cl) c' (run p.P (d + 1) f) by unfold Prg.sp; rw [hkd]]
    refine fnG_of (L.def_ f) S (fun vs H Q E h => ?_) fun cdv A outer s H vs Q E hr hgd h => ?_
    · obtain ⟨_, _, _, _, _, _, _, rfl, _⟩ := h
      rw [h2]; rfl
    · obtain ⟨F, ρ, m, x, v, a, dx, rfl, hHa, hHd, hne, hFa, hFd, hρ, R, rx0, q⟩ := h
      have C := ctx_of (A := A) (outer := outer) (s := s) (H := H) (cdv := cdv) p hcl L ih f S E hr hgd
      have tk := takes_of (X := cxOf (L2.CX P w) P w K mg base (p.N f) (p.dd f).qual (p.dd f).scope (L.ad f) cdv A outer s H E) rfl rfl rfl (E := E) rfl
      have hkx : kx (cxOf (L2.CX P w) P w K mg base (p.N f) (p.dd f).qual (p.dd f).scope (L.ad f) cdv A outer s H E) = k0 K := kx_calm rfl
      rw [run_ini p.P d f eF] at q
      obtain ⟨tS, hPS, hsat⟩ := ini_ok C S.kind (passes_of rfl) (pos := pos) k1 k2 k31 (show (p.look f).N[0]? = some y by show (p.N f)[0]? = _; rw [hN]; rfl) v1 v2 v3 k4 k5 k6
      let G : Hp := fun a => if F a = none ∧ ∀ l i, Lv m l i → ρ l i ≠ a then H a else none
      have hG1 : ∀ a o, G a = some o → H a = some o ∧ F a = none ∧ ∀ l i, Lv m l i → ρ l i ≠ a := fun a o e => by
        have e : (if F a = none ∧ ∀ l i, Lv m l i → ρ l i ≠ a then H a else none) = some o := e
        split at e
        · rename_i z
          exact ⟨e, z.1, z.2⟩
        · cases e
      have hG2 : ∀ a o, H a = some o → F a = none → (∀ l i, Lv m l i → ρ l i ≠ a) → G a = some o := fun a o e1 e2 e3 => by
        show (if F a = none ∧ ∀ l i, Lv m l i → ρ l i ≠ a then H a else none) = some o
        rw [if_pos ⟨e2, e3⟩]; exact e1
      have hGa : G a = some (.ins (He.ga K c') dx []) := hG2 a _ hHa hFa fun l i q => (hρ l i q).1
      have Rs := rs_start (ns := 2) (np := 2) (N := p.N f) (xs := [D.any, x]) (vs := [V.ref a, v]) R (.cons (by unfold Rep; trivial) (.one rx0)) rfl (by rw [hN]; rfl) G hG1
      rw [eB]
      refine ⟨tS, hPS, hsat _ _ _ ⟨F, ρ, m⟩ [some .any, some x] [] G ([] :: m) ρ F a dx (by rw [hkx]; exact Rs) (by rw [hN]; rfl) hGa ?_⟩
      rw [hkx]
      have exfin : ∀ z m1, Post (left (.ok (.ex z [some .any, some x]) m1)) (fun d m' => ∀ F' ρ' H', Ext F ρ m F' ρ' m' → Rl (k0 K) F' ρ' m' H' → m'.length = m.length → KeepX a dx F ρ m H F' ρ' m' H' → Rep (k0 K) F' ρ' m' d (.ref a) → Q .non H')
            (fun x m' => ∀ F' ρ' H' c dd, Ext F ρ m F' ρ' m' → Rl (k0 K) F' ρ' m' H' → m'.length = m.length → KeepX a dx F ρ m H F' ρ' m' H' → rxO p.cl K x c dd H' → E c dd H') →
          ExG (k0 K) (rxO p.cl) (fun cls dd _ H => E cls dd H) ⟨F, ρ, m⟩ [some .any, some x] [] G a z m1 := by
        intro z m1 q G' ρ' F' σ' H' cc dd e1 ⟨o, e2⟩ R' hx
        cases m1 with
        | nil => have := R'.ml; simp at this
        | cons fr r =>
          have hml : r.length = m.length := by
            have := R'.ml
            simp only [List.length_cons] at this
            omega
          obtain ⟨x1, _, x3, _⟩ := rs_endX (dx := dx) (m' := r) (ρ2 := ρ') (fun b o n h1 h2 h3 => by rw [e1 b n]; exact hG2 b o h1 h2 h3) e2 R' (fun l i q => ⟨rfl, q⟩) fun l i q => ⟨l, i, by
            obtain ⟨o, e⟩ := Option.isSome_iff_exists.mp q
            unfold Lv; rw [get_pop e]; rfl, rfl⟩
          exact q F' ρ' H' cc dd x1 R'.rl.pop hml x3 hx
      cases ht : tst (run p.P d) t [some .any, some x] ([] :: m) with
      | fail => rw [ht] at q; exact q.elim
      | exc z m1 => rw [ht] at q; exact exfin z m1 q
      | ok b m1 =>
        rw [ht] at q
        simp only [Res.st_ok] at q
        cases b with
        | true => exact exfin _ m1 q
        | false =>
          simp only [Bool.false_eq_true, if_false] at q
          show Post (evs (run p.P d) es [some .any, some x] m1) _ _
          cases he : evs (run p.P d) es [some .any, some x] m1 with
          | fail => rw [he] at q; exact q.elim
          | exc z m2 => rw [he] at q; exact exfin z m2 q
          | ok ds m2 =>
            rw [he] at q
            simp only [Res.st_ok] at q
            intro ρ2 F2 H2 vs G2 e1 e2 R3 hlen
            split at q
            · rename_i hds
              cases m2 with
              | nil => have := R3.ml; simp at this
              | cons fr r =>
                have Rz := R3.freeze e1
                have fa := (R3.pin a _ e1).2.1
                have rp : Rep (k0 K) (upd F2 a (.ins (He.ga K c') dx (ns.zip vs))) ρ2 (fr :: r) (.ins c' ns ds) (.ref a) := .ins upd_same hds.symm ((RS.list R3 hlen).ext (Ext.newF fa))
                cases hlv : leave (.ins c' ns ds) (fr :: r) with
                | fail => simp only [left] at q; rw [hlv] at q; exact q.elim
                | exc z m3 =>
                  exfalso
                  simp only [leave] at hlv
                  split at hlv <;> cases hlv
                | ok d3 m3 =>
                  simp only [left] at q
                  rw [hlv] at q
                  obtain ⟨ρ3, gone⟩ := leave_ok Rz rp hlv
                  obtain ⟨_, x2, _, x4⟩ := rs_endX (dx := dx) (m' := m3) (ρ2 := ρ3) (fun b o n h1 h2 h3 => by rw [e2 b n]; exact hG2 b o h1 h2 h3) e1 R3 gone.old gone.new
                  have hml : m3.length = m.length := by
                    have := R3.ml
                    have := gone.len
                    simp only [List.length_cons] at *
                    omega
                  exact q _ ρ3 H2 x2 gone.rl hml x4 gone.rep
            · exact q.elim
  · cases h4
theorem prog_ok (p : Prg ι) (hok : ∀ f, p.ok f = true) (hcl : p.cl = clsOf P) (L : Laid p K mg) : ∀ (d : Nat) (f : ι), FnG P w K mg base (2 * d) (L.ad f) (L.fd f) (p.ps f) (p.sp (k0 K) (rxO p.cl) d f)
  | 0, f => by
    have no : ∀ {vs : List V} {H : Hp} {Q : VK} {E : XK}, ¬ p.sp (k0 K) (rxO p.cl) 0 f vs H Q E := fun {vs H Q E} h => by
      unfold Prg.sp at h
      cases e : p.kd f with
      | ini c =>
        simp only [e] at h
        obtain ⟨_, _, _, _, _, _, _, _, _, _, _, _, _, _, _, _, q⟩ := h
        exact q
      | fn => simp only [e] at h; exact spF_false (fun _ _ => rfl) h
      | meth => simp only [e] at h; exact spF_false (fun _ _ => rfl) h
    exact ⟨fun vs H Q E h => (no h).elim, fun A outer s H args us vs Q E _ _ _ _ _ h => (no h).elim⟩
  | d + 1, f => by
    have ih := prog_ok p hok hcl L d
    have ho := hok f
    unfold Prg.ok at ho
    simp only [Bool.and_eq_true] at ho
    obtain ⟨h1, ho⟩ := ho
    cases e : p.kd f with
    | ini c =>
      rw [e] at ho
      simp only [Bool.and_eq_true, decide_eq_true_eq] at ho
      exact prog_ini p hcl L ih f e h1 ho.1 ho.2
    | fn =>
      rw [e] at ho
      simp only [Bool.and_eq_true, decide_eq_true_eq] at ho
      exact prog_fn p hcl L ih f (by unfold Prg.sp; rw [e]) h1 ho.1 ho.2.1 ho.2.2
    | meth c m =>
      rw [e] at ho
      simp only [Bool.and_eq_true, decide_eq_true_eq] at ho
      exact prog_fn p hcl L ih f (by unfold Prg.sp; rw [e]) h1 ho.1 ho.2.1 ho.2.2
end
end Fw

set_option Elab.async false
set_option linter.all false
set_option maxRecDepth 100000
set_option maxHeartbeats 2000000
set_option autoImplicit false
/-! ## Fw12: a law's end -/
namespace Fw
open PySem PySem.Spec PyProof.Rows L2

/-- the own exception classes looked at -/
def clsChk (cl : List (Str × List Str)) (K : PySem.W.Frag) : Bool := cl.all fun p =>
  (He.Fa.glo p.1).ok K && ((He.Fa.exc p.1).ok K && ((He.eqO (PySem.W.findIn K (.ref (He.ga K p.1)) "__getattribute__") (some (some (.builtin "BaseException.__getattribute__"))) && (He.eqO (PySem.W.findIn K (.ref (He.ga K p.1)) "__getattr__") (some none) &&
    (PySem.W.hasDictIn K (He.ga K p.1) && (He.eqO (PySem.W.findIn K (.ref (He.ga K p.1)) "__class__") (some (some (.builtin "object.__class__"))) && (He.eqO (PySem.W.specialIn K (.builtin "object.__class__") "__get__") (some (some (.builtin "getset_descriptor.__get__"))) &&
    (decide (PySem.W.takesIn K (.builtin "object.__class__") = some true) && decide (PySem.W.mroIn K (He.ga K p.1) (.type "object") = some true))))))) &&
  ((cl.all fun q => decide (PySem.W.exmOne K (.ref (He.ga K p.1)) (.ref (He.ga K q.1)) = some (decide (q.1 ∈ p.2))) && decide (PySem.W.kitOne K (.ref (He.ga K p.1)) (.ref (He.ga K q.1)) = some (decide (q.1 ∈ p.2)))) &&
    decide (PySem.W.kitOne K (.ref (He.ga K p.1)) (.type "ValueError") = some (decide (("ValueError" : Str) ∈ p.2))))))
theorem clsChk_ok {cl : List (Str × List Str)} {K : PySem.W.Frag} {h : Heap} {mg : Str → Option Value} (X : K.In h) (G : h.Ns mainGlobals mg) (c : clsChk cl K = true) : ∀ p ∈ cl, ExcFacts K mg cl p := by
  intro p hp
  have q := List.all_eq_true.mp c p hp
  simp only [Bool.and_eq_true, decide_eq_true_eq, List.all_eq_true] at q
  obtain ⟨c1, c2, ⟨d1, d2, d3, d4, d5, d6, d7⟩, e1, e2⟩ := q
  obtain ⟨x1, x2, x3, x4⟩ := He.exc_ok c2
  exact ⟨He.glo_ok X G c1, x1, x2, x3, x4, ⟨He.eqO_ok d1, He.eqO_ok d2, x3, d3, He.eqO_ok d4, He.eqO_ok d5, d6, d7⟩, fun q hq => (e1 q hq).1, fun q hq => (e1 q hq).2, e2⟩
/-- the head's look: the defs, the names, the own exception classes -/
abbrev AlF : Type := He.AlD × Bool
/-- the place of sys.modules holds a dict -/
def smB (K : PySem.W.Frag) : Bool := match K.lookup sysModules with
  | some ⟨_, _, .dict _ _, _⟩ => true
  | _ => false
theorem smB_ok {K : PySem.W.Frag} (h : smB K = true) : SmD K := by
  unfold smB at h
  split at h
  · rename_i e
    exact ⟨_, _, _, e, rfl⟩
  · cases h
def frS (n : Nat) (g : Addr → Option Obj) : PySem.W.Frag := He.frG g (sysModules :: He.asD g n)
def obsF (n : Nat) (fa : List He.Fa) (fn : List He.DefD) (cl : List (Str × List Str)) (g : Addr → Option Obj) : AlF := (He.obsD fa fn (frS n g), clsChk cl (frS n g) && smB (frS n g))
def hookF (n : Nat) (fa : List He.Fa) (fn : List He.DefD) (cl : List (Str × List Str)) : PySem.W.Hook where
  α := AlF
  obs := fun s => obsF n fa fn cl s.heap.get?
  val := fun _ => (He.valD fn, true)
  says := fun _ h => ∃ K : PySem.W.Frag, K.In h ∧ He.SaysD fa fn K ∧ (clsChk cl K && smB K) = true
  of := fun _ _ e => ⟨_, He.frG_in, congrArg Prod.fst e, congrArg Prod.snd e⟩
  keeps := fun _ _ _ ⟨K, hK, c, d⟩ k => ⟨K, PySem.W.Frag.In.keeps hK k, c, d⟩
theorem obsF_eq {n : Nat} {fa : List He.Fa} {fn : List He.DefD} {cl : List (Str × List Str)} {g : Addr → Option Obj} {s : Shared} (h : ∀ a, g a = s.heap.get? a) : obsF n fa fn cl g = (hookF n fa fn cl).obs s := by
  have e : g = s.heap.get? := funext h
  rw [e]
  rfl
theorem repl_ints {K : KX} {F : Hp} {ρ : Ro} {m : MH} : ∀ ns : List Int, RepL K F ρ m (ns.map .int) (ns.map V.int)
  | [] => .nil
  | n :: ns => .cons (.int n) (repl_ints ns)
/-- the law's call answers True: F gives the written part, the program's place -/
theorem law_end {ι : Type} {P : Program} {w : World} {K : PySem.W.Frag} {mg mb : Str → Option Value} {fa a : Addr} {x : Str} {s₁ : Shared} {vs : List Value} {ns : List Int} {p : Prg ι} {f : ι} {d : Nat}
    (KX : K.In s₁.heap) (hns : s₁.heap.Ns mainGlobals mg) (hb : s₁.heap.Ns builtinsNs mb) (hbb : ∀ x : Str, x ≠ "__name__" → mb x = bootBuiltins x) (hlim : s₁.heap.NoLimit) (hg : s₁.gens = #[])
    (ha : s₁.heap.get? a = some { cls := .type "list", data := .seq vs.toArray }) (hi : IntsAre vs ns) (hl : ns.length ≤ sizeLine) (hr : Room (2 * d) callerA) (hkf : (p.kd f).isFn = true) (hgd : callerA.guards = some [])
    (hok' : ∀ f, p.ok f = true) (hcl : p.cl = clsOf P) (L : Laid p K mg) (hfa : mg (p.nm f) = some (.ref fa)) (hps : p.ps f = [x]) (hbind : ∀ (s : Shared) (u : Value), BindsTo s (L.fd f) ⟨[u], []⟩ [(x, u)])
    (ht : run p.P d f [.scr (ns.map .int)] [] = .ok (.bl true) []) :
    codeAny (model P w) callerA (.call (.ref fa) ⟨[.ref a], []⟩) (fun r s' => r = .ok (.ret (.bool true)) ∧ OldK s₁.heap s'.heap ∧ s'.os = s₁.os ∧ AllBare s'.gens) s₁ := by
  have e := hfa.symm.trans (L.glo f hkf)
  cases e
  have rv := vals_ints hi
  have hlen := hi.length
  have main : ∀ H : Hp, (∀ b, H b ≠ none → b = a ∧ K.lookup a = none) → (∀ b o, s₁.heap.get? b = some o → ∀ u, H b = some u → ∃ xs, u = .frz o (.lst xs)) → HOk P w H s₁.heap → SqL K H a (ns.map V.int) →
      codeAny (model P w) callerA (.call (.ref (L.ad f)) ⟨[.ref a], []⟩) (fun r s' => r = .ok (.ret (.bool true)) ∧ OldK s₁.heap s'.heap ∧ s'.os = s₁.os ∧ AllBare s'.gens) s₁ := by
    intro H only frz hok hS
    have out : ∀ {b : Addr} {o : Obj}, K.lookup b = some o → H b = none := fun {b o} e => by
      cases q : H b with
      | none => rfl
      | some u =>
        obtain ⟨rfl, n⟩ := only b (by rw [q]; simp)
        rw [e] at n; cases n
    have outD : ∀ {b : Addr} {o : Obj} {es : Array DictEntry} {ep : Nat}, s₁.heap.get? b = some o → o.data = .dict es ep → H b = none := fun {b o es ep} e dd => by
      cases q : H b with
      | none => rfl
      | some u =>
        obtain ⟨rfl, _⟩ := only b (by rw [q]; simp)
        rw [ha] at e; cases e
        cases (show Data.seq vs.toArray _ = Data.dict es ep from dd)
    have nsH : ∀ {b : Addr} {g : Str → Option Value}, s₁.heap.Ns b g → (hidT s₁.heap H).Ns b g := by
      rintro b g ⟨o, es, ep, e, dd, r⟩
      exact ⟨o, es, ep, hidT_get e (outD e dd), dd, r⟩
    have KH : K.In (hidT s₁.heap H) := fun b o e => hidT_get (KX b o e) (out e)
    have mod : Mod K mg (hidT s₁.heap H) := by
      obtain ⟨mc, c1, c2⟩ := hlim
      exact ⟨KH, nsH hns, ⟨mb, nsH hb, hbb⟩, ⟨mc, nsH c1, c2⟩⟩
    have env : Env0 P w K mg (hidT s₁.heap H) callerA [] s₁ H :=
      { frames := rfl, mod := mod, bs := fun _ _ q => of_hidT q, bsz := by rw [hidT_size]; exact Nat.le_refl _, funs := trivial, frf := fun _ q => (by cases q), hok := hok, bare := AllBare.of_eq hg }
    have F := prog_ok (P := P) (w := w) (base := hidT s₁.heap H) p hok' hcl L d f
    rw [Prg.sp_fn hkf] at F
    have hrl : Rl (k0 K) H (fun _ _ => 0) [] H := ⟨fun _ _ q => q, fun l i o q => by simp [get] at q, fun l i l' i' q => by simp [Lv, get] at q, fun l i o q => by simp [get] at q⟩
    have hargs : RepL (k0 K) H (fun _ _ => 0) [] [.scr (ns.map .int)] [.ref a] := .one (.scr hS (by simpa using hl) (repl_ints ns))
    have hsp : spF (k0 K) (rxO p.cl) (run p.P d f) [.ref a] H (fun v _ => v = .bl true) (fun _ _ _ => False) := by
      refine ⟨H, fun _ _ => 0, [], [.scr (ns.map .int)], hrl, hargs, ?_⟩
      rw [ht]
      intro F' ρ' H' v _ _ _ _ r
      exact r.bl_of
    have hb1 : BindsTo s₁ (L.fd f) ⟨[.ref a], []⟩ ((p.ps f).zip [.ref a]) := by rw [hps]; exact hbind s₁ (.ref a)
    refine codeAny_mono (F.run callerA [] s₁ H ⟨[.ref a], []⟩ [.ref a] [.ref a] (fun v _ => v = .bl true) (fun _ _ _ => False) hr hgd env hb1 (.cons rfl .nil) hsp) fun r s' q => ?_
    match r, q with
    | .error e, q =>
      obtain ⟨_, _, _, _, _, _, _, _, _, _, _, _, q⟩ := q
      exact q.elim
    | .ok (.ret u), q =>
      obtain ⟨v, H', hos, hbare, un, hok2, hrel, hv⟩ := q
      subst hv
      cases (show u = Value.bool true from hrel)
      refine ⟨rfl, OldK.of_keep fun b o e => ?_, hos, hbare⟩
      cases q : H b with
      | none => exact un.keep b o e q (fun z => by cases z) (fun z => by cases z)
      | some u =>
        obtain ⟨xs, rfl⟩ := frz b o e u q
        obtain ⟨e3, _⟩ := hok2 b _ (un.frzs b o _ q)
        exact e3
  cases hk : K.lookup a with
  | some o =>
    have e := KX a o hk
    rw [ha] at e
    cases e
    refine main (fun _ => none) (fun b q => absurd rfl q) (fun b o _ u q => by cases q) (fun b u q => by cases (show (none : Option HO) = some u from q)) ?_
    exact .inr ⟨_, vs.toArray, _, hk, rfl, rfl, rfl, by simpa [hlen] using hl, by simpa using rv⟩
  | none =>
    refine main (fun b => if b = a then some (.frz { cls := .type "list", data := .seq vs.toArray } (.lst (ns.map V.int))) else none) (fun b q => ?_) (fun b o e u q => ?_) (fun b u q => ?_) (.inl (.inr ⟨_, if_pos rfl⟩))
    · by_cases z : b = a
      · exact ⟨z, hk⟩
      · exact absurd (if_neg z) q
    · by_cases z : b = a
      · subst z
        rw [ha] at e; cases e
        simp only [if_true, Option.some.injEq] at q
        exact ⟨_, q.symm⟩
      · simp only [if_neg z] at q; cases q
    · by_cases z : b = a
      · subst z
        simp only [if_true, Option.some.injEq] at q
        subst q
        exact ⟨ha, by rw [List.length_map]; exact hl, vs, _, rv, ha⟩
      · simp only [if_neg z] at q; cases q

/-- the goal behind the head's facts -/
theorem walk_end {ι : Type} {l : PySem.W.OpenLaw} {q : Program} {loose : List Str} {XP : (Str → Option Value) → Heap → Prop} {YP : World → Heap → Prop} {df : DefRec} {p : Prg ι} {f : ι} {x : Str} (hn : l.most = some 63) (hdf : df.params.defaults = [])
    (hok : ∀ f, p.ok f = true) (hcl : p.cl = clsOf l.prog) (hkf : (p.kd f).isFn = true) (hps : p.ps f = [x])
    (hY : ∀ (w : World) (mg : Str → Option Value) (fa : Addr) (h : Heap), YP w h → h.Ns mainGlobals mg → mg df.name = some (.ref fa) →
      ∃ (K : PySem.W.Frag), K.In h ∧ mg (p.nm f) = some (.ref fa) ∧ ∃ L : Laid p K mg, ∀ (s : Shared) (u : Value), BindsTo s (L.fd f) ⟨[u], []⟩ [(x, u)])
    (ht : ∀ ns : List Int, ns.length ≤ 63 → (∀ z ∈ ns, Builtin.Int.intBits z ≤ 1048576) → ∃ d, d ≤ 20 ∧ run p.P d f [.scr (ns.map .int)] [] = .ok (.bl true) []) :
    PySem.W.WalkO q loose XP YP l.row.toRowW df [] (fun f vs => PySem.call f vs) := by
  refine Att.attach_callB hn hdf fun w s₀ s₁ mg mb fa o pm cd doc a vs ns G Y ho hd hcd hmg hobj hints hlen hbits hg => ?_
  obtain ⟨K, KX, hfa, L, hb⟩ := hY w mg fa _ Y G.T.g hmg
  obtain ⟨d, hd40, htr⟩ := ht ns hlen hbits
  have hroom : Room (2 * d) callerA := Room.mono (k := 40) ⟨rfl, by decide +kernel, by decide +kernel⟩ (by omega)
  exact law_end (p := p) (f := f) (d := d) KX G.T.g G.T.b G.T.builtins G.T.nolimit hg hobj hints (Nat.le_trans hlen (by rw [sizeLine_eq]; omega)) hroom hkf rfl hok hcl L hfa hps hb htr
/-- where an id's function stands -/
def kdAt (nm : Str) : Kd → Str × Option Str
  | .fn => (nm, none)
  | .ini c => (c, some "__init__")
  | .meth c m => (c, some m)
/-- the defs' places from what the head's Hook says -/
noncomputable def laid_of {ι : Type} {p : Prg ι} {fas : List He.Fa} {fns : List He.DefD} {K : PySem.W.Frag} {h : Heap} {mg : Str → Option Value} (X : K.In h) (G : h.Ns mainGlobals mg) (c : He.SaysD fas fns K)
    (ix : ι → Nat) (h1 : ∀ f, fns[ix f]? = some (p.dd f)) (h2 : ∀ f, (p.kd f).isFn = true → He.Fa.glo (p.nm f) ∈ fas) (h3 : ∀ f, (p.dd f).at_ = kdAt (p.nm f) (p.kd f))
    (h7 : ∀ q ∈ p.wl, He.Fa.cls q.1 ∈ fas ∧ ∀ f ∈ q.2, He.Fa.noat q.1 f ∈ fas) (h8 : ∀ f c, p.kd f = .ini c → He.Fa.glo c ∈ fas ∧ He.Fa.mkr c ∈ fas) (h9 : ∀ f c m, p.kd f = .meth c m → He.Fa.meth c m ∈ fas) (h4 : ∀ f, (p.dd f).dfl = [] ∧ (p.dd f).kwd = [])
    (h5 : ∀ x ∈ freeNames, He.Fa.free x ∈ fas) (h6 : ∀ q ∈ p.gl, He.Fa.int q.1 q.2 ∈ fas) (hx : (clsChk p.cl K && smB K) = true)
    (hb : ∀ f fd a, FunD K (p.dd f).name (p.dd f).qual (p.dd f).params (p.dd f).body (p.dd f).scope [] [] a fd → Binds K fd (p.ps f) []) : Laid p K mg := by
  have fact : ∀ {f : He.Fa}, f ∈ fas → f.ok K = true := fun {f} hf => by
    obtain ⟨i, hi, e⟩ := List.mem_iff_getElem.mp hf
    exact c.fact i (by rw [List.getElem?_eq_getElem hi, e])
  have hd : ∀ f, ∃ fd, FunD K (p.dd f).name (p.dd f).qual (p.dd f).params (p.dd f).body (p.dd f).scope [] [] (He.fAd K (kdAt (p.nm f) (p.kd f))) fd := fun f => by
    obtain ⟨fd, F⟩ := c.def_ (ix f) (h1 f)
    have e1 : (p.dd f).dvs K = [] := by unfold He.DefD.dvs; rw [(h4 f).1]; rfl
    have e2 : (p.dd f).kws K = [] := by unfold He.DefD.kws; rw [(h4 f).2]; rfl
    rw [h3, e1, e2] at F
    exact ⟨fd, F⟩
  exact { ad := fun f => He.fAd K (kdAt (p.nm f) (p.kd f)), fd := fun f => (hd f).choose, def_ := fun f => (hd f).choose_spec
          glo := fun f hf => by
            have e := He.glo_ok X G (fact (h2 f hf))
            cases k : p.kd f <;> rw [k] at hf <;> first | exact e | cases hf
          bind := fun f => hb f _ _ (hd f).choose_spec
          free := fun x hx => He.free_ok X G (fact (h5 x hx))
          glb := fun q hq => He.int_ok X G (fact (h6 q hq))
          exf := clsChk_ok X G (Bool.and_eq_true_iff.mp hx).1
          smd := smB_ok (Bool.and_eq_true_iff.mp hx).2
          cw := fun q hq => ⟨He.cls_ok (fact (h7 q hq).1), fun f hf => He.noat_ok (fact ((h7 q hq).2 f hf))⟩
          mkr := fun f c' hf => by
            cases k : p.kd f with
            | ini c2 =>
              rw [k] at hf
              have : c2 = c' := by simpa [Kd.isMk] using hf
              subst this
              exact ⟨He.glo_ok X G (fact (h8 f _ k).1), He.mkr_ok (fact (h8 f _ k).2)⟩
            | fn => rw [k] at hf; cases hf
            | meth => rw [k] at hf; cases hf
          len := fun f c' hf => by
            cases k : p.kd f with
            | meth c2 m =>
              rw [k] at hf
              simp only [Kd.isLen, Bool.and_eq_true, decide_eq_true_eq] at hf
              obtain ⟨rfl, rfl⟩ := hf
              have q := He.meth_ok (fact (h9 f _ _ k))
              exact ⟨q.at_, q.fn⟩
            | fn => rw [k] at hf; cases hf
            | ini => rw [k] at hf; cases hf }
end Fw

set_option Elab.async false
set_option linter.all false
set_option maxRecDepth 100000
set_option maxHeartbeats 1000000
set_option autoImplicit false
/-! ## Fw13: tools for what run gives: loops, repr, comparisons -/
namespace Fw
open PySem

/-! ### while -/
theorem whlN_up {c : Env → MH → Res Bool} {b : Env → MH → Res Fl} : ∀ (k : Nat) {v : Env} {m : MH} {r : Res Fl}, whlN c b k v m = r → r ≠ .fail → whlN c b (k + 1) v m = r
  | 0, v, m, r, h, hr => absurd h.symm (by simpa [whlN] using hr)
  | k + 1, v, m, r, h, hr => by
    unfold whlN at h ⊢
    cases e : c v m with
    | fail => rw [e] at h; exact absurd h.symm hr
    | exc x m' => rw [e] at h; exact h
    | ok t m1 =>
      rw [e] at h
      cases t with
      | false => exact h
      | true =>
        simp only [Res.st_ok, if_true] at h ⊢
        cases e2 : b v m1 with
        | fail => rw [e2] at h; exact absurd h.symm hr
        | exc x m' => rw [e2] at h; exact h
        | ok fl m2 =>
          rw [e2] at h
          cases fl with
          | rt d => exact h
          | ex x v => exact h
          | nx v2 =>
            simp only [Res.then_nx] at h ⊢
            exact whlN_up k h hr
theorem whlN_le {c : Env → MH → Res Bool} {b : Env → MH → Res Fl} {k j : Nat} {v : Env} {m : MH} {r : Res Fl} (h : whlN c b k v m = r) (hr : r ≠ .fail) (hj : k ≤ j) : whlN c b j v m = r := by
  obtain ⟨i, rfl⟩ := Nat.exists_eq_add_of_le hj
  clear hj
  induction i with
  | zero => exact h
  | succ i ih => exact whlN_up _ ih hr
theorem whl_of {c : Env → MH → Res Bool} {b : Env → MH → Res Fl} {k : Nat} {v : Env} {m : MH} {r : Res Fl} (h : whlN c b k v m = r) (hr : r ≠ .fail) : whl c b v m = r := by
  have e : ∃ k, whlN c b k v m ≠ .fail := ⟨k, by rw [h]; exact hr⟩
  unfold whl
  rw [dif_pos e]
  have h2 := e.choose_spec
  have h3 := whlN_le (j := max k e.choose) h hr (Nat.le_max_left _ _)
  have h4 := whlN_le (j := max k e.choose) (rfl : whlN c b e.choose v m = _) h2 (Nat.le_max_right _ _)
  rw [← h4, h3]
theorem whl_eq (c : Env → MH → Res Bool) (b : Env → MH → Res Fl) (v : Env) (m : MH) : whl c b v m = (c v m).st v fun t m => if t then (b v m).then_ fun v m => whl c b v m else .ok (.nx v) m := by
  by_cases h : ∃ k, whlN c b k v m ≠ .fail
  · obtain ⟨k, hk⟩ := h
    rw [whl_of rfl hk]
    cases k with
    | zero => exact absurd rfl hk
    | succ k =>
      unfold whlN at hk ⊢
      cases e : c v m with
      | fail => rfl
      | exc x m' => rfl
      | ok t m1 =>
        rw [e] at hk
        cases t with
        | false => rfl
        | true =>
          simp only [Res.st_ok, if_true] at hk ⊢
          cases e2 : b v m1 with
          | fail => rfl
          | exc x m' => rfl
          | ok fl m2 =>
            rw [e2] at hk
            cases fl with
            | rt d => rfl
            | ex x v => rfl
            | nx v2 =>
              simp only [Res.then_nx] at hk ⊢
              exact (whl_of rfl hk).symm
  · have all : ∀ k, whlN c b k v m = .fail := fun k => Classical.not_not.mp fun q => h ⟨k, q⟩
    have e0 : whl c b v m = .fail := by unfold whl; rw [dif_neg h]
    rw [e0]
    cases e : c v m with
    | fail => rfl
    | exc x m' => have := all 1; unfold whlN at this; rw [e] at this; cases this
    | ok t m1 =>
      cases t with
      | false => have := all 1; unfold whlN at this; rw [e] at this; cases this
      | true =>
        simp only [Res.st_ok, if_true]
        cases e2 : b v m1 with
        | fail => rfl
        | exc x m' => rfl
        | ok fl m2 =>
          cases fl with
          | rt d => have := all 1; unfold whlN at this; rw [e] at this; simp only [Res.st_ok, if_true, e2] at this; cases this
          | ex x v2 => have := all 1; unfold whlN at this; rw [e] at this; simp only [Res.st_ok, if_true, e2] at this; cases this
          | nx v2 =>
            simp only [Res.then_nx]
            unfold whl
            split
            · rename_i h2
              obtain ⟨k, hk⟩ := h2
              exfalso
              have := all (k + 1)
              unfold whlN at this
              rw [e] at this
              simp only [Res.st_ok, if_true, e2, Res.then_nx] at this
              exact hk this
            · rfl

/-! ### what holds behind -/
theorem Post.bind_iff {α β : Type} {r : Res α} {f : α → MH → Res β} {ok : β → MH → Prop} {ex : Exc → MH → Prop} : Post (r.bind f) ok ex ↔ Post r (fun a m => Post (f a m) ok ex) ex := by
  cases r <;> exact Iff.rfl
theorem Post.then_iff {r : Res Fl} {f : Env → MH → Res Fl} {ok : Fl → MH → Prop} : Post (r.then_ f) ok noE ↔ Post r (fun fl m => match fl with
    | .nx v => Post (f v m) ok noE
    | fl => ok fl m) noE := by
  cases r with
  | ok a m => cases a <;> exact Iff.rfl
  | exc => exact Iff.rfl
  | fail => exact Iff.rfl
@[simp] theorem Post.ok_iff {α : Type} {a : α} {m : MH} {ok : α → MH → Prop} {ex : Exc → MH → Prop} : Post (.ok a m) ok ex ↔ ok a m := Iff.rfl
@[simp] theorem Post.exc_iff {α : Type} {x : Exc} {m : MH} {ok : α → MH → Prop} {ex : Exc → MH → Prop} : Post (.exc x m : Res α) ok ex ↔ ex x m := Iff.rfl
@[simp] theorem Post.fail_iff {α : Type} {ok : α → MH → Prop} {ex : Exc → MH → Prop} : Post (.fail : Res α) ok ex ↔ False := Iff.rfl
/-- a loop over items -/
theorem forL_inv {g : D → Env → MH → Res Env} {b : Env → MH → Res Fl} {ok : Fl → MH → Prop} (I : List D → Env → MH → Prop) (h0 : ∀ v m, I [] v m → ok (.nx v) m)
    (hs : ∀ x xs v m, I (x :: xs) v m → Post (g x v m) (fun v m => Post (b v m) (fun fl m => match fl with
      | .nx v => I xs v m
      | fl => ok fl m) noE) noE) : ∀ xs v m, I xs v m → Post (forL g b xs v m) ok noE
  | [], v, m, h => h0 v m h
  | x :: xs, v, m, h => by
    unfold forL
    have q := hs x xs v m h
    cases e : g x v m with
    | fail => rw [e] at q; exact q.elim
    | exc => rw [e] at q; exact q.elim
    | ok v2 m2 =>
      rw [e] at q
      simp only [Res.tg_ok]
      rw [Post.then_iff]
      refine Post.imp (show Post (b v2 m2) _ _ from q) (fun fl m q => ?_) fun _ _ z => z
      cases fl with
      | nx v => exact forL_inv I h0 hs xs v m q
      | rt d => exact q
      | ex x v => exact q
/-- a while loop with a measure -/
theorem whl_inv {c : Env → MH → Res Bool} {b : Env → MH → Res Fl} {ok : Fl → MH → Prop} (I : Nat → Env → MH → Prop)
    (hs : ∀ n v m, I n v m → Post (c v m) (fun t m => if t then Post (b v m) (fun fl m => match fl with
      | .nx v => ∃ j, j < n ∧ I j v m
      | fl => ok fl m) noE else ok (.nx v) m) noE) : ∀ n v m, I n v m → Post (whl c b v m) ok noE := by
  intro n
  induction n using Nat.strongRecOn with
  | ind n ih =>
    intro v m h
    rw [whl_eq]
    have q := hs n v m h
    cases e : c v m with
    | fail => rw [e] at q; exact q.elim
    | exc => rw [e] at q; exact q.elim
    | ok t m2 =>
      rw [e] at q
      simp only [Res.st_ok]
      cases t with
      | false => exact q
      | true =>
        simp only [if_true]
        rw [Post.then_iff]
        refine Post.imp (show Post (b v m2) _ _ from q) (fun fl m q => ?_) fun _ _ z => z
        cases fl with
        | nx v => obtain ⟨j, hj, hI⟩ := q; exact ih j hj v m hI
        | rt d => exact q
        | ex x v => exact q

/-! ### a shown text's room -/
mutual
def roomOf : PyData → Nat
  | .none => 4
  | .bool _ => 5
  | .int _ => 1921
  | .str x => (reprText x).length
  | .list xs => roomAll xs + 2
  | .tuple xs => roomAll xs + 3
  | .dict kvs => roomKv kvs + 2
def roomAll : List PyData → Nat
  | [] => 0
  | x :: xs => roomOf x + 2 + roomAll xs
def roomKv : List (PyData × PyData) → Nat
  | [] => 0
  | (k, v) :: r => roomOf k + roomOf v + 4 + roomKv r
end
theorem join_le : ∀ ts : List Str, (Str.join ", " ts).length ≤ piled ts
  | [] => Nat.le_refl 0
  | t :: ts => by
    have := join_length_add (t :: ts) (by simp)
    omega
theorem listText_le (ts : List Str) : (listText ts).length ≤ piled ts + 2 := by
  cases ts with
  | nil => decide
  | cons t r =>
    unfold listText
    rw [strLen_append]
    show (textFrom 1 (("[" : Str) ++ (if (0 : Nat) > 0 then ", " else "" : String) ++ t) r).length + 1 ≤ _
    rw [textFrom_length_pos r 1 _ (by omega), strLen_append, strLen_append, piled_cons]
    have h1 : (("[" : String) : Str).length = 1 := rfl
    have h2 : ((if (0 : Nat) > 0 then ", " else "" : String) : Str).length = 0 := rfl
    rw [h1, h2]
    omega
theorem tupleText_le (ts : List Str) : (tupleText ts).length ≤ piled ts + 3 := by
  unfold tupleText
  rw [strLen_append, strLen_append]
  have h1 : ((("(" : String) : Str)).length = 1 := rfl
  have h2 : (((if ts.length == 1 then ",)" else ")" : String) : Str)).length ≤ 2 := by split <;> decide
  have := join_le ts
  omega
theorem dictText_le (ts : List Str) : (dictText ts).length ≤ piled ts + 2 := by
  unfold dictText
  rw [strLen_append, strLen_append]
  have h1 : ((("{" : String) : Str)).length = 1 := rfl
  have h2 : ((("}" : String) : Str)).length = 1 := rfl
  have := join_le ts
  omega
mutual
theorem shown_le : ∀ d : PyData, d.showable = true → d.shown.length ≤ roomOf d
  | .none, _ => by simp only [PyData.shown, roomOf]; decide
  | .bool b, _ => by cases b <;> (simp only [PyData.shown, roomOf]; decide)
  | .int i, h => by
    simp only [PyData.shown, roomOf]
    rw [ofString_length]
    exact int_text_length_le (by omega) (by simpa [PyData.showable] using h)
  | .str x, _ => by simp only [PyData.shown, roomOf]; exact Nat.le_refl _
  | .list xs, h => by
    simp only [PyData.shown, roomOf]
    have := shownAll_le xs (by simpa [PyData.showable] using h)
    have := listText_le (PyData.shownAll xs)
    omega
  | .tuple xs, h => by
    simp only [PyData.shown, roomOf]
    have := shownAll_le xs (by simpa [PyData.showable] using h)
    have := tupleText_le (PyData.shownAll xs)
    omega
  | .dict kvs, h => by
    simp only [PyData.shown, roomOf]
    have := shownKv_le kvs (by simpa [PyData.showable] using h)
    have := dictText_le (PyData.shownKv kvs)
    omega
theorem shownAll_le : ∀ xs : List PyData, PyData.showableAll xs = true → piled (PyData.shownAll xs) ≤ roomAll xs
  | [], _ => by simp only [PyData.shownAll, roomAll]; exact Nat.le_refl _
  | x :: xs, h => by
    simp only [PyData.showableAll, Bool.and_eq_true] at h
    simp only [PyData.shownAll, roomAll, piled_cons]
    have := shown_le x h.1
    have := shownAll_le xs h.2
    omega
theorem shownKv_le : ∀ xs : List (PyData × PyData), PyData.showableKv xs = true → piled (PyData.shownKv xs) ≤ roomKv xs
  | [], _ => by simp only [PyData.shownKv, roomKv]; exact Nat.le_refl _
  | (k, v) :: xs, h => by
    simp only [PyData.showableKv, Bool.and_eq_true] at h
    simp only [PyData.shownKv, roomKv, piled_cons, strLen_append]
    have := shown_le k h.1.1
    have := shown_le v h.1.2
    have := shownKv_le xs h.2
    have h2 : (((": " : String) : Str)).length = 2 := rfl
    rw [h2]
    omega
end
/-- repr of what is small -/
theorem reprD_of' {m : MH} {x : D} {a : PyData} (e : dat m x = some a) (h1 : a.showable = true) (h3 : a.depth ≤ 60) (h4 : roomOf a ≤ 16777216) : reprD m x = some a.shown := by
  unfold reprD
  rw [e]
  have := shown_le a h1
  have hs : a.shown.length ≤ sizeLine := by unfold sizeLine; omega
  simp [h1, h3, hs]
theorem reprD_of {m : MH} {x : D} {a : PyData} (e : dat m x = some a) (h1 : a.showable = true) (h2 : a.hasDict = true → noList a = true) (h3 : a.depth ≤ 60) (h4 : roomOf a ≤ 16777216) : reprD m x = some a.shown := reprD_of' e h1 h3 h4

/-! ### evaluation, step by step -/
@[simp] theorem sz1 : (1 ≤ sizeLine) = True := by simp [sizeLine]
@[simp] theorem sz2 : (2 ≤ sizeLine) = True := by simp [sizeLine]
@[simp] theorem sz3 : (3 ≤ sizeLine) = True := by simp [sizeLine]
@[simp] theorem sz4 : (4 ≤ sizeLine) = True := by simp [sizeLine]
@[simp] theorem sz5 : (5 ≤ sizeLine) = True := by simp [sizeLine]
@[simp] theorem sz6 : (6 ≤ sizeLine) = True := by simp [sizeLine]
@[simp] theorem sz7 : (7 ≤ sizeLine) = True := by simp [sizeLine]
@[simp] theorem sz8 : (8 ≤ sizeLine) = True := by simp [sizeLine]
@[simp] theorem sz9 : (9 ≤ sizeLine) = True := by simp [sizeLine]
@[simp] theorem sz10 : (10 ≤ sizeLine) = True := by simp [sizeLine]
@[simp] theorem sz11 : (11 ≤ sizeLine) = True := by simp [sizeLine]
@[simp] theorem sz12 : (12 ≤ sizeLine) = True := by simp [sizeLine]
@[simp] theorem sz13 : (13 ≤ sizeLine) = True := by simp [sizeLine]
@[simp] theorem sz14 : (14 ≤ sizeLine) = True := by simp [sizeLine]
@[simp] theorem sz15 : (15 ≤ sizeLine) = True := by simp [sizeLine]
@[simp] theorem sz16 : (16 ≤ sizeLine) = True := by simp [sizeLine]
@[simp] theorem sz17 : (17 ≤ sizeLine) = True := by simp [sizeLine]
@[simp] theorem sz18 : (18 ≤ sizeLine) = True := by simp [sizeLine]
@[simp] theorem sz19 : (19 ≤ sizeLine) = True := by simp [sizeLine]
@[simp] theorem sz20 : (20 ≤ sizeLine) = True := by simp [sizeLine]
@[simp] theorem sz21 : (21 ≤ sizeLine) = True := by simp [sizeLine]
@[simp] theorem sz22 : (22 ≤ sizeLine) = True := by simp [sizeLine]
@[simp] theorem sz23 : (23 ≤ sizeLine) = True := by simp [sizeLine]
@[simp] theorem sz24 : (24 ≤ sizeLine) = True := by simp [sizeLine]
@[simp] theorem sz25 : (25 ≤ sizeLine) = True := by simp [sizeLine]
@[simp] theorem sz26 : (26 ≤ sizeLine) = True := by simp [sizeLine]
@[simp] theorem sz27 : (27 ≤ sizeLine) = True := by simp [sizeLine]
@[simp] theorem sz28 : (28 ≤ sizeLine) = True := by simp [sizeLine]
@[simp] theorem sz29 : (29 ≤ sizeLine) = True := by simp [sizeLine]
@[simp] theorem sz30 : (30 ≤ sizeLine) = True := by simp [sizeLine]
section
variable {ι : Type} {call : ι → List D → MH → Res D} {v : Env} {m : MH} {a b c es : E ι} {x y : S ι}
@[simp] theorem e_lit (k : Lit) : (sem call (.lit k)).e v m = .ok (litD k) m := rfl
@[simp] theorem e_var (i : Nat) : (sem call (.var i)).e v m = .of (v.at_ i) m := rfl
@[simp] theorem l_nil : (sem call .nil).l v m = .ok [] m := rfl
@[simp] theorem l_cons : (sem call (.cons a b)).l v m = ((sem call a).e v m).bind fun x m => ((sem call b).l v m).bind fun xs m => .ok (x :: xs) m := rfl
@[simp] theorem e_tup : (sem call (.tup es)).e v m = ((sem call es).l v m).bind fun xs m => if xs.length ≤ sizeLine then .ok (.tup xs) m else .fail := rfl
@[simp] theorem e_lst : (sem call (.lst es)).e v m = ((sem call es).l v m).bind fun xs m => if xs.length ≤ sizeLine then .ok (.lst xs) m else .fail := rfl
@[simp] theorem e_new : (sem call (.new es)).e v m = ((sem call es).l v m).bind fun xs m => if xs.length ≤ sizeLine then alloc m (.lst xs) else .fail := rfl
@[simp] theorem e_bin (o : Op2) : (sem call (.bin o a b)).e v m = ((sem call a).e v m).bind fun x m => ((sem call b).e v m).bind fun y m => arith o x y m := rfl
@[simp] theorem e_neg : (sem call (.neg a)).e v m = ((sem call a).e v m).bind fun x m => (match x with
    | .int i => .ok (.int (-i)) m
    | _ => .fail) := rfl
@[simp] theorem e_cmp (o : Cm) : (sem call (.cmp o a b)).e v m = ((sem call a).e v m).bind fun x m => ((sem call b).e v m).bind fun y m => .of ((compare m o x y).map .bl) m := rfl
@[simp] theorem e_and : (sem call (.and a b)).e v m = ((sem call a).e v m).bind fun x m => (match x with
        | .bl true => (sem call b).e v m
        | .bl false => .ok (.bl false) m
        | _ => .fail) := rfl
@[simp] theorem e_or : (sem call (.or a b)).e v m = ((sem call a).e v m).bind fun x m => (match x with
        | .bl true => .ok (.bl true) m
        | .bl false => (sem call b).e v m
        | _ => .fail) := rfl
@[simp] theorem e_not : (sem call (.not a)).e v m = ((sem call a).e v m).bind fun x m => (match x with
      | .bl b => .ok (.bl (!b)) m
      | _ => .fail) := rfl
@[simp] theorem e_ite : (sem call (.ite c a b)).e v m = ((sem call c).t v m).bind fun t m => if t then (sem call a).e v m else (sem call b).e v m := rfl
@[simp] theorem e_call (f : ι) : (sem call (.call f es)).e v m = ((sem call es).l v m).bind fun xs m => call f xs m := rfl
@[simp] theorem e_bi (k : Bi) : (sem call (.bi k es)).e v m = ((sem call es).l v m).bind fun xs m => .of (built k xs m) m := rfl
@[simp] theorem e_isi (t : Ty) : (sem call (.isi a t)).e v m = ((sem call a).e v m).bind fun x m => if tyKnown m x then .ok (.bl (isTy m t x)) m else .fail := rfl
@[simp] theorem e_idx : (sem call (.idx a b)).e v m = ((sem call a).e v m).bind fun x m => ((sem call b).e v m).bind fun y m => .of (getAt m x y) m := rfl
@[simp] theorem e_app : (sem call (.app a b)).e v m = ((sem call a).e v m).bind fun x m => if isL m x then ((sem call b).e v m).bind fun y m => append x y m else .fail := rfl
@[simp] theorem e_chain (o o2 : Cm) : (sem call (.chain o o2 a b c)).e v m = ((sem call a).e v m).bind fun x m => ((sem call b).e v m).bind fun y m => (Res.of (compare m o x y) m).bind fun t m => if t then ((sem call c).e v m).bind fun z m => .of ((compare m o2 y z).map .bl) m else .ok (.bl false) m := rfl
@[simp] theorem o_nil : (sem call (.nil : E ι)).o v m = .ok none m := rfl
@[simp] theorem o_lit (k : Int) : (sem call (.lit (.int k) : E ι)).o v m = .ok (some k) m := rfl
@[simp] theorem o_var (i : Nat) : (sem call (.var i : E ι)).o v m = (Res.of (v.at_ i) m).bind fun x m => (match x with
    | .int i => .ok (some i) m
    | _ => .fail) := rfl
@[simp] theorem o_bin (o : Op2) : (sem call (.bin o a b)).o v m = ((sem call (.bin o a b)).e v m).bind fun x m => (match x with
    | .int i => .ok (some i) m
    | _ => .fail) := rfl
@[simp] theorem o_neg : (sem call (.neg a)).o v m = ((sem call (.neg a)).e v m).bind fun x m => (match x with
    | .int i => .ok (some i) m
    | _ => .fail) := rfl
@[simp] theorem e_sl (lo hi : E ι) : (sem call (.sl a lo hi)).e v m = ((sem call a).e v m).bind fun x m => ((sem call lo).o v m).bind fun l m => ((sem call hi).o v m).bind fun h m => .of (slD m x l h) m := rfl
@[simp] theorem e_glob (x : Str) (i : Int) : (sem call (.glob x i : E ι)).e v m = .ok (.int i) m := rfl
@[simp] theorem e_dlit (ks vs : List Int) : (sem call (.dlit ks vs : E ι)).e v m = .ok (.dct ks (vs.map .int)) m := rfl
@[simp] theorem e_isE (x : Str) : (sem call (.isE a x)).e v m = ((sem call a).e v m).bind fun y m => .of (isED x y) m := rfl
theorem e_lc (mu : Bool) (own : List (Str × Nat)) (t : Pt) (it : E ι) : (sem call (.lc mu own t it c a)).e v m = ((sem call it).w v m).bind fun w m => if lenW w ≤ sizeLine then (lcW (ptg t).1 (sem call c).t (sem call a).e (wipeE v (own.map (·.2))) w (lenW w + 1) 0 m).nox.bind fun ys m => if mu then alloc m (.lst ys) else .ok (.lst ys) m else .fail := rfl
@[simp] theorem e_rev : (sem call (.rev a)).e v m = ((sem call a).e v m).bind fun x m => .of (revD m x) m := rfl
@[simp] theorem e_m1 (k : Mk) : (sem call (.m1 k a b)).e v m = ((sem call a).e v m).bind fun x m => if isLs m x then ((sem call b).e v m).bind fun y m => .of (m1D k m x y) m else .fail := rfl
@[simp] theorem e_pop : (sem call (.pop a b)).e v m = ((sem call a).e v m).bind fun x m => if isL m x then ((sem call b).e v m).bind fun y m => popD x y m else .fail := rfl
@[simp] theorem w_zip : (sem call (.zip a b)).w v m = ((sem call a).e v m).bind fun x m => ((sem call b).e v m).bind fun y m => .of ((zipD x y).map .items) m := rfl
@[simp] theorem w_enum : (sem call (.enum a)).w v m = ((sem call a).e v m).bind fun x m => .of ((enumD x).map .items) m := rfl
@[simp] theorem e_nbin (o : Op2) : (sem call (.nbin o a b)).e v m = ((sem call a).e v m).bind fun x m => ((sem call b).e v m).bind fun y m => nbinD o x y m := rfl
@[simp] theorem e_nlst : (sem call (.nlst a)).e v m = ((sem call a).e v m).bind fun x m => (match seqOf m x with
    | some xs => alloc m (.lst xs)
    | none => .fail) := rfl
@[simp] theorem e_fld (c f : Str) : (sem call (.fld c a f)).e v m = ((sem call a).e v m).bind fun x m => .of (fldD c f x) m := rfl
@[simp] theorem e_mk (f : ι) : (sem call (.mk f a)).e v m = ((sem call a).e v m).bind fun x m => call f [x] m := rfl
@[simp] theorem e_anyv : (sem call (.anyv : E ι)).e v m = .ok .any m := rfl
@[simp] theorem e_ins (cn : Str) (ns : List Str) : (sem call (.ins cn ns es)).e v m = ((sem call es).l v m).bind fun xs m => if xs.length = ns.length then .ok (.ins cn ns xs) m else .fail := rfl
@[simp] theorem e_lenI (cn : Str) (f : ι) : (sem call (.lenI cn f a)).e v m = ((sem call a).e v m).bind fun x m => if isIns cn x then (call f [x] m).nox.bind fun y m => (match y with
    | .int i => if 0 ≤ i ∧ i < 2 ^ 62 then .ok (.int i) m else .fail
    | _ => .fail) else .fail := rfl
@[simp] theorem e_lrng (k : Lr) : (sem call (.lrng k a)).e v m = ((sem call a).e v m).bind fun x m => lrngR k x m := rfl
@[simp] theorem e_setLen : (sem call (.setLen a)).e v m = ((sem call a).e v m).bind fun x m => .of (setLenD x) m := rfl
@[simp] theorem t_nil : (sem call (.nil : E ι)).t v m = .ok true m := rfl
theorem t_of {r : Res D} : ((r.bind fun x m => Res.of (truth m x) m) : Res Bool) = r.bind fun x m => (match x with
    | .bl b => .ok b m
    | _ => .fail) := by
  cases r with
  | ok x m => cases x <;> rfl
  | exc => rfl
  | fail => rfl
@[simp] theorem t_var (i : Nat) : (sem call (.var i)).t v m = (Res.of (v.at_ i) m).bind fun x m => (match x with
    | .bl b => .ok b m
    | _ => .fail) := t_of
@[simp] theorem t_lit (k : Lit) : (sem call (.lit k)).t v m = (match litD k with
    | .bl b => .ok b m
    | _ => .fail) := by cases k <;> rfl
@[simp] theorem t_call (f : ι) : (sem call (.call f es)).t v m = ((sem call es).l v m).bind fun xs m => (call f xs m).bind fun x m => (match x with
    | .bl b => .ok b m
    | _ => .fail) := by
  show (((sem call es).l v m).bind fun xs m => call f xs m).bind _ = _
  cases (sem call es).l v m with
  | ok xs m => exact t_of
  | exc => rfl
  | fail => rfl
@[simp] theorem t_cmp (o : Cm) : (sem call (.cmp o a b)).t v m = ((sem call a).e v m).bind fun x m => ((sem call b).e v m).bind fun y m => .of (compare m o x y) m := by
  show (((sem call a).e v m).bind fun x m => ((sem call b).e v m).bind fun y m => Res.of ((compare m o x y).map D.bl) m).bind (fun x m => Res.of (truth m x) m) = _
  cases (sem call a).e v m with
  | ok x m =>
    simp only [Res.bind_ok]
    cases (sem call b).e v m with
    | ok y m =>
      simp only [Res.bind_ok]
      cases compare m o x y <;> rfl
    | exc => rfl
    | fail => rfl
  | exc => rfl
  | fail => rfl
@[simp] theorem t_chain (o o2 : Cm) : (sem call (.chain o o2 a b c)).t v m = ((sem call (.chain o o2 a b c)).e v m).bind fun x m => (match x with
    | .bl b => .ok b m
    | _ => .fail) := t_of
@[simp] theorem t_isE (x : Str) : (sem call (.isE a x)).t v m = ((sem call (.isE a x)).e v m).bind fun x m => (match x with
    | .bl b => .ok b m
    | _ => .fail) := t_of
@[simp] theorem t_idx : (sem call (.idx a b)).t v m = ((sem call (.idx a b)).e v m).bind fun x m => (match x with
    | .bl b => .ok b m
    | _ => .fail) := t_of
@[simp] theorem t_and : (sem call (.and a b)).t v m = ((sem call a).t v m).bind fun t m => if t then (sem call b).t v m else .ok false m := rfl
@[simp] theorem t_or : (sem call (.or a b)).t v m = ((sem call a).t v m).bind fun t m => if t then .ok true m else (sem call b).t v m := rfl
@[simp] theorem t_not : (sem call (.not a)).t v m = ((sem call a).t v m).bind fun t m => .ok (!t) m := rfl
@[simp] theorem t_isi (t : Ty) : (sem call (.isi a t)).t v m = ((sem call a).e v m).bind fun x m => if tyKnown m x then .ok (isTy m t x) m else .fail := by
  show (((sem call a).e v m).bind fun x m => if tyKnown m x then Res.ok (D.bl (isTy m t x)) m else .fail).bind (fun x m => Res.of (truth m x) m) = _
  cases (sem call a).e v m with
  | ok x m => simp only [Res.bind_ok]; split <;> rfl
  | exc => rfl
  | fail => rfl
@[simp] theorem t_bi (k : Bi) : (sem call (.bi k es)).t v m = ((sem call es).l v m).bind fun xs m => (Res.of (built k xs m) m).bind fun x m => (match x with
    | .bl b => .ok b m
    | _ => .fail) := by
  show (((sem call es).l v m).bind fun xs m => Res.of (built k xs m) m).bind _ = _
  cases (sem call es).l v m with
  | ok xs m => exact t_of
  | exc => rfl
  | fail => rfl
@[simp] theorem w_rng1 : (sem call (.rng1 a)).w v m = ((sem call a).e v m).bind fun x m => (match x with
    | .int n => if -(2 ^ 62) ≤ n ∧ n < 2 ^ 62 then .ok (.items (rangeD 0 n)) m else .fail
    | _ => .fail) := rfl
@[simp] theorem w_rng2 : (sem call (.rng2 a b)).w v m = ((sem call a).e v m).bind fun x m => ((sem call b).e v m).bind fun y m => (match x, y with
    | .int i, .int n => if (-(2 ^ 62) ≤ i ∧ i < 2 ^ 62) ∧ (-(2 ^ 62) ≤ n ∧ n < 2 ^ 62) then .ok (.items (rangeD i n)) m else .fail
    | _, _ => .fail) := rfl
def walked (m : MH) : D → Res Wk
  | .tup xs => .ok (.items xs) m
  | .lst xs => .ok (.items xs) m
  | .scr xs => .ok (.items xs) m
  | .ref l i => (match get m l i with
    | some (.lst xs) => .ok (.live l i xs.length) m
    | _ => .fail)
  | _ => .fail
theorem w_of {r : Res D} : ((r.bind fun x m => (match x with
    | .tup xs => .ok (.items xs) m
    | .lst xs => .ok (.items xs) m
    | .scr xs => .ok (.items xs) m
    | .ref l i => (match get m l i with
      | some (.lst xs) => .ok (.live l i xs.length) m
      | _ => .fail)
    | _ => .fail)) : Res Wk) = r.bind fun x m => walked m x := by
  cases r with
  | ok x m => cases x <;> rfl
  | exc => rfl
  | fail => rfl
@[simp] theorem w_var (i : Nat) : (sem call (.var i)).w v m = (Res.of (v.at_ i) m).bind fun x m => walked m x := w_of
@[simp] theorem w_lst : (sem call (.lst es)).w v m = (((sem call es).l v m).bind fun xs m => if xs.length ≤ sizeLine then Res.ok (.lst xs) m else .fail).bind fun x m => walked m x := w_of
@[simp] theorem w_tup : (sem call (.tup es)).w v m = (((sem call es).l v m).bind fun xs m => if xs.length ≤ sizeLine then Res.ok (.tup xs) m else .fail).bind fun x m => walked m x := w_of
@[simp] theorem w_bin (o : Op2) : (sem call (.bin o a b)).w v m = ((sem call (.bin o a b)).e v m).bind fun x m => walked m x := w_of
@[simp] theorem w_lc (mu : Bool) (own : List (Str × Nat)) (t : Pt) (it : E ι) : (sem call (.lc mu own t it c a)).w v m = ((sem call (.lc mu own t it c a)).e v m).bind fun x m => walked m x := w_of
@[simp] theorem w_sl (lo hi : E ι) : (sem call (.sl a lo hi)).w v m = ((sem call (.sl a lo hi)).e v m).bind fun x m => walked m x := w_of
@[simp] theorem w_idx : (sem call (.idx a b)).w v m = (((sem call a).e v m).bind fun x m => ((sem call b).e v m).bind fun y m => .of (getAt m x y) m).bind fun x m => walked m x := w_of
@[simp] theorem w_call (f : ι) : (sem call (.call f es)).w v m = (((sem call es).l v m).bind fun xs m => call f xs m).bind fun x m => walked m x := w_of
@[simp] theorem g_name (i : Nat) (d : D) : (tgt call (.name i)).g d v m = if i < v.length then .ok (v.set i (some d)) m else .fail := rfl
@[simp] theorem g_tup (n : Nat) (ts : T ι) (d : D) : (tgt call (.tup n ts)).g d v m = (match d with
    | .tup xs => if xs.length = n then (tgt call ts).gs xs v m else .fail
    | _ => .fail) := rfl
@[simp] theorem g_nil : (tgt call (.nil : T ι)).gs [] v m = .ok v m := rfl
@[simp] theorem g_cons (p q : T ι) (d : D) (ds : List D) : (tgt call (.cons p q)).gs (d :: ds) v m = ((tgt call p).g d v m).bind fun v m => (tgt call q).gs ds v m := rfl
@[simp] theorem g_sub (d : D) : (tgt call (.sub a b)).g d v m = ((sem call a).e v m).bind fun x m => ((sem call b).e v m).bind fun y m => (setAt x y d m).bind fun _ m => .ok v m := rfl
@[simp] theorem x_nil : exec call .nil v m = .ok (.nx v) m := rfl
@[simp] theorem x_cons : exec call (.cons x y) v m = (exec call x v m).then_ fun v m => exec call y v m := rfl
@[simp] theorem x_pass : exec call .pass v m = .ok (.nx v) m := rfl
@[simp] theorem x_asg (t : T ι) : exec call (.asg t a) v m = ((sem call a).e v m).st v fun x m => ((tgt call t).g x v m).tg fun v m => .ok (.nx v) m := rfl
@[simp] theorem x_par (i j : Nat) : exec call (.par i j es) v m = ((sem call es).l v m).st v fun xs m => (match xs with
    | [x, y] => if i < v.length ∧ j < v.length then .ok (.nx ((v.set i (some x)).set j (some y))) m else .fail
    | _ => .fail) := rfl
@[simp] theorem x_exp : exec call (.exp a) v m = ((sem call a).e v m).st v fun _ m => .ok (.nx v) m := rfl
@[simp] theorem x_ret : exec call (.ret a) v m = ((sem call a).e v m).st v fun x m => .ok (.rt x) m := rfl
@[simp] theorem x_retN : exec call .retN v m = .ok (.rt .non) m := rfl
@[simp] theorem x_ifs : exec call (.ifs c x y) v m = ((sem call c).t v m).st v fun t m => if t then exec call x v m else exec call y v m := rfl
theorem x_whl : exec call (.whl c x) v m = ((sem call c).t v m).st v fun t m => if t then (exec call x v m).then_ fun v m => exec call (.whl c x) v m else .ok (.nx v) m := whl_eq _ _ v m
/-- a loop over what is walked -/
noncomputable def loop (call : ι → List D → MH → Res D) (t : T ι) (x : S ι) : Wk → Env → MH → Res Fl
  | .items xs => forL (fun x v m => (tgt call t).g x v m) (fun v m => exec call x v m) xs
  | .live l i n => forN (fun x v m => (tgt call t).g x v m) (fun v m => exec call x v m) l i n n
theorem x_for (t : T ι) : exec call (.for_ t a x) v m = ((sem call a).w v m).st v fun w m => loop call t x w v m := by
  show ((sem call a).w v m).st v _ = _
  cases (sem call a).w v m with
  | ok w m => cases w <;> rfl
  | exc => rfl
  | fail => rfl
theorem loop_nil (t : T ι) : loop call t x (.items []) v m = .ok (.nx v) m := rfl
theorem loop_cons (t : T ι) (d : D) (ds : List D) : loop call t x (.items (d :: ds)) v m = ((tgt call t).g d v m).tg fun v m => (exec call x v m).then_ fun v m => loop call t x (.items ds) v m := rfl
theorem loop_inv {t : T ι} {ok : Fl → MH → Prop} (I : List D → Env → MH → Prop) {xs : List D} (hi : I xs v m) (h0 : ∀ v m, I [] v m → ok (.nx v) m)
    (hs : ∀ d ds v m, I (d :: ds) v m → Post ((tgt call t).g d v m) (fun v m => Post (exec call x v m) (fun fl m => match fl with
      | .nx v => I ds v m
      | fl => ok fl m) noE) noE) : Post (loop call t x (.items xs) v m) ok noE := forL_inv I h0 hs xs v m hi
theorem while_inv {ok : Fl → MH → Prop} (I : Nat → Env → MH → Prop) (n : Nat) (hi : I n v m)
    (hs : ∀ n v m, I n v m → Post ((sem call c).t v m) (fun t m => if t then Post (exec call x v m) (fun fl m => match fl with
      | .nx v => ∃ j, j < n ∧ I j v m
      | fl => ok fl m) noE else ok (.nx v) m) noE) : Post (exec call (.whl c x) v m) ok noE := whl_inv I hs n v m hi
theorem x_setLc (i : Nat) : exec call (.setLc i a) v m = ((sem call a).e v m).st v fun x m => if i < v.length then .ok (.nx (v.set i (some x))) m else .fail := rfl
@[simp] theorem x_aug (i : Nat) (o : Op2) : exec call (.aug i o a) v m = (Res.of (v.at_ i) m).st v fun x m => ((sem call a).e v m).st v fun y m => (arithI o x y m).st v fun z m => if i < v.length then .ok (.nx (v.set i (some z))) m else .fail := rfl
@[simp] theorem x_augS (o : Op2) : exec call (.augS a b o c) v m = ((sem call a).e v m).st v fun x m => ((sem call b).e v m).st v fun y m => (Res.of (getL m x y) m).st v fun z m => ((sem call c).e v m).st v fun w m => (arithI o z w m).st v fun u m => (setAt x y u m).st v fun _ m => .ok (.nx v) m := rfl
@[simp] theorem x_par3 (i j l : Nat) : exec call (.par3 i j l es) v m = ((sem call es).l v m).st v fun xs m => (match xs with
    | [x, y, z] => if i < v.length ∧ j < v.length ∧ l < v.length then .ok (.nx (((v.set i (some x)).set j (some y)).set l (some z))) m else .fail
    | _ => .fail) := rfl
@[simp] theorem x_raise (n : Str) (sups : List Str) : exec call (.raise n sups) v m = .ok (.ex ⟨n, sups, []⟩ v) m := rfl
@[simp] theorem x_try (n : Str) (i : Nat) : exec call (.tryE n i x y) v m = tryF n i (exec call x v m) fun v m => exec call y v m := rfl
@[simp] theorem at_zero (o : Option D) : Env.at_ (o :: v) 0 = o := rfl
@[simp] theorem at_succ (o : Option D) (i : Nat) : Env.at_ (o :: v) (i + 1) = v.at_ i := rfl
@[simp] theorem lit_non : litD .non = .non := rfl
@[simp] theorem lit_bl (k : Bool) : litD (.bl k) = .bl k := rfl
@[simp] theorem lit_int (k : Int) : litD (.int k) = .int k := rfl
@[simp] theorem lit_str (k : Str) : litD (.str k) = .str k := rfl
@[simp] theorem add_int (i j : Int) : arith .add (.int i) (.int j) m = .ok (.int (i + j)) m := rfl
@[simp] theorem sub_int (i j : Int) : arith .sub (.int i) (.int j) m = .ok (.int (i - j)) m := rfl
theorem ar_int (o : Op2) (i j : Int) : arith o (.int i) (.int j) m = arithI o (.int i) (.int j) m := if_pos rfl
theorem mul_int {i j : Int} (h : i.natAbs.log2 + j.natAbs.log2 < 1000000) : arith .mul (.int i) (.int j) m = .ok (.int (i * j)) m := by
  rw [ar_int]
  exact if_pos h
theorem fdiv_int {i j : Int} (h0 : 0 < j) (h : j.natAbs.log2 < 9000) : arith .fdiv (.int i) (.int j) m = .ok (.int (i / j)) m := by
  rw [ar_int]
  exact if_pos ⟨h0, h⟩
theorem mod_int {i j : Int} (h0 : 0 < j) : arith .mod (.int i) (.int j) m = .ok (.int (i % j)) m := by
  rw [ar_int]
  exact if_pos h0
theorem log64 {i : Int} (h : i.natAbs < 18446744073709551616) : i.natAbs.log2 < 64 := by
  by_cases h0 : i.natAbs = 0
  · rw [h0]; decide
  · exact (Nat.log2_lt h0).mpr h
@[simp] theorem mul_lit {i j : Int} (h : i.natAbs < 18446744073709551616) (h' : j.natAbs < 18446744073709551616) : arith .mul (.int i) (.int j) m = .ok (.int (i * j)) m := mul_int (by
  have := log64 h
  have := log64 h'
  omega)
@[simp] theorem mod_lit {i j : Int} (h : 0 < j) : arith .mod (.int i) (.int j) m = .ok (.int (i % j)) m := mod_int h
@[simp] theorem fdiv_lit {i j : Int} (h : 0 < j) (h' : j.natAbs < 18446744073709551616) : arith .fdiv (.int i) (.int j) m = .ok (.int (i / j)) m := fdiv_int h (by
  have := log64 h'
  omega)
@[simp] theorem pow_lit {i j : Int} (h0 : 0 ≤ j) (h1 : j ≤ 1000000) (h : i.natAbs < 18446744073709551616) : arith .pow (.int i) (.int j) m = .ok (.int (i ^ j.toNat)) m := by
  rw [ar_int]
  exact if_pos ⟨h0, h1, h⟩
@[simp] theorem lt_int (i j : Int) : compare m .lt (.int i) (.int j) = some (decide (i < j)) := rfl
@[simp] theorem le_int (i j : Int) : compare m .le (.int i) (.int j) = some (decide (i ≤ j)) := rfl
@[simp] theorem gt_int (i j : Int) : compare m .gt (.int i) (.int j) = some (decide (j < i)) := rfl
@[simp] theorem ge_int (i j : Int) : compare m .ge (.int i) (.int j) = some (decide (j ≤ i)) := rfl
@[simp] theorem cmp_eq (p q : D) : compare m .eq p q = eqD m p q := rfl
@[simp] theorem cmp_ne (p q : D) : compare m .ne p q = (eqD m p q).map (!·) := rfl
end
end Fw

set_option Elab.async false
set_option linter.all false
set_option maxRecDepth 100000
set_option maxHeartbeats 2000000
set_option autoImplicit false
/-! ## Fw14: defs that many laws have -/
namespace Fw
open PySem

/-! ### small facts -/
theorem run_s {ι : Type} {P : ι → Fn ι} {d : Nat} {f : ι} {np ns : Nat} {b : S ι} (h : P f = ⟨np, ns, b⟩) {xs : List D} {m : MH} (hl : xs.length = np) : run P (d + 1) f xs m = left (exec (run P d) b (xs.map some ++ List.replicate (ns - np) none) ([] :: m)) := by
  unfold run
  rw [h]
  simp [hl]
theorem eqD_int (m : MH) (a b : Int) : eqD m (.int a) (.int b) = some (decide (a = b)) := by
  have h : ∀ i : Int, SeqAt.shaped (.int i) = true := fun i => rfl
  unfold eqD eqS
  simp only [strs2, dat, pd, h, Bool.and_self, if_true]
  simp only [PyData.eqv]
  congr 1
theorem eqD_str (m : MH) (a b : Str) : eqD m (.str a) (.str b) = some (decide (a = b)) := rfl
theorem eqD_bl (m : MH) (a b : Bool) : eqD m (.bl a) (.bl b) = some (decide (a = b)) := by
  have h : ∀ i : Bool, SeqAt.shaped (.bool i) = true := fun i => rfl
  unfold eqD eqS
  simp only [strs2, dat, pd, h, Bool.and_self, if_true]
  simp only [PyData.eqv]
  congr 1
theorem get_nil_cons {m : MH} {l i : Nat} {o : MO} (h : get m l i = some o) : get ([] :: m) l i = some o := by
  have := get_lt h
  unfold get
  rw [if_neg (by omega)]
  exact h
theorem put_nil_cons {m : MH} {l i : Nat} {o o' : MO} (h : get m l i = some o) : put ([] :: m) l i o' = [] :: put m l i o' := by
  have := get_lt h
  conv => lhs; unfold put
  rw [if_neg (by omega)]
theorem get_put_same {m : MH} {l i : Nat} {o o' : MO} (h : get m l i = some o) : get (put m l i o') l i = some o' := by
  rw [get_put h]; simp
theorem put_put {m : MH} {l i : Nat} {o o' : MO} : put (put m l i o) l i o' = put m l i o' := by
  induction m with
  | nil => rfl
  | cons fr r ih =>
    by_cases e : l = r.length
    · simp [e, put]
    · have e2 : ¬ l = (put r l i o).length := by rw [put_length]; exact e
      simp only [put, if_neg e, if_neg e2, ih]
theorem abs_eq (i : Int) : (if i < 0 then -i else i) = (i.natAbs : Int) := by split <;> omega

/-! ### one item off the pot -/
def takeFn {ι : Type} : Fn ι := ⟨2, 3, (.cons (.asg (.name 2) (.bin .mod (.idx (.var 0) (.lit (.int 0))) (.var 1))) (.cons (.asg (.sub (.var 0) (.lit (.int 0))) (.bin .fdiv (.idx (.var 0) (.lit (.int 0))) (.var 1))) (.cons (.ret (.var 2)) .nil)))⟩
theorem run_take {ι : Type} {P : ι → Fn ι} {f : ι} (h : P f = takeFn) (d : Nat) {m : MH} {l i : Nat} {n far : Int} (hg : get m l i = some (.lst [.int n])) (h0 : 0 < far) (h1 : far.natAbs.log2 < 9000) :
    run P (d + 1) f [.ref l i, .int far] m = .ok (.int (n % far)) (put m l i (.lst [.int (n / far)])) := by
  rw [run_s h rfl]
  have g1 := get_nil_cons hg
  have g2 := put_nil_cons (o' := .lst [.int (n / far)]) hg
  have e0 : place 1 0 = some 0 := rfl
  simp [getAt, seqOf, g1, e0, mod_int h0, fdiv_int h0 h1, setAt, D.bd, g2, left, leave]
/-! ### the script's cells, the pot -/
theorem Post.get {α : Type} {r : Res α} {p : α → MH → Prop} (h : Post r p fun _ _ => False) : ∃ a m, r = .ok a m ∧ p a m := by
  cases r with
  | ok a m => exact ⟨a, m, rfl, h⟩
  | exc => exact h.elim
  | fail => exact h.elim
def cellFn {ι : Type} : Fn ι := ⟨2, 2, (.cons (.ifs (.cmp .lt (.var 1) (.bi .len (.cons (.var 0) .nil))) (.cons (.ret (.idx (.var 0) (.var 1))) .nil) .nil) (.cons (.ret (.lit (.int 0))) .nil))⟩
theorem place_nat {n k : Nat} (h : k < n) : place n (k : Int) = some k := by
  unfold place L2.ixN
  rw [if_pos (by omega), if_pos (by omega)]
  simp
theorem run_cell {ι : Type} {P : ι → Fn ι} {f : ι} (h : P f = cellFn) (d : Nat) (ns : List Int) (k : Nat) (m : MH) : ∃ z, run P (d + 1) f [.scr (ns.map .int), .int k] m = .ok (.int z) m := by
  rw [run_s h rfl]
  by_cases hk : k < ns.length
  · refine ⟨ns[k], ?_⟩
    have h1 : ((k : Int) < ns.length) = True := by simp; omega
    have h2 : place (ns.map D.int).length (k : Int) = some k := place_nat (by simpa using hk)
    simp at h2
    simp [getAt, seqOf, built, lenD, h1, left, leave, D.bd, h2, hk]
  · refine ⟨0, ?_⟩
    have h1 : ((k : Int) < ns.length) = False := by simp; omega
    simp [getAt, seqOf, built, lenD, h1, left, leave, D.bd, hk]
def potFn {ι : Type} : Fn ι := ⟨1, 4, (.cons (.ifs (.cmp .ge (.var 0) (.bin .pow (.lit (.int 10)) (.lit (.int 18)))) (.cons (.ret (.new (.cons (.bin .sub (.var 0) (.bin .pow (.lit (.int 10)) (.lit (.int 18)))) .nil))) .nil) .nil) (.cons (.asg (.name 1) (.lit (.int 0))) (.cons (.for_ (.name 2) (.rng1 (.lit (.int 64))) (.cons (.asg (.name 3) (.bin .mod (.bin .mul (.bin .add (.bin .add (.bin .mod (.var 0) (.lit (.int 2147483629))) (.bin .mul (.lit (.int 7919)) (.var 2))) (.lit (.int 1))) (.lit (.int 48271))) (.lit (.int 2147483647)))) (.cons (.asg (.name 3) (.bin .mod (.bin .add (.bin .add (.bin .mul (.var 3) (.var 3)) (.bin .mul (.lit (.int 69621)) (.var 2))) (.lit (.int 7))) (.lit (.int 2147483587)))) (.cons (.asg (.name 1) (.bin .add (.bin .mul (.var 1) (.lit (.int 2147483587))) (.var 3))) .nil)))) (.cons (.ret (.new (.cons (.var 1) .nil))) .nil))))⟩
theorem log2_lt {n k : Nat} (h : n < 2 ^ k) (hk : 0 < k) : n.log2 < k := by
  by_cases h0 : n = 0
  · subst h0; simpa using hk
  · exact (Nat.log2_lt h0).mpr h
theorem natAbs_lt {i : Int} {k : Nat} (h0 : 0 ≤ i) (h : i < 2 ^ k) : i.natAbs < 2 ^ k := by
  have : ((2 ^ k : Nat) : Int) = (2 : Int) ^ k := by simp
  omega
theorem run_pot {ι : Type} {P : ι → Fn ι} {f : ι} (h : P f = potFn) (d : Nat) (z : Int) (fr : List MO) (r : MH) : ∃ n, run P (d + 1) f [.int z] (fr :: r) = .ok (.ref r.length fr.length) ((fr ++ [.lst [.int n]]) :: r) := by
  rw [run_s h rfl]
  by_cases hz : (10 ^ 18 : Int) ≤ z
  · refine ⟨z - 10 ^ 18, ?_⟩
    have hz' : (1000000000000000000 : Int) ≤ z := by simpa using hz
    simp [hz', left, leave, alloc, MO.bd, bdL, D.bd]
  · have hz' : ¬ (1000000000000000000 : Int) ≤ z := by simpa using hz
    have key : ∃ a m, loop (run P d) (.name 2) (.cons (.asg (.name 3) (.bin .mod (.bin .mul (.bin .add (.bin .add (.bin .mod (.var 0) (.lit (.int 2147483629))) (.bin .mul (.lit (.int 7919)) (.var 2))) (.lit (.int 1))) (.lit (.int 48271))) (.lit (.int 2147483647)))) (.cons (.asg (.name 3) (.bin .mod (.bin .add (.bin .add (.bin .mul (.var 3) (.var 3)) (.bin .mul (.lit (.int 69621)) (.var 2))) (.lit (.int 7))) (.lit (.int 2147483587)))) (.cons (.asg (.name 1) (.bin .add (.bin .mul (.var 1) (.lit (.int 2147483587))) (.var 3))) .nil)))
        (.items (rangeD 0 64)) [some (.int z), some (.int 0), none, none] ([] :: fr :: r) = .ok a m ∧ (∃ n x y, a = .nx [some (.int z), some (.int n), x, y] ∧ m = [] :: fr :: r) := by
      refine Post.get (loop_inv (fun xs v m => (∃ n x y, v = [some (.int z), some (.int n), x, y] ∧ 0 ≤ n ∧ n < 2 ^ (31 * (64 - xs.length))) ∧ xs.length ≤ 64 ∧ (∀ q ∈ xs, ∃ j, q = .int j ∧ 0 ≤ j ∧ j < 64) ∧ m = [] :: fr :: r) ⟨⟨0, none, none, rfl, by omega, by simp [rangeD]⟩, by simp [rangeD], fun q hq => ?_, rfl⟩ (fun v m q => ?_) (fun x xs v m q => ?_))
      · simp only [rangeD, List.mem_map, List.mem_range] at hq
        obtain ⟨k, hk, rfl⟩ := hq
        exact ⟨_, rfl, by omega, by omega⟩
      · obtain ⟨⟨n, x, y, rfl, _, _⟩, _, _, rfl⟩ := q
        exact ⟨n, x, y, rfl, rfl⟩
      · obtain ⟨⟨n, x', y, rfl, n0, n1⟩, hl, hq, rfl⟩ := q
        obtain ⟨j, rfl, j0, j1⟩ := hq x List.mem_cons_self
        simp only [List.length_cons] at n1 hl
        have hA : ∀ A B : Int, 0 ≤ A → A < 2 ^ 40 → 0 ≤ B → B < 2 ^ 40 → A.natAbs.log2 + B.natAbs.log2 < 1000000 := fun A B a0 a1 b0 b1 => by
          have h1 := log2_lt (natAbs_lt a0 a1) (by omega)
          have h2 := log2_lt (natAbs_lt b0 b1) (by omega)
          omega
        have l1 : ∀ i : Int, i.natAbs.log2 < 9000 → i.natAbs.log2 < 9000 := fun _ h => h
        have k1 : (2147483629 : Int).natAbs.log2 < 9000 := by decide
        have c1 := hA 7919 j (by omega) (by omega) j0 (by omega)
        have m0 := Int.emod_nonneg z (b := 2147483629) (by omega)
        have m1 := Int.emod_lt_of_pos z (b := 2147483629) (by omega)
        have c2 := hA (z % 2147483629 + 7919 * j + 1) 48271 (by omega) (by omega) (by omega) (by omega)
        generalize hM : (z % 2147483629 + 7919 * j + 1) * 48271 % 2147483647 = M
        have e0 := Int.emod_nonneg ((z % 2147483629 + 7919 * j + 1) * 48271) (b := 2147483647) (by omega)
        have e1 := Int.emod_lt_of_pos ((z % 2147483629 + 7919 * j + 1) * 48271) (b := 2147483647) (by omega)
        rw [hM] at e0 e1
        have c3 := hA M M e0 (by omega) e0 (by omega)
        have c4 := hA 69621 j (by omega) (by omega) j0 (by omega)
        generalize hN : (M * M + 69621 * j + 7) % 2147483587 = N
        have f0 := Int.emod_nonneg (M * M + 69621 * j + 7) (b := 2147483587) (by omega)
        have f1 := Int.emod_lt_of_pos (M * M + 69621 * j + 7) (b := 2147483587) (by omega)
        rw [hN] at f0 f1
        have c5 : n.natAbs.log2 + (2147483587 : Int).natAbs.log2 < 1000000 := by
          have h1 : n.natAbs < 2 ^ 1984 := natAbs_lt n0 (Int.lt_of_lt_of_le n1 (by
            have : (2 : Nat) ^ (31 * (64 - (xs.length + 1))) ≤ 2 ^ 1984 := Nat.pow_le_pow_right (by omega) (by omega)
            exact_mod_cast this))
          have h2 := log2_lt h1 (by omega)
          have h3 : (2147483587 : Int).natAbs.log2 < 40 := by decide
          omega
        simp [mod_int (i := z) (j := 2147483629) (by omega), mul_int c1, mul_int c2, mod_int (i := (z % 2147483629 + 7919 * j + 1) * 48271) (j := 2147483647) (by omega), hM, mul_int c3, mul_int c4, mod_int (i := M * M + 69621 * j + 7) (j := 2147483587) (by omega), hN, mul_int c5]
        refine ⟨⟨?_, ?_⟩, by omega, fun q h => hq q (List.mem_cons_of_mem _ h)⟩
        · have := Int.mul_nonneg n0 (show (0 : Int) ≤ 2147483587 by omega)
          omega
        · have h1 : n * 2147483587 + N < (n + 1) * 2147483587 := by omega
          have h2 : (n + 1) * 2147483587 ≤ 2 ^ (31 * (64 - (xs.length + 1))) * 2 ^ 31 := Int.mul_le_mul (by omega) (by omega) (by omega) (by exact Int.le_of_lt (Int.pow_pos (by omega)))
          have h3 : (2 : Int) ^ (31 * (64 - (xs.length + 1))) * 2 ^ 31 = 2 ^ (31 * (64 - xs.length)) := by
            rw [← Int.pow_add]
            congr 1
            omega
          omega
    obtain ⟨a, m, e, n, x, y, rfl, rfl⟩ := key
    refine ⟨n, ?_⟩
    simp [x_for, hz', e, left, leave, alloc, MO.bd, bdL, D.bd]
end Fw

set_option Elab.async false
set_option linter.all false
set_option maxRecDepth 100000
set_option maxHeartbeats 2000000
set_option autoImplicit false
/-! ## Fw15: common divisors, whole numbers -/
namespace Fw
open PySem
def gcdFn {ι : Type} (o : Cm) : Fn ι := ⟨2, 2, (.cons (.par 0 1 (.cons (.bi .abs (.cons (.var 0) .nil)) (.cons (.bi .abs (.cons (.var 1) .nil)) .nil))) (.cons (.whl (.cmp o (.var 1) (.lit (.int 0))) (.cons (.par 0 1 (.cons (.var 1) (.cons (.bin .mod (.var 0) (.var 1)) .nil))) .nil)) (.cons (.ret (.var 0)) .nil)))⟩
theorem gcd_test {o : Cm} (ho : o = .gt ∨ o = .ne) (m : MH) (b : Nat) : compare m o (.int (b : Int)) (.int 0) = some (decide (b ≠ 0)) := by
  rcases ho with rfl | rfl
  · simp only [compare, cmpI]
    congr 1
    by_cases h : b = 0 <;> simp [h] <;> omega
  · simp only [compare, eqD_int]
    by_cases h : b = 0 <;> simp [h]
theorem gcd_loop {ι : Type} {call : ι → List D → MH → Res D} {o : Cm} (ho : o = .gt ∨ o = .ne) (m : MH) : ∀ b a : Nat, exec call (.whl (.cmp o (.var 1) (.lit (.int 0))) (.cons (.par 0 1 (.cons (.var 1) (.cons (.bin .mod (.var 0) (.var 1)) .nil))) .nil)) [some (.int a), some (.int b)] m =
    .ok (.nx [some (.int (Nat.gcd a b)), some (.int 0)]) m := by
  intro b
  induction b using Nat.strongRecOn with
  | ind b ih =>
    intro a
    rw [x_whl]
    have t := gcd_test ho m b
    by_cases hb : b = 0
    · subst hb
      simp at t
      simp [t]
    · have h1 : (0 : Int) < b := by omega
      have := ih (a % b) (Nat.mod_lt _ (by omega)) b
      simp [t, hb, mod_int h1]
      rw [show ((a : Int) % (b : Int)) = ((a % b : Nat) : Int) from rfl, this, Nat.gcd_comm b, ← Nat.gcd_rec, Nat.gcd_comm]
theorem run_gcd {ι : Type} {P : ι → Fn ι} {f : ι} {o : Cm} (ho : o = .gt ∨ o = .ne) (h : P f = gcdFn o) (d : Nat) (a b : Int) (m : MH) : run P (d + 1) f [.int a, .int b] m = .ok (.int (Int.gcd a b)) m := by
  rw [run_s h rfl]
  have := gcd_loop (call := run P d) ho ([] :: m) b.natAbs a.natAbs
  simp [built, int1, abs_eq, this, left, leave, D.bd, Int.gcd]
def wholeFn {ι : Type} : Fn ι := ⟨1, 1, (.cons (.ret (.and (.isi (.var 0) .int) (.not (.isi (.var 0) .bool)))) .nil)⟩
def isInt : D → Bool
  | .int _ => true
  | _ => false
theorem run_whole {ι : Type} {P : ι → Fn ι} {f : ι} (h : P f = wholeFn) (d : Nat) (x : D) (m : MH) (hx : tyKnown ([] :: m) x = true) : run P (d + 1) f [x] m = .ok (.bl (isInt x)) m := by
  rw [run_s h rfl]
  cases x with
  | exc => cases hx
  | ins => cases hx
  | any => cases hx
  | ref l i => simp [hx, isTy, left, leave, D.bd, isInt]
  | _ => rfl
/-! ### takes inside a def that is given the pot -/
theorem put_self {m : MH} {l i : Nat} {o : MO} (h : get m l i = some o) : put m l i o = m := by
  induction m with
  | nil => rfl
  | cons fr r ih =>
    unfold get at h
    by_cases e : l = r.length
    · rw [if_pos e] at h
      simp only [put, if_pos e]
      congr 1
      refine List.ext_getElem? fun k => ?_
      rw [List.getElem?_set]
      split
      · rename_i e2
        subst e2
        rw [h]
        split
        · rfl
        · rename_i q
          rw [List.getElem?_eq_none (by omega)] at h
          cases h
      · rfl
    · rw [if_neg e] at h
      simp only [put, if_neg e, ih h]
theorem lv_get {m : MH} {l i : Nat} (h : Lv m l i) (o : MO) : get (put m l i o) l i = some o := by
  obtain ⟨o', e⟩ := Option.isSome_iff_exists.mp h
  exact get_put_same e
theorem get_under {fr : List MO} {m : MH} {l i : Nat} {o : MO} (h : get m l i = some o) : get (fr :: m) l i = some o := get_pop h
theorem put_under {fr : List MO} {m : MH} {l i : Nat} {o : MO} (h : l < m.length) : put (fr :: m) l i o = fr :: put m l i o := by
  conv => lhs; unfold put
  rw [if_neg (by omega)]
theorem lv_lt {m : MH} {l i : Nat} (h : Lv m l i) : l < m.length := by
  obtain ⟨o', e⟩ := Option.isSome_iff_exists.mp h
  exact get_lt e
theorem run_takeC {ι : Type} {P : ι → Fn ι} {f : ι} (h : P f = takeFn) (d : Nat) {fr : List MO} {m : MH} {l i : Nat} {n far : Int} (hl : Lv m l i) (h0 : 0 < far) (h1 : far.natAbs.log2 < 9000) :
    run P (d + 1) f [.ref l i, .int far] (fr :: put m l i (.lst [.int n])) = .ok (.int (n % far)) (fr :: put m l i (.lst [.int (n / far)])) := by
  rw [run_take h d (get_under (lv_get hl _)) h0 h1, put_under (by rw [put_length]; exact lv_lt hl), put_put]
@[simp] theorem put_twice {m : MH} {l i : Nat} {o o' : MO} : put (put m l i o) l i o' = put m l i o' := put_put
/-- a body's k-th statement, the rest from it on -/
def nth {ι : Type} : S ι → Nat → S ι
  | .cons a _, 0 => a
  | .cons _ b, k + 1 => nth b k
  | s, _ => s
def from_ {ι : Type} : S ι → Nat → S ι
  | s, 0 => s
  | .cons _ b, k + 1 => from_ b k
  | s, _ => s
/-! ### the newest object of a frame -/
section
variable {fr : List MO} {r : MH} {xs : List D} {y : D} {o : MO}
theorem get_last : get ((fr ++ [o]) :: r) r.length fr.length = some o := by simp [get]
theorem isL_last : isL ((fr ++ [.lst xs]) :: r) (.ref r.length fr.length) = true := by simp [isL, get_last]
theorem put_last {o' : MO} : put ((fr ++ [o]) :: r) r.length fr.length o' = (fr ++ [o']) :: r := by simp [put]
theorem app_last (hb : y.bd (r.length + 1) = true) (hz : xs.length < 16777216) : append (.ref r.length fr.length) y ((fr ++ [.lst xs]) :: r) = .ok .non ((fr ++ [.lst (xs ++ [y])]) :: r) := by
  have : xs.length < sizeLine := by unfold sizeLine; omega
  simp [append, get_last, hb, this, put_last]
theorem alloc_ok (hb : o.bd (r.length + 1) = true) : alloc (fr :: r) o = .ok (.ref r.length fr.length) ((fr ++ [o]) :: r) := by simp [alloc, hb]
theorem dat_last : dat ((fr ++ [.lst xs]) :: r) (.ref r.length fr.length) = (pdL xs).map .list := by simp [dat, get_last]
end
/-- one of a display's items -/
theorem pick {xs : List D} {i : Int} (h0 : 0 ≤ i) (h1 : i < xs.length) : ∃ x, x ∈ xs ∧ ∀ m, getAt m (.lst xs) (.int i) = some x := by
  obtain ⟨k, rfl⟩ := Int.eq_ofNat_of_zero_le h0
  have hk : k < xs.length := by omega
  refine ⟨xs[k], List.getElem_mem hk, fun m => ?_⟩
  simp only [getAt, seqOf, Option.bind_some, place_nat hk]
  exact List.getElem?_eq_getElem hk
theorem Post.mk {α : Type} {r : Res α} {a : α} {m : MH} {ok : α → MH → Prop} {ex : Exc → MH → Prop} (h : r = .ok a m) (q : ok a m) : Post r ok ex := by rw [h]; exact q
end Fw

set_option Elab.async false
set_option linter.all false
set_option maxRecDepth 100000
set_option maxHeartbeats 2000000
set_option autoImplicit false
/-! ## Fw16: what may be shown; odd things -/
namespace Fw
open PySem
/-- data that may be shown: its kinds (a list in it, a dict in it), depth, room -/
def Nc (l c : Bool) (dep room : Nat) (x : D) : Prop := ∃ p, pd x = some p ∧ p.showable = true ∧ (l = false → noList p = true) ∧ (c = false → p.hasDict = false) ∧ p.depth ≤ dep ∧ roomOf p ≤ room
theorem pd_dat {x : D} {p : PyData} (h : pd x = some p) (m : MH) : dat m x = some p := by
  cases x with
  | ref => simp [pd] at h
  | _ => exact h
theorem Nc.repr {l c : Bool} {dep room : Nat} {x : D} (h : Nc l c dep room x) (hlc : (l && c) = false) (h1 : dep ≤ 60) (h2 : room ≤ 16777216) : ∃ s, ∀ m, reprD m x = some s := by
  obtain ⟨p, e, a1, a2, a3, a4, a5⟩ := h
  refine ⟨p.shown, fun m => reprD_of (pd_dat e m) a1 (fun q => ?_) (by omega) (by omega)⟩
  cases l with
  | false => exact a2 rfl
  | true =>
    cases c with
    | false => rw [a3 rfl] at q; cases q
    | true => cases hlc
theorem Nc.mono {l c l' c' : Bool} {dep room dep' room' : Nat} {x : D} (h : Nc l c dep room x) (hl : l = true → l' = true) (hc : c = true → c' = true) (h1 : dep ≤ dep') (h2 : room ≤ room') : Nc l' c' dep' room' x := by
  obtain ⟨p, e, a1, a2, a3, a4, a5⟩ := h
  refine ⟨p, e, a1, fun q => a2 ?_, fun q => a3 ?_, by omega, by omega⟩
  · cases l with
    | false => rfl
    | true => rw [hl rfl] at q; cases q
  · cases c with
    | false => rfl
    | true => rw [hc rfl] at q; cases q
theorem nc_int {i : Int} (h : i.natAbs < 2 ^ 1000) : Nc false false 0 1921 (.int i) := ⟨.int i, rfl, by
  have := log2_lt h (by omega)
  simp only [PyData.showable, decide_eq_true_eq]
  omega, fun _ => rfl, fun _ => rfl, Nat.le_refl _, Nat.le_refl _⟩
/-- items, all of them showable -/
def NcL (l c : Bool) (dep room : Nat) (xs : List D) : Prop := ∃ ps, pdL xs = some ps ∧ PyData.showableAll ps = true ∧ (l = false → noListAll ps = true) ∧ (c = false → PyData.hasDictAll ps = false) ∧ PyData.depthAll ps ≤ dep ∧ roomAll ps ≤ room
theorem ncl_nil : NcL false false 0 0 [] := ⟨[], rfl, rfl, fun _ => rfl, fun _ => rfl, Nat.le_refl _, Nat.le_refl _⟩
theorem Nc.cons {l c l' c' : Bool} {dep dep' room room' : Nat} {x : D} {xs : List D} (h : Nc l c dep room x) (t : NcL l' c' dep' room' xs) : NcL (l || l') (c || c') (max dep dep') (room + 2 + room') (x :: xs) := by
  obtain ⟨p, e, a1, a2, a3, a4, a5⟩ := h
  obtain ⟨ps, e', b1, b2, b3, b4, b5⟩ := t
  refine ⟨p :: ps, ?_, ?_, fun q => ?_, fun q => ?_, ?_, ?_⟩
  · simp only [pdL, e, e']
  · simp only [PyData.showableAll, a1, b1, Bool.and_self]
  · simp only [Bool.or_eq_false_iff] at q
    simp only [noListAll, a2 q.1, b2 q.2, Bool.and_self]
  · simp only [Bool.or_eq_false_iff] at q
    simp only [PyData.hasDictAll, a3 q.1, b3 q.2, Bool.or_self]
  · simp only [PyData.depthAll]; omega
  · simp only [roomAll]; omega
theorem NcL.tup {l c : Bool} {dep room : Nat} {xs : List D} (h : NcL l c dep room xs) : Nc l c (dep + 1) (room + 3) (.tup xs) := by
  obtain ⟨ps, e', b1, b2, b3, b4, b5⟩ := h
  refine ⟨.tuple ps, by simp only [pd, e', Option.map_some], by simpa only [PyData.showable] using b1, fun q => by simpa only [noList] using b2 q, fun q => by simpa only [PyData.hasDict] using b3 q, ?_, ?_⟩
  · simp only [PyData.depth]; omega
  · simp only [roomOf]; omega
theorem NcL.lst {l c : Bool} {dep room : Nat} {xs : List D} (h : NcL l c dep room xs) : Nc true c (dep + 1) (room + 3) (.lst xs) := by
  obtain ⟨ps, e', b1, b2, b3, b4, b5⟩ := h
  refine ⟨.list ps, by simp only [pd, e', Option.map_some], by simpa only [PyData.showable] using b1, fun q => (by cases q), fun q => (by simpa only [PyData.hasDict] using b3 q), ?_, ?_⟩
  · simp only [PyData.depth]; omega
  · simp only [roomOf]; omega

/-! ### odd things -/
def odds : List D := [.non, .bl true, .bl false, .int (-1), .int 100000000000, .str "", .str "a", .str "1", .tup [], .lst [], .dct [] [], .lst [.tup []], .tup [.tup []], .tup [.int 0], .lst [.int 0], .dct [0] [.int 1], .tup [.bl true, .bl true]]
def oddFn {ι : Type} (tk : ι) : Fn ι := ⟨1, 2, (.cons (.asg (.name 1) (.lst (.cons (.lit .non) (.cons (.lit (.bl true)) (.cons (.lit (.bl false)) (.cons (.neg (.lit (.int 1))) (.cons (.bin .pow (.lit (.int 10)) (.lit (.int 11))) (.cons (.lit (.str "")) (.cons (.lit (.str "a")) (.cons (.lit (.str "1")) (.cons (.tup .nil) (.cons (.lst .nil) (.cons (.dlit [] []) (.cons (.lst (.cons (.tup .nil) .nil)) (.cons (.tup (.cons (.tup .nil) .nil)) (.cons (.tup (.cons (.lit (.int 0)) .nil)) (.cons (.lst (.cons (.lit (.int 0)) .nil)) (.cons (.dlit [0] [1]) (.cons (.tup (.cons (.lit (.bl true)) (.cons (.lit (.bl true)) .nil))) .nil))))))))))))))))))) (.cons (.ret (.idx (.var 1) (.call tk (.cons (.var 0) (.cons (.bi .len (.cons (.var 1) .nil)) .nil))))) .nil))⟩
theorem odd_bd (n : Nat) : ∀ x ∈ odds, x.bd n = true := by
  intro x hx
  simp only [odds, List.mem_cons, List.not_mem_nil, or_false] at hx
  rcases hx with rfl | rfl | rfl | rfl | rfl | rfl | rfl | rfl | rfl | rfl | rfl | rfl | rfl | rfl | rfl | rfl | rfl <;> rfl
theorem odd_nc : ∀ x ∈ odds, Nc true false 3 8000 x ∨ Nc false true 3 8000 x := by
  intro x hx
  have z : Nc false false 0 1921 (.int 0) := nc_int (by decide)
  simp only [odds, List.mem_cons, List.not_mem_nil, or_false] at hx
  rcases hx with rfl | rfl | rfl | rfl | rfl | rfl | rfl | rfl | rfl | rfl | rfl | rfl | rfl | rfl | rfl | rfl | rfl
  all_goals first
    | exact .inl ⟨_, rfl, by decide, fun q => (by cases q), fun _ => rfl, by decide, by decide⟩
    | exact .inr ⟨_, rfl, by decide, fun q => rfl, fun q => (by cases q), by decide, by decide⟩
    | exact .inl ⟨_, rfl, by decide, fun q => (by cases q), fun _ => rfl, by decide, by decide +kernel⟩
theorem run_odd {ι : Type} {P : ι → Fn ι} {f tk : ι} (h : P f = oddFn tk) (ht : P tk = takeFn) (d : Nat) {m : MH} {l i : Nat} {n : Int} (hg : get m l i = some (.lst [.int n])) : ∃ x, x ∈ odds ∧ run P (d + 2) f [.ref l i] m = .ok x (put m l i (.lst [.int (n / 17)])) := by
  obtain ⟨x, hx, e⟩ := pick (xs := odds) (i := n % 17) (by omega) (by show n % 17 < ((17 : Nat) : Int); omega)
  refine ⟨x, hx, ?_⟩
  rw [run_s h rfl]
  have g1 := get_nil_cons hg
  have g2 := put_nil_cons (o' := .lst [.int (n / 17)]) hg
  have tk' := run_take ht d g1 (far := 17) (by omega) (by decide)
  have e' : ∀ m, getAt m (.lst [.non, .bl true, .bl false, .int (-1), .int 100000000000, .str "", .str "a", .str "1", .tup [], .lst [], .dct [] [], .lst [.tup []], .tup [.tup []], .tup [.int 0], .lst [.int 0], .dct [0] [.int 1], .tup [.bl true, .bl true]]) (.int (n % 17)) = some x := e
  have hb := odd_bd m.length x hx
  have hl : ∀ r : MH, leave x ([] :: r) = if x.bd r.length then .ok x r else .fail := fun r => by
    cases x with
    | ref => simp [odds] at hx
    | _ => rfl
  simp [built, lenD, seqOf, tk', e', g2, left, hl, put_length, hb]
end Fw

set_option Elab.async false
set_option linter.all false
set_option maxRecDepth 100000
set_option maxHeartbeats 2000000
set_option autoImplicit false
/-! ## Fw17: comprehensions over items; lists, tuples compared -/
namespace Fw
open PySem
theorem lc_map {tg : D → Env → Option Env} {c : Env → MH → Res Bool} {e : Env → MH → Res D} {v : Env} {m : MH} {g : D → D} {all : List D} : ∀ (k i : Nat) (xs : List D), all.drop i = xs → k = xs.length + 1 → (∀ x ∈ xs, ∃ v', tg x v = some v' ∧ c v' m = .ok true m ∧ e v' m = .ok (g x) m) → lcW tg c e v (.items all) k i m = .ok (xs.map g) m := by
  intro k
  induction k with
  | zero => intro i xs _ h; omega
  | succ k ih =>
    intro i xs hd hk hx
    cases xs with
    | nil =>
      have h0 : all[i]? = none := by
        rw [List.drop_eq_nil_iff] at hd
        exact List.getElem?_eq_none hd
      simp only [lcW, stepW, h0, List.map_nil]
    | cons x xs =>
      have h0 : all[i]? = some x := by
        have := List.getElem?_drop (xs := all) (i := i) (j := 0)
        rw [hd] at this
        simpa using this.symm
      have h1 : all.drop (i + 1) = xs := by
        have := List.drop_drop (i := 1) (j := i) (l := all)
        rw [hd] at this
        simpa [Nat.add_comm] using this.symm
      obtain ⟨v', e1, e2, e3⟩ := hx x List.mem_cons_self
      have q := ih (i + 1) xs h1 (by simpa using hk) (fun y hy => hx y (List.mem_cons_of_mem _ hy))
      simp only [lcW, stepW, h0, e1, e2, Res.bind_ok, if_true, e3, q, List.map_cons]
/-- a comprehension without a test over items -/
theorem e_map {ι : Type} {call : ι → List D → MH → Res D} {v : Env} {m : MH} {own : List (Str × Nat)} {t : Pt} {it c : E ι} {xs : List D} (g : D → D) (hl : xs.length ≤ 16777216) (h : (sem call it).w v m = .ok (.items xs) m)
    (hx : ∀ x ∈ xs, ∃ v', (ptg t).1 x (wipeE v (own.map (·.2))) = some v' ∧ (sem call c).e v' m = .ok (g x) m) : (sem call (.lc false own t it .nil c)).e v m = .ok (.lst (xs.map g)) m := by
  have hz : xs.length ≤ sizeLine := by unfold sizeLine; omega
  rw [e_lc, h]
  have q := lc_map (tg := (ptg t).1) (c := (sem call .nil).t) (e := (sem call c).e) (v := wipeE v (own.map (·.2))) (m := m) (g := g) (all := xs) (xs.length + 1) 0 xs rfl rfl (fun x hx' => by
    obtain ⟨v', e1, e2⟩ := hx x hx'
    exact ⟨v', e1, rfl, e2⟩)
  simp [lenW, hz, q]
theorem eqD_lst {m : MH} {xs ys : List D} {a b : PyData} (ha : pd (.lst xs) = some a) (hb : pd (.lst ys) = some b) (sa : SeqAt.shaped a = true) (sb : SeqAt.shaped b = true) : eqD m (.lst xs) (.lst ys) = some (PyData.eqv a b) := by
  have ha' : dat m (.lst xs) = some a := ha
  have hb' : dat m (.lst ys) = some b := hb
  simp [eqD, strs2, eqS, ha', hb', sa, sb]
theorem eqD_tup {m : MH} {xs ys : List D} {a b : PyData} (ha : pd (.tup xs) = some a) (hb : pd (.tup ys) = some b) (sa : SeqAt.shaped a = true) (sb : SeqAt.shaped b = true) : eqD m (.tup xs) (.tup ys) = some (PyData.eqv a b) := by
  have ha' : dat m (.tup xs) = some a := ha
  have hb' : dat m (.tup ys) = some b := hb
  simp [eqD, strs2, eqS, ha', hb', sa, sb]
theorem pd_dat' {m : MH} {x : D} {p : PyData} (h : pd x = some p) : dat m x = some p := pd_dat h m
theorem eqD_self {m : MH} {x : D} (h : (pd x).map SeqAt.shaped = some true) : eqD m x x = some true := by
  unfold eqD
  cases e : strs2 x x with
  | some k =>
    cases x with
    | str s => simp [strs2] at e; simp [← e]
    | _ => simp [strs2] at e
  | none =>
    simp only [eqS]
    cases e2 : pd x with
    | none => rw [e2] at h; cases h
    | some p =>
      rw [e2] at h
      simp only [Option.map_some, Option.some.injEq] at h
      have h' := h
      simp only [SeqAt.shaped, Bool.and_eq_true] at h'
      simp [pd_dat e2 m, h, SeqAt.eqv_refl p h'.1]
/-- a count is in range's bounds (omega's proof of this the kernel would count out) -/
theorem nat_rng {w : Nat} (h : w ≤ 1000000) : (-4611686018427387904 : Int) ≤ ((w : Nat) : Int) ∧ ((w : Nat) : Int) < 4611686018427387904 :=
  ⟨Int.le_trans (by decide) (Int.natCast_nonneg w), Int.lt_of_le_of_lt (Int.ofNat_le.mpr h) (by decide)⟩
/-! what is walked by range; kept away from casts, which the kernel would count out -/
section
variable {ι : Type} {call : ι → List D → MH → Res D} {v : Env} {m m2 m3 : MH} {a b : E ι}
theorem w_k1 {k : Int} (h : (sem call a).e v m = .ok (.int k) m2) (h1 : -4611686018427387904 ≤ k) (h2 : k < 4611686018427387904) : (sem call (.rng1 a)).w v m = .ok (.items (rangeD 0 k)) m2 := by
  simp [h, h1, h2]
theorem w_k2 {j k : Int} (h : (sem call a).e v m = .ok (.int j) m2) (g : (sem call b).e v m2 = .ok (.int k) m3) (g1 : -4611686018427387904 ≤ j) (g2 : j < 4611686018427387904) (h1 : -4611686018427387904 ≤ k) (h2 : k < 4611686018427387904) : (sem call (.rng2 a b)).w v m = .ok (.items (rangeD j k)) m3 := by
  simp [h, g, g1, g2, h1, h2]
theorem x_k1 {t : T ι} {x : S ι} {k : Int} (h : (sem call a).e v m = .ok (.int k) m2) (h1 : -4611686018427387904 ≤ k) (h2 : k < 4611686018427387904) : exec call (.for_ t (.rng1 a) x) v m = loop call t x (.items (rangeD 0 k)) v m2 := by
  rw [x_for, w_k1 h h1 h2]
  rfl
theorem x_k2 {t : T ι} {x : S ι} {j k : Int} (h : (sem call a).e v m = .ok (.int j) m2) (g : (sem call b).e v m2 = .ok (.int k) m3) (g1 : -4611686018427387904 ≤ j) (g2 : j < 4611686018427387904) (h1 : -4611686018427387904 ≤ k) (h2 : k < 4611686018427387904) : exec call (.for_ t (.rng2 a b) x) v m = loop call t x (.items (rangeD j k)) v m3 := by
  rw [x_for, w_k2 h g g1 g2 h1 h2]
  rfl
end
/-! a loop over a list that stays as it is, in a state that stays -/
theorem live_const {ι : Type} {call : ι → List D → MH → Res D} {t : T ι} {b : S ι} {m : MH} {l i : Nat} {xs : List D} (hg : get m l i = some (.lst xs)) (I : Env → Prop)
    (hs : ∀ x ∈ xs, ∀ v, I v → ∃ v1, (tgt call t).g x v m = .ok v1 m ∧ ∃ v2, exec call b v1 m = .ok (.nx v2) m ∧ I v2) : ∀ v, I v → ∃ v2, loop call t b (.live l i xs.length) v m = .ok (.nx v2) m ∧ I v2 := by
  have key : ∀ k, k ≤ xs.length → ∀ v, I v → ∃ v2, forN (fun x v m => (tgt call t).g x v m) (fun v m => exec call b v m) l i xs.length k v m = .ok (.nx v2) m ∧ I v2 := by
    intro k
    induction k with
    | zero =>
      intro _ v hv
      refine ⟨v, ?_, hv⟩
      simp [forN, hg]
    | succ k ih =>
      intro hk v hv
      have hlt : xs.length - (k + 1) < xs.length := by omega
      obtain ⟨v1, e1, v2, e2, hv2⟩ := hs xs[xs.length - (k + 1)] (List.getElem_mem hlt) v hv
      obtain ⟨v3, e3, hv3⟩ := ih (by omega) v2 hv2
      refine ⟨v3, ?_, hv3⟩
      simp only [forN, hg, List.getElem?_eq_getElem hlt, e1, Res.tg_ok, e2, Res.then_nx, e3]
  exact key xs.length (Nat.le_refl _)
theorem w_live {ι : Type} {call : ι → List D → MH → Res D} {v : Env} {m : MH} {k l i : Nat} {xs : List D} (hv : v.at_ k = some (.ref l i)) (hg : get m l i = some (.lst xs)) : (sem call (.var k)).w v m = .ok (.live l i xs.length) m := by
  simp [hv, walked, hg]
end Fw

set_option Elab.async false
set_option linter.all false
set_option maxRecDepth 100000
set_option maxHeartbeats 2000000
set_option autoImplicit false
/-! ## Fw18: fine data (shown, of no great numbers), bent things -/
namespace Fw
open PySem
/-! ### fine data -/
mutual
/-- nothing that changes; lists if l, dicts if c; numbers below B -/
def fine (l c : Bool) (B : Nat) : D → Bool
  | .non => true
  | .bl _ => true
  | .int i => decide (i.natAbs < B)
  | .str x => PyData.strOk x
  | .tup xs => fineL l c B xs
  | .lst xs => l && fineL l c B xs
  | .dct ks xs => c && (decide (ks.length = xs.length) && (ks.all (fun i => decide (i.natAbs < B)) && fineL l c B xs))
  | .ref _ _ => false
  | .scr _ => false
  | .exc _ => false
  | .ins _ _ _ => false
  | .any => false
def fineL (l c : Bool) (B : Nat) : List D → Bool
  | [] => true
  | x :: xs => fine l c B x && fineL l c B xs
end
mutual
/-- no instance in it, nothing that changes -/
def pl : D → Bool
  | .non => true
  | .bl _ => true
  | .int _ => true
  | .str _ => true
  | .tup xs => plL xs
  | .lst xs => plL xs
  | .dct _ xs => plL xs
  | .scr xs => plL xs
  | .ref _ _ => false
  | .exc _ => false
  | .ins _ _ _ => false
  | .any => false
def plL : List D → Bool
  | [] => true
  | x :: xs => pl x && plL xs
end
mutual
def rm : D → Nat
  | .non => 4
  | .bl _ => 5
  | .int _ => 1921
  | .str x => (reprText x).length
  | .tup xs => rmL xs + 3
  | .lst xs => rmL xs + 2
  | .dct ks xs => rmL xs + 1930 * ks.length + 2
  | .scr _ => 0
  | .ref _ _ => 0
  | .exc _ => 0
  | .ins _ _ _ => 0
  | .any => 0
def rmL : List D → Nat
  | [] => 0
  | x :: xs => rm x + 2 + rmL xs
end
mutual
def dp : D → Nat
  | .tup xs => dpL xs + 1
  | .lst xs => dpL xs + 1
  | .dct _ xs => dpL xs + 1
  | _ => 0
def dpL : List D → Nat
  | [] => 0
  | x :: xs => max (dp x) (dpL xs)
end
section
variable {l c : Bool} {B : Nat}
theorem fineL_append (xs ys : List D) : fineL l c B (xs ++ ys) = (fineL l c B xs && fineL l c B ys) := by
  induction xs with
  | nil => simp [fineL]
  | cons x xs ih => simp [fineL, ih, Bool.and_assoc]
theorem rmL_append (xs ys : List D) : rmL (xs ++ ys) = rmL xs + rmL ys := by
  induction xs with
  | nil => simp [rmL]
  | cons x xs ih => simp [rmL, ih]; omega
theorem dpL_append (xs ys : List D) : dpL (xs ++ ys) = max (dpL xs) (dpL ys) := by
  induction xs with
  | nil => simp [dpL]
  | cons x xs ih => simp only [List.cons_append, dpL, ih]; omega
theorem fineL_all {xs : List D} : fineL l c B xs = true ↔ ∀ x ∈ xs, fine l c B x = true := by
  induction xs with
  | nil => simp [fineL]
  | cons x xs ih => simp [fineL, ih]
theorem rmL_len (xs : List D) : 2 * xs.length ≤ rmL xs := by
  induction xs with
  | nil => simp [rmL]
  | cons x xs ih => simp [rmL]; omega
mutual
theorem fine_mono {l' c' : Bool} {B' : Nat} (hl : l = true → l' = true) (hc : c = true → c' = true) (hB : B ≤ B') : ∀ x : D, fine l c B x = true → fine l' c' B' x = true
  | .non, _ => rfl
  | .bl _, _ => rfl
  | .int i, h => by simp only [fine, decide_eq_true_eq] at h ⊢; omega
  | .str _, h => h
  | .tup xs, h => by simp only [fine] at h ⊢; exact fineL_mono hl hc hB xs h
  | .lst xs, h => by
    simp only [fine, Bool.and_eq_true] at h ⊢
    exact ⟨hl h.1, fineL_mono hl hc hB xs h.2⟩
  | .dct ks xs, h => by
    simp only [fine, Bool.and_eq_true, List.all_eq_true, decide_eq_true_eq] at h ⊢
    exact ⟨hc h.1, h.2.1, fun i hi => Nat.lt_of_lt_of_le (h.2.2.1 i hi) hB, fineL_mono hl hc hB xs h.2.2.2⟩
  | .ref _ _, h => by simp [fine] at h
  | .scr _, h => by simp [fine] at h
  | .exc _, h => by simp [fine] at h
  | .ins _ _ _, h => by simp [fine] at h
  | .any, h => by simp [fine] at h
theorem fineL_mono {l' c' : Bool} {B' : Nat} (hl : l = true → l' = true) (hc : c = true → c' = true) (hB : B ≤ B') : ∀ xs : List D, fineL l c B xs = true → fineL l' c' B' xs = true
  | [], _ => rfl
  | x :: xs, h => by
    simp only [fineL, Bool.and_eq_true] at h ⊢
    exact ⟨fine_mono hl hc hB x h.1, fineL_mono hl hc hB xs h.2⟩
end
mutual
theorem fine_bd (n : Nat) : ∀ x : D, fine l c B x = true → x.bd n = true
  | .non, _ => rfl
  | .bl _, _ => rfl
  | .int i, h => rfl
  | .str _, _ => rfl
  | .tup xs, h => by simp only [fine] at h; simp only [D.bd]; exact fineL_bd n xs h
  | .lst xs, h => by
    simp only [fine, Bool.and_eq_true] at h
    simp only [D.bd]
    exact fineL_bd n xs h.2
  | .dct ks xs, h => by
    simp only [fine, Bool.and_eq_true] at h
    simp only [D.bd]
    exact fineL_bd n xs h.2.2.2
  | .ref _ _, h => by simp [fine] at h
  | .scr _, h => by simp [fine] at h
  | .exc _, h => by simp [fine] at h
  | .ins _ _ _, h => by simp [fine] at h
  | .any, h => by simp [fine] at h
theorem fineL_bd (n : Nat) : ∀ xs : List D, fineL l c B xs = true → bdL n xs = true
  | [], _ => rfl
  | x :: xs, h => by
    simp only [fineL, Bool.and_eq_true] at h
    simp only [bdL, Bool.and_eq_true]
    exact ⟨fine_bd n x h.1, fineL_bd n xs h.2⟩
end
mutual
theorem fine_pl : ∀ x : D, fine l c B x = true → pl x = true
  | .non, _ => rfl
  | .bl _, _ => rfl
  | .int i, h => rfl
  | .str _, _ => rfl
  | .tup xs, h => by simp only [fine] at h; simp only [pl]; exact fineL_pl xs h
  | .lst xs, h => by
    simp only [fine, Bool.and_eq_true] at h
    simp only [pl]
    exact fineL_pl xs h.2
  | .dct ks xs, h => by
    simp only [fine, Bool.and_eq_true] at h
    simp only [pl]
    exact fineL_pl xs h.2.2.2
  | .ref _ _, h => by simp [fine] at h
  | .scr _, h => by simp [fine] at h
  | .exc _, h => by simp [fine] at h
  | .ins _ _ _, h => by simp [fine] at h
  | .any, h => by simp [fine] at h
theorem fineL_pl : ∀ xs : List D, fineL l c B xs = true → plL xs = true
  | [], _ => rfl
  | x :: xs, h => by
    simp only [fineL, Bool.and_eq_true] at h
    simp only [plL, Bool.and_eq_true]
    exact ⟨fine_pl x h.1, fineL_pl xs h.2⟩
end
mutual
theorem pl_bd (n : Nat) : ∀ x : D, pl x = true → x.bd n = true
  | .non, _ => rfl
  | .bl _, _ => rfl
  | .int i, h => rfl
  | .str _, _ => rfl
  | .tup xs, h => by simp only [pl] at h; simp only [D.bd]; exact plL_bd n xs h
  | .lst xs, h => by simp only [pl] at h; simp only [D.bd]; exact plL_bd n xs h
  | .dct ks xs, h => by simp only [pl] at h; simp only [D.bd]; exact plL_bd n xs h
  | .ref _ _, h => by simp [pl] at h
  | .scr xs, h => by simp only [pl] at h; simp only [D.bd]; exact plL_bd n xs h
  | .exc _, h => by simp [pl] at h
  | .ins _ _ _, h => by simp [pl] at h
  | .any, h => by simp [pl] at h
theorem plL_bd (n : Nat) : ∀ xs : List D, plL xs = true → bdL n xs = true
  | [], _ => rfl
  | x :: xs, h => by
    simp only [plL, Bool.and_eq_true] at h
    simp only [bdL, Bool.and_eq_true]
    exact ⟨pl_bd n x h.1, plL_bd n xs h.2⟩
end
theorem rmKv_zip : ∀ (ks : List Int) (ps : List PyData), ks.length = ps.length → roomKv ((ks.map PyData.int).zip ps) ≤ roomAll ps + 1930 * ks.length
  | [], [], _ => by simp [roomKv, roomAll]
  | [], _ :: _, h => by simp at h
  | _ :: _, [], h => by simp at h
  | k :: ks, p :: ps, h => by
    have := rmKv_zip ks ps (by simpa using h)
    simp only [List.map_cons, List.zip_cons_cons, roomKv, roomAll, roomOf, List.length_cons]
    omega
theorem showKv_zip (hB : B ≤ 2 ^ 1000) : ∀ (ks : List Int) (ps : List PyData), (ks.all fun i => decide (i.natAbs < B)) = true → PyData.showableAll ps = true → PyData.showableKv ((ks.map PyData.int).zip ps) = true
  | [], _, _, _ => rfl
  | _ :: _, [], _, _ => rfl
  | k :: ks, p :: ps, h, q => by
    simp only [List.all_cons, Bool.and_eq_true, decide_eq_true_eq] at h
    simp only [PyData.showableAll, Bool.and_eq_true] at q
    simp only [List.map_cons, List.zip_cons_cons, PyData.showableKv, Bool.and_eq_true]
    refine ⟨⟨?_, q.1⟩, showKv_zip hB ks ps h.2 q.2⟩
    have := log2_lt (Nat.lt_of_lt_of_le h.1 hB) (by omega)
    simp only [PyData.showable, decide_eq_true_eq]
    omega
theorem nlKv_zip : ∀ (ks : List Int) (ps : List PyData), noListAll ps = true → noListKv ((ks.map PyData.int).zip ps) = true
  | [], _, _ => rfl
  | _ :: _, [], _ => rfl
  | k :: ks, p :: ps, h => by
    simp only [noListAll, Bool.and_eq_true] at h
    simp only [List.map_cons, List.zip_cons_cons, noListKv, Bool.and_eq_true]
    exact ⟨h.1, nlKv_zip ks ps h.2⟩
theorem dpKv_zip : ∀ (ks : List Int) (ps : List PyData), PyData.depthKv ((ks.map PyData.int).zip ps) ≤ PyData.depthAll ps
  | [], _ => by simp [PyData.depthKv]
  | _ :: _, [] => by simp [PyData.depthKv]
  | k :: ks, p :: ps => by
    have := dpKv_zip ks ps
    simp only [List.map_cons, List.zip_cons_cons, PyData.depthKv, PyData.depthAll, PyData.depth]
    omega
mutual
theorem fine_nc (hB : B ≤ 2 ^ 1000) : ∀ x : D, fine l c B x = true → Nc l c (dp x) (rm x) x
  | .non, _ => ⟨_, rfl, rfl, fun _ => rfl, fun _ => rfl, Nat.le_refl _, Nat.le_refl _⟩
  | .bl _, _ => ⟨_, rfl, rfl, fun _ => rfl, fun _ => rfl, Nat.le_refl _, Nat.le_refl _⟩
  | .int i, h => by
    simp only [fine, decide_eq_true_eq] at h
    exact (nc_int (Nat.lt_of_lt_of_le h hB)).mono (by simp) (by simp) (Nat.le_refl _) (Nat.le_refl _)
  | .str _, _ => ⟨_, rfl, rfl, fun _ => rfl, fun _ => rfl, Nat.le_refl _, Nat.le_refl _⟩
  | .tup xs, h => by
    simp only [fine] at h
    exact (fine_ncL hB xs h).tup
  | .lst xs, h => by
    simp only [fine, Bool.and_eq_true] at h
    obtain ⟨ps, e', b1, b2, b3, b4, b5⟩ := fine_ncL hB xs h.2
    refine ⟨.list ps, by simp only [pd, e', Option.map_some], by simpa only [PyData.showable] using b1, fun q => (by rw [h.1] at q; cases q), fun q => (by simpa only [PyData.hasDict] using b3 q), ?_, ?_⟩
    · simp only [PyData.depth, dp]; omega
    · simp only [roomOf, rm]; omega
  | .dct ks xs, h => by
    simp only [fine, Bool.and_eq_true, decide_eq_true_eq] at h
    obtain ⟨h0, h1, h2, h3⟩ := h
    obtain ⟨ps, e', b1, b2, b3, b4, b5⟩ := fine_ncL hB xs h3
    have hl : ks.length = ps.length := by
      rw [h1]
      clear b1 b2 b3 b4 b5 h1 h3
      induction xs generalizing ps with
      | nil => simp only [pdL] at e'; cases e'; rfl
      | cons x xs ih =>
        simp only [pdL] at e'
        cases q1 : pd x with
        | none => rw [q1] at e'; cases e'
        | some a =>
          cases q2 : pdL xs with
          | none => rw [q1, q2] at e'; cases e'
          | some b =>
            rw [q1, q2] at e'
            cases e'
            simp [ih b q2]
    refine ⟨.dict ((ks.map .int).zip ps), by simp only [pd, e', Option.map_some], ?_, fun q => ?_, fun q => (by rw [h0] at q; cases q), ?_, ?_⟩
    · simp only [PyData.showable]
      exact showKv_zip hB ks ps h2 b1
    · simp only [noList]
      exact nlKv_zip ks ps (b2 q)
    · have := dpKv_zip ks ps
      simp only [PyData.depth, dp]
      omega
    · have := rmKv_zip ks ps hl
      simp only [roomOf, rm]
      omega
  | .ref _ _, h => by simp [fine] at h
  | .scr _, h => by simp [fine] at h
  | .exc _, h => by simp [fine] at h
  | .ins _ _ _, h => by simp [fine] at h
  | .any, h => by simp [fine] at h
theorem fine_ncL (hB : B ≤ 2 ^ 1000) : ∀ xs : List D, fineL l c B xs = true → NcL l c (dpL xs) (rmL xs) xs
  | [], _ => ⟨[], rfl, rfl, fun _ => rfl, fun _ => rfl, Nat.le_refl _, Nat.le_refl _⟩
  | x :: xs, h => by
    simp only [fineL, Bool.and_eq_true] at h
    have q := (fine_nc hB x h.1).cons (fine_ncL hB xs h.2)
    obtain ⟨ps, e, b1, b2, b3, b4, b5⟩ := q
    exact ⟨ps, e, b1, fun z => b2 (by simpa using z), fun z => b3 (by simpa using z), by simpa only [dpL] using b4, by simpa only [rmL] using b5⟩
end
mutual
/-- fine data without dicts, as == wants it -/
theorem fine_lay : ∀ x : D, fine l false B x = true → ∃ p, pd x = some p ∧ p.canLay0 = true ∧ p.depth ≤ dp x
  | .non, _ => ⟨_, rfl, rfl, Nat.le_refl _⟩
  | .bl _, _ => ⟨_, rfl, rfl, Nat.le_refl _⟩
  | .int i, h => ⟨_, rfl, rfl, Nat.le_refl _⟩
  | .str _, h => ⟨_, rfl, h, Nat.le_refl _⟩
  | .tup xs, h => by
    simp only [fine] at h
    obtain ⟨ps, e, a, b⟩ := fineL_lay xs h
    refine ⟨.tuple ps, by simp only [pd, e, Option.map_some], by simpa only [PyData.canLay0] using a, ?_⟩
    simp only [PyData.depth, dp]
    omega
  | .lst xs, h => by
    simp only [fine, Bool.and_eq_true] at h
    obtain ⟨ps, e, a, b⟩ := fineL_lay xs h.2
    refine ⟨.list ps, by simp only [pd, e, Option.map_some], by simpa only [PyData.canLay0] using a, ?_⟩
    simp only [PyData.depth, dp]
    omega
  | .dct _ _, h => by simp [fine] at h
  | .ref _ _, h => by simp [fine] at h
  | .scr _, h => by simp [fine] at h
  | .exc _, h => by simp [fine] at h
  | .ins _ _ _, h => by simp [fine] at h
  | .any, h => by simp [fine] at h
theorem fineL_lay : ∀ xs : List D, fineL l false B xs = true → ∃ ps, pdL xs = some ps ∧ PyData.canLayAll0 ps = true ∧ PyData.depthAll ps ≤ dpL xs
  | [], _ => ⟨[], rfl, rfl, Nat.le_refl _⟩
  | x :: xs, h => by
    simp only [fineL, Bool.and_eq_true] at h
    obtain ⟨p, e1, a1, b1⟩ := fine_lay x h.1
    obtain ⟨ps, e2, a2, b2⟩ := fineL_lay xs h.2
    refine ⟨p :: ps, by simp only [pdL, e1, e2], by simp only [PyData.canLayAll0, a1, a2, Bool.and_self], ?_⟩
    simp only [PyData.depthAll, dpL]
    omega
end
theorem fine_shaped {x : D} (h : fine l false B x = true) (hd : dp x ≤ 64) : ∃ p, pd x = some p ∧ SeqAt.shaped p = true := by
  obtain ⟨p, e, a, b⟩ := fine_lay x h
  refine ⟨p, e, ?_⟩
  simp only [SeqAt.shaped, a, Bool.true_and, decide_eq_true_eq]
  omega
/-- what is fine is shown -/
theorem fine_repr {x : D} (h : fine l c B x = true) (hlc : (l && c) = false) (hB : B ≤ 2 ^ 1000) (h1 : dp x ≤ 60) (h2 : rm x ≤ 16777216) : ∃ s, ∀ m, reprD m x = some s := (fine_nc hB x h).repr hlc h1 h2
end
end Fw

set_option Elab.async false
set_option linter.all false
set_option maxRecDepth 100000
set_option maxHeartbeats 2000000
set_option autoImplicit false
/-! ## Fw19: bent things -/
namespace Fw
open PySem
theorem sIx_nat {n d k : Nat} (h : k ≤ n) : HT.sIx n d (some (k : Int)) = k := by
  show (if (k : Int) < 0 then ((k : Int) + (n : Int)).toNat else min (k : Int).toNat n) = k
  rw [if_neg (by omega)]
  simp only [Int.toNat_natCast]
  omega
theorem cut_to {xs : List D} {k : Nat} (h : k ≤ xs.length) : cut xs none (some (k : Int)) = xs.take k := by
  unfold cut
  rw [sIx_nat h]
  show (xs.drop 0).take (k - 0) = _
  simp
theorem cut_from {xs : List D} {k : Nat} (h : k ≤ xs.length) : cut xs (some (k : Int)) none = xs.drop k := by
  unfold cut
  rw [sIx_nat h]
  show (xs.drop k).take (xs.length - k) = _
  rw [List.take_of_length_le (by simp)]
theorem cut_mid {xs : List D} {j k : Nat} (h : j ≤ k) (h2 : k ≤ xs.length) : cut xs (some (j : Int)) (some (k : Int)) = (xs.drop j).take (k - j) := by
  unfold cut
  rw [sIx_nat (n := xs.length) (d := 0) (k := j) (by omega), sIx_nat h2]
theorem cut_last {xs : List D} : cut xs (some (-1)) none = xs.drop (xs.length - 1) := by
  unfold cut
  have : HT.sIx xs.length 0 (some (-1)) = xs.length - 1 := by
    show (if (-1 : Int) < 0 then ((-1 : Int) + (xs.length : Int)).toNat else min (-1 : Int).toNat xs.length) = _
    rw [if_pos (by omega)]
    omega
  rw [this]
  show (xs.drop (xs.length - 1)).take (xs.length - (xs.length - 1)) = _
  rw [List.take_of_length_le (by simp)]
theorem slD_tup {m : MH} {xs : List D} {a b : Option Int} : slD m (.tup xs) a b = some (.tup (cut xs a b)) := rfl
theorem tup_cat {m : MH} {xs ys : List D} (h : xs.length + ys.length ≤ 16777216) : arith .add (.tup xs) (.tup ys) m = .ok (.tup (xs ++ ys)) m := by
  have : xs.length + ys.length ≤ sizeLine := by unfold sizeLine; omega
  simp [arith, isInt2, seqOp, this]
theorem lst_cat {m : MH} {xs ys : List D} (h : xs.length + ys.length ≤ 16777216) : arith .add (.lst xs) (.lst ys) m = .ok (.lst (xs ++ ys)) m := by
  have : xs.length + ys.length ≤ sizeLine := by unfold sizeLine; omega
  simp [arith, isInt2, seqOp, lstOf, seqOf, this]
theorem leave_fine {x : D} (h : x.bd 0 = true) (r : MH) : leave x ([] :: r) = .ok x r := by
  have hb : x.bd r.length = true := D.bd_le (Nat.zero_le _) x h
  cases x with
  | ref l i => simp [D.bd] at h
  | _ => simp only [leave, hb, if_true]
theorem ty_bd {x : D} (h : pl x = true) (m : MH) : tyKnown m x = true := by
  cases x with
  | ref l i => simp [pl] at h
  | exc => simp [pl] at h
  | ins => simp [pl] at h
  | any => simp [pl] at h
  | _ => rfl
theorem notup {x : D} (h : pl x = true) (ht : ∀ xs, x ≠ .tup xs) (m : MH) : isTy m .tuple x = false := by
  cases x with
  | tup xs => exact absurd rfl (ht xs)
  | _ => rfl
theorem isInt_eq {x : D} (h : isInt x = true) : ∃ i, x = .int i := by
  cases x <;> first | exact ⟨_, rfl⟩ | cases h
theorem whole_k {ι : Type} {P : ι → Fn ι} {f : ι} (h : P f = wholeFn) (d : Nat) {x : D} (hx : pl x = true) (m : MH) : run P (d + 1) f [x] m = .ok (.bl (isInt x)) m := run_whole h d x m (ty_bd hx _)
theorem run_b {ι : Type} {P : ι → Fn ι} {d : Nat} {f : ι} {F : Fn ι} (h : P f = F) {xs : List D} {m : MH} (hl : xs.length = F.np) : run P (d + 1) f xs m = left (exec (run P d) F.body (xs.map some ++ List.replicate (F.ns - F.np) none) ([] :: m)) := by
  subst h
  exact run_s rfl hl
/-- what a bent thing is -/
def Bt (dep room B : Nat) (y : D) : Prop := (fine true false B y = true ∨ fine false true B y = true) ∧ dp y ≤ dep ∧ rm y ≤ room
theorem Bt.mono {dep room B dep' room' B' : Nat} {y : D} (h : Bt dep room B y) (h1 : dep ≤ dep') (h2 : room ≤ room') (h3 : B ≤ B') : Bt dep' room' B' y :=
  ⟨h.1.imp (fun q => fine_mono (fun z => z) (fun z => z) h3 y q) fun q => fine_mono (fun z => z) (fun z => z) h3 y q, Nat.le_trans h.2.1 h1, Nat.le_trans h.2.2 h2⟩
theorem Bt.bd {dep room B : Nat} {y : D} (h : Bt dep room B y) (n : Nat) : y.bd n = true := h.1.elim (fun q => fine_bd n y q) fun q => fine_bd n y q
theorem Bt.pl {dep room B : Nat} {y : D} (h : Bt dep room B y) : pl y = true := h.1.elim (fun q => fine_pl y q) fun q => fine_pl y q
theorem Bt.repr {dep room B : Nat} {y : D} (h : Bt dep room B y) (hB : B ≤ 2 ^ 1000) (h1 : dep ≤ 60) (h2 : room ≤ 16777216) : ∃ s, ∀ m, reprD m y = some s := by
  obtain ⟨h0, ha, hb⟩ := h
  exact h0.elim (fun q => fine_repr q rfl hB (by omega) (by omega)) fun q => fine_repr q rfl hB (by omega) (by omega)
theorem Bt.of {B : Nat} {y : D} (h : fine false false B y = true) : Bt (dp y) (rm y) B y := ⟨.inl (fine_mono (by simp) (by simp) (Nat.le_refl _) y h), Nat.le_refl _, Nat.le_refl _⟩
theorem odd_bt : ∀ x ∈ odds, Bt 3 8000 200000000000 x := by
  intro x hx
  simp only [odds, List.mem_cons, List.not_mem_nil, or_false] at hx
  rcases hx with rfl | rfl | rfl | rfl | rfl | rfl | rfl | rfl | rfl | rfl | rfl | rfl | rfl | rfl | rfl | rfl | rfl
  all_goals first
    | exact ⟨.inl (by decide +kernel), by decide +kernel, by decide +kernel⟩
    | exact ⟨.inr (by decide +kernel), by decide +kernel, by decide +kernel⟩
/-- fine items, one bent among them -/
theorem bt_mid {xs ys : List D} {y : D} {dep room B' : Nat} (h1 : fineL false false B' xs = true) (h2 : fineL false false B' ys = true) (hy : Bt dep room B' y) : Bt (max (max (dpL xs) dep) (dpL ys) + 1) (rmL xs + (room + 2) + rmL ys + 3) B' (.tup (xs ++ [y] ++ ys)) := by
  obtain ⟨h0, ha, hb⟩ := hy
  have up : ∀ {l c : Bool} {zs : List D}, fineL false false B' zs = true → fineL l c B' zs = true := fun {l c zs} q => fineL_mono (by simp) (by simp) (Nat.le_refl _) zs q
  refine ⟨h0.imp (fun q => ?_) fun q => ?_, ?_, ?_⟩
  · simp only [fine, fineL_append, fineL, Bool.and_true, Bool.and_eq_true]
    exact ⟨⟨up h1, q⟩, up h2⟩
  · simp only [fine, fineL_append, fineL, Bool.and_true, Bool.and_eq_true]
    exact ⟨⟨up h1, q⟩, up h2⟩
  · simp only [dp, dpL_append, dpL]
    omega
  · simp only [rm, rmL_append, rmL]
    omega
theorem eqD_nil {m : MH} {xs : List D} {p : PyData} (hp : pd (.tup xs) = some p) (hs : SeqAt.shaped p = true) : eqD m (.tup xs) (.tup []) = some (decide (xs = [])) := by
  rw [eqD_tup hp (b := .tuple []) rfl hs (by decide +kernel)]
  cases xs with
  | nil =>
    cases hp
    rfl
  | cons x xs =>
    simp only [pd] at hp
    obtain ⟨ps, e, rfl⟩ := Option.map_eq_some_iff.mp hp
    cases ps with
    | nil =>
      simp only [pdL] at e
      split at e <;> cases e
    | cons q qs => rfl
def bentFn {ι : Type} (wh tk od self : ι) : Fn ι := ⟨2, 4, (.cons (.ifs (.not (.isi (.var 1) .tuple)) (.cons (.ifs (.and (.call wh (.cons (.var 1) .nil)) (.cmp .gt (.call tk (.cons (.var 0) (.cons (.lit (.int 3)) .nil))) (.lit (.int 0)))) (.cons (.ret (.bin .add (.var 1) (.idx (.lst (.cons (.lit (.int 1)) (.cons (.neg (.lit (.int 1))) (.cons (.lit (.int 9)) (.cons (.lit (.int 100)) (.cons (.lit (.int 9999)) (.cons (.neg (.bin .pow (.lit (.int 10)) (.lit (.int 4)))) .nil))))))) (.call tk (.cons (.var 0) (.cons (.lit (.int 6)) .nil)))))) .nil) .nil) (.cons (.ret (.call od (.cons (.var 0) .nil))) .nil)) .nil) (.cons (.asg (.name 2) (.call tk (.cons (.var 0) (.cons (.lit (.int 12)) .nil)))) (.cons (.ifs (.or (.cmp .eq (.var 2) (.lit (.int 0))) (.cmp .eq (.var 1) (.tup .nil))) (.cons (.ret (.idx (.lst (.cons (.call od (.cons (.var 0) .nil)) (.cons (.bi .list (.cons (.var 1) .nil)) (.cons (.bin .add (.var 1) (.tup (.cons (.call od (.cons (.var 0) .nil)) .nil))) (.cons (.bin .add (.var 1) (.sl (.var 1) (.neg (.lit (.int 1))) .nil)) .nil))))) (.call tk (.cons (.var 0) (.cons (.lit (.int 4)) .nil))))) .nil) .nil) (.cons (.asg (.name 3) (.call tk (.cons (.var 0) (.cons (.bi .len (.cons (.var 1) .nil)) .nil)))) (.cons (.ifs (.cmp .eq (.var 2) (.lit (.int 1))) (.cons (.ret (.bin .add (.sl (.var 1) .nil (.var 3)) (.sl (.var 1) (.bin .add (.var 3) (.lit (.int 1))) .nil))) .nil) .nil) (.cons (.ifs (.cmp .eq (.var 2) (.lit (.int 2))) (.cons (.ret (.bin .add (.bin .add (.sl (.var 1) .nil (.var 3)) (.sl (.var 1) (.var 3) (.bin .add (.var 3) (.lit (.int 1))))) (.sl (.var 1) (.var 3) .nil))) .nil) .nil) (.cons (.ret (.bin .add (.bin .add (.sl (.var 1) .nil (.var 3)) (.tup (.cons (.call self (.cons (.var 0) (.cons (.idx (.var 1) (.var 3)) .nil))) .nil))) (.sl (.var 1) (.bin .add (.var 3) (.lit (.int 1))) .nil))) .nil)))))))⟩
section
variable {ι : Type} {P : ι → Fn ι} {f wh tk od : ι} (h : P f = bentFn wh tk od f) (hw : P wh = wholeFn) (ht : P tk = takeFn) (ho : P od = oddFn tk)
include ht ho
theorem odd_c (d : Nat) {m : MH} {l i : Nat} (hl : Lv m l i) (n : Int) : ∃ x, x ∈ odds ∧ run P (d + 2) od [.ref l i] ([] :: put m l i (.lst [.int n])) = .ok x ([] :: put m l i (.lst [.int (n / 17)])) := by
  obtain ⟨x, hx, e⟩ := run_odd ho ht d (get_under (fr := []) (lv_get hl (.lst [.int n])))
  rw [put_under (by rw [put_length]; exact lv_lt hl), put_put] at e
  exact ⟨x, hx, e⟩
include h hw
/-- what is no tuple -/
theorem bent_flat (d : Nat) {m : MH} {l i : Nat} {n : Int} {B : Nat} {x : D} (hx : fine false false B x = true) (hnt : ∀ xs, x ≠ .tup xs) (hr : rm x ≤ 4000000) (hg : get m l i = some (.lst [.int n])) : ∃ y n', run P (d + 3) f [.ref l i, x] m = .ok y (put m l i (.lst [.int n'])) ∧ Bt (dp x + 4) (2 * rm x + 9000) (B + 200000000000) y := by
  have hl : Lv m l i := by unfold Lv; rw [hg]; rfl
  have hb := fine_bd 0 x hx
  have hp := fine_pl x hx
  rw [run_s h rfl, ← put_self hg]
  have kn := ty_bd hp
  have ty := notup hp hnt
  have w := fun m => whole_k hw (d + 1) hp m
  have t3 := run_takeC ht (d + 1) (fr := []) (n := n) (far := 3) hl (by omega) (by decide)
  have fin : ∀ {y : D} {n' : Int}, y.bd 0 = true → left (.ok (.rt y) ([] :: put m l i (.lst [.int n']))) = .ok y (put m l i (.lst [.int n'])) := fun hy => leave_fine hy _
  have oddCase : ∀ n : Int, ∃ y, run P (d + 2) od [.ref l i] ([] :: put m l i (.lst [.int n])) = .ok y ([] :: put m l i (.lst [.int (n / 17)])) ∧ Bt (dp x + 4) (2 * rm x + 9000) (B + 200000000000) y := by
    intro n
    obtain ⟨y, hy, e⟩ := odd_c ht ho d hl n
    exact ⟨y, e, (odd_bt y hy).mono (by omega) (by omega) (by omega)⟩
  by_cases hi : isInt x = true
  · obtain ⟨j, rfl⟩ := isInt_eq hi
    by_cases h3 : 0 < n % 3
    · have t6 := run_takeC ht (d + 1) (fr := []) (n := n / 3) (far := 6) hl (by omega) (by decide)
      obtain ⟨q, hq, e⟩ := pick (xs := [.int 1, .int (-1), .int 9, .int 100, .int 9999, .int (-10000)]) (i := n / 3 % 6) (by omega) (by show n / 3 % 6 < ((6 : Nat) : Int); omega)
      obtain ⟨c, rfl, hc⟩ : ∃ c : Int, q = .int c ∧ c.natAbs ≤ 10000 := by
        simp only [List.mem_cons, List.not_mem_nil, or_false] at hq
        rcases hq with rfl | rfl | rfl | rfl | rfl | rfl <;> exact ⟨_, rfl, by decide⟩
      refine ⟨.int (j + c), n / 3 / 6, ?_, ⟨.inl ?_, by simp [dp], by simp [rm]⟩⟩
      · simp [kn, ty, w, isInt, t3, h3, t6, e, left, leave, D.bd]
      · simp only [fine, decide_eq_true_eq] at hx ⊢
        omega
    · obtain ⟨y, e, hy⟩ := oddCase (n / 3)
      refine ⟨y, n / 3 / 17, ?_, hy⟩
      have := fin (n' := n / 3 / 17) (hy.bd 0)
      simp [kn, ty, w, isInt, t3, h3, e, this]
  · obtain ⟨y, e, hy⟩ := oddCase n
    refine ⟨y, n / 17, ?_, hy⟩
    have hi' : isInt x = false := by simpa using hi
    have := fin (n' := n / 17) (hy.bd 0)
    simp [kn, ty, w, hi', e, this]


theorem bent_ok : ∀ (k d : Nat) {m : MH} {l i : Nat} {n : Int} {B : Nat} {x : D}, dp x ≤ k → k ≤ 50 → fine false false B x = true → rm x ≤ 4000000 → get m l i = some (.lst [.int n]) →
    ∃ y n', run P (d + k + 3) f [.ref l i, x] m = .ok y (put m l i (.lst [.int n'])) ∧ Bt (dp x + 4) (2 * rm x + 9000) (B + 200000000000) y := by
  intro k
  induction k with
  | zero =>
    intro d m l i n B x hd _ hx hr hg
    exact bent_flat h hw ht ho d hx (fun xs e => by subst e; simp only [dp] at hd; omega) hr hg
  | succ k ih =>
    intro d m l i n B x hd hk hx hr hg
    by_cases htup : ∃ xs, x = .tup xs
    case neg =>
      have q := bent_flat h hw ht ho (d + (k + 1)) hx (fun xs e => htup ⟨xs, e⟩) hr hg
      exact q
    obtain ⟨xs, rfl⟩ := htup
    have hl : Lv m l i := by unfold Lv; rw [hg]; rfl
    have hB0 : ∀ {zs : List D}, fineL false false B zs = true → fineL false false (B + 200000000000) zs = true := fun {zs} q => fineL_mono (by simp) (by simp) (by omega) zs q
    have hxs : fineL false false B xs = true := by simpa only [fine] using hx
    obtain ⟨p, hp, hs⟩ := fine_shaped hx (by omega)
    have hlen := rmL_len xs
    simp only [rm] at hr
    have hdx : dpL xs ≤ k := by simp only [dp] at hd; omega
    suffices hsuf : ∃ y n', run P (d + (k + 1) + 3) f [.ref l i, .tup xs] (put m l i (.lst [.int n])) = .ok y (put m l i (.lst [.int n'])) ∧ Bt (dp (.tup xs) + 4) (2 * rm (.tup xs) + 9000) (B + 200000000000) y by rwa [put_self hg] at hsuf
    rw [show d + (k + 1) + 3 = d + k + 3 + 1 from by omega, run_b h rfl]
    have hbody : (bentFn wh tk od f).body = .cons (nth (bentFn wh tk od f).body 0) (.cons (nth (bentFn wh tk od f).body 1) (.cons (nth (bentFn wh tk od f).body 2) (.cons (nth (bentFn wh tk od f).body 3) (.cons (nth (bentFn wh tk od f).body 4) (.cons (nth (bentFn wh tk od f).body 5) (.cons (nth (bentFn wh tk od f).body 6) .nil)))))) := rfl
    have fin : ∀ {y : D} {n' : Int}, y.bd 0 = true → left (.ok (.rt y) ([] :: put m l i (.lst [.int n']))) = .ok y (put m l i (.lst [.int n'])) := fun hy => leave_fine hy _
    have t12 := run_takeC ht (d + k + 2) (fr := []) (n := n) (far := 12) hl (by omega) (by decide)
    have ty : ∀ m, isTy m .tuple (.tup xs) = true := fun _ => rfl
    have kn : ∀ m, tyKnown m (.tup xs) = true := fun _ => rfl
    have en : ∀ m, eqD m (.tup xs) (.tup []) = some (decide (xs = [])) := fun m => eqD_nil hp hs
    have lt : ∀ m, built .list [.tup xs] m = some (.lst xs) := fun _ => rfl
    have ln : ∀ m, built .len [.tup xs] m = some (.int xs.length) := fun _ => rfl
    have bdx : bdL 0 xs = true := fineL_bd 0 xs hxs
    generalize hn1 : n / 12 = n1 at t12
    have s0 : ∀ w3, exec (run P (d + k + 3)) (nth (bentFn wh tk od f).body 0) [some (.ref l i), some (.tup xs), none, w3] ([] :: put m l i (.lst [.int n])) = .ok (.nx [some (.ref l i), some (.tup xs), none, w3]) ([] :: put m l i (.lst [.int n])) := fun w3 => by
      simp [nth, bentFn, kn, ty]
    have s1 : exec (run P (d + k + 3)) (nth (bentFn wh tk od f).body 1) [some (.ref l i), some (.tup xs), none, none] ([] :: put m l i (.lst [.int n])) = .ok (.nx [some (.ref l i), some (.tup xs), some (.int (n % 12)), none]) ([] :: put m l i (.lst [.int n1])) := by
      simp [nth, bentFn, t12]
    have q2 : decide (n % 12 = 0) = true ∨ decide (xs = []) = true → ∃ y n', exec (run P (d + k + 3)) (nth (bentFn wh tk od f).body 2) [some (.ref l i), some (.tup xs), some (.int (n % 12)), none] ([] :: put m l i (.lst [.int n1])) = .ok (.rt y) ([] :: put m l i (.lst [.int n'])) ∧ Bt (dp (.tup xs) + 4) (2 * rm (.tup xs) + 9000) (B + 200000000000) y := by
      intro hor
      obtain ⟨x1, hx1, e1⟩ := odd_c ht ho (d + k + 1) hl n1
      obtain ⟨x2, hx2, e2⟩ := odd_c ht ho (d + k + 1) hl (n1 / 17)
      have t4 := run_takeC ht (d + k + 2) (fr := []) (n := n1 / 17 / 17) (far := 4) hl (by omega) (by decide)
      have c1 := fun m => tup_cat (m := m) (xs := xs) (ys := [x2]) (by simp; omega)
      have c2 := fun m => tup_cat (m := m) (xs := xs) (ys := xs.drop (xs.length - 1)) (by simp; omega)
      obtain ⟨q, hq, e⟩ := pick (xs := [x1, .lst xs, .tup (xs ++ [x2]), .tup (xs ++ xs.drop (xs.length - 1))]) (i := n1 / 17 / 17 % 4) (by omega) (by show n1 / 17 / 17 % 4 < ((4 : Nat) : Int); omega)
      have hb : Bt (dp (.tup xs) + 4) (2 * rm (.tup xs) + 9000) (B + 200000000000) q := by
        simp only [List.mem_cons, List.not_mem_nil, or_false] at hq
        rcases hq with rfl | rfl | rfl | rfl
        · exact (odd_bt _ hx1).mono (by omega) (by omega) (by omega)
        · refine ⟨.inl ?_, ?_, ?_⟩
          · simp only [fine, Bool.true_and]
            exact fineL_mono (by simp) (by simp) (by omega) xs hxs
          · simp only [dp]; omega
          · simp only [rm]; omega
        · have := bt_mid (xs := xs) (ys := []) (hB0 hxs) rfl ((odd_bt _ hx2).mono (Nat.le_refl _) (Nat.le_refl _) (show 200000000000 ≤ B + 200000000000 by omega))
          simp only [List.append_nil] at this
          refine this.mono ?_ ?_ (Nat.le_refl _)
          · simp only [dp, dpL]; omega
          · simp only [rm, rmL]; omega
        · have hsp := List.take_append_drop (xs.length - 1) xs
          have f2 : fineL false false B (xs.drop (xs.length - 1)) = true := by
            have := fineL_append (l := false) (c := false) (B := B) (xs.take (xs.length - 1)) (xs.drop (xs.length - 1))
            rw [hsp, hxs] at this
            simp only [Bool.true_eq, Bool.and_eq_true] at this
            exact this.2
          have r2 : rmL (xs.drop (xs.length - 1)) ≤ rmL xs := by
            have := rmL_append (xs.take (xs.length - 1)) (xs.drop (xs.length - 1))
            rw [hsp] at this
            omega
          have d2 : dpL (xs.drop (xs.length - 1)) ≤ dpL xs := by
            have := dpL_append (xs.take (xs.length - 1)) (xs.drop (xs.length - 1))
            rw [hsp] at this
            omega
          refine ⟨.inl ?_, ?_, ?_⟩
          · simp only [fine, fineL_append, Bool.and_eq_true]
            exact ⟨fineL_mono (by simp) (by simp) (by omega) xs hxs, fineL_mono (by simp) (by simp) (by omega) _ f2⟩
          · simp only [dp, dpL_append]; omega
          · simp only [rm, rmL_append]; omega
      refine ⟨q, n1 / 17 / 17 / 4, ?_, hb⟩
      have ho' : n % 12 = 0 ∨ xs = [] := by simpa using hor
      by_cases h0 : n % 12 = 0
      · simp [nth, bentFn, h0, eqD_int, e1, e2, lt, slD_tup, cut_last, c1, c2, t4, e]
      · have h1 := ho'.resolve_left h0
        have en' : ∀ m, eqD m (.tup xs) (.tup []) = some true := fun m => by rw [en, h1]; rfl
        simp [nth, bentFn, h0, eqD_int, en', e1, e2, lt, slD_tup, cut_last, c1, c2, t4, e]
    rw [hbody]
    simp only [x_cons]
    have e0 : (([D.ref l i, D.tup xs].map some ++ List.replicate ((bentFn wh tk od f).ns - (bentFn wh tk od f).np) none) : Env) = [some (.ref l i), some (.tup xs), none, none] := rfl
    rw [e0, s0]
    simp only [Res.then_nx]
    rw [s1]
    simp only [Res.then_nx]
    by_cases h0 : decide (n % 12 = 0) = true ∨ decide (xs = []) = true
    · obtain ⟨y, n', e, hy⟩ := q2 h0
      refine ⟨y, n', ?_, hy⟩
      rw [e]
      exact fin (hy.bd 0)
    · simp only [decide_eq_true_eq, not_or] at h0
      obtain ⟨h0, hne⟩ := h0
      have en' : ∀ m, eqD m (.tup xs) (.tup []) = some false := fun m => by rw [en]; simp [hne]
      have s2 : exec (run P (d + k + 3)) (nth (bentFn wh tk od f).body 2) [some (.ref l i), some (.tup xs), some (.int (n % 12)), none] ([] :: put m l i (.lst [.int n1])) = .ok (.nx [some (.ref l i), some (.tup xs), some (.int (n % 12)), none]) ([] :: put m l i (.lst [.int n1])) := by
        simp [nth, bentFn, h0, eqD_int, en']
      have hpos : 0 < xs.length := List.length_pos_iff.mpr hne
      have tl := run_takeC ht (d + k + 2) (fr := []) (n := n1) (far := xs.length) hl (by omega) (by
        have := log2_lt (n := (xs.length : Int).natAbs) (k := 40) (by simp; omega) (by omega)
        omega)
      have a0 := Int.emod_nonneg n1 (b := (xs.length : Int)) (by omega)
      have a1 := Int.emod_lt_of_pos n1 (b := (xs.length : Int)) (by omega)
      obtain ⟨at_, hat⟩ := Int.eq_ofNat_of_zero_le a0
      rw [hat] at tl a1
      generalize hn2 : n1 / (xs.length : Int) = n2 at tl
      have hlt : at_ < xs.length := by omega
      have s3 : exec (run P (d + k + 3)) (nth (bentFn wh tk od f).body 3) [some (.ref l i), some (.tup xs), some (.int (n % 12)), none] ([] :: put m l i (.lst [.int n1])) = .ok (.nx [some (.ref l i), some (.tup xs), some (.int (n % 12)), some (.int (at_ : Int))]) ([] :: put m l i (.lst [.int n2])) := by
        simp [nth, bentFn, ln, tl]
      have k1 : ((at_ : Int) + 1) = ((at_ + 1 : Nat) : Int) := by omega
      have ct := cut_to (xs := xs) (k := at_) (by omega)
      have cf := cut_from (xs := xs) (k := at_ + 1) (by omega)
      have cf0 := cut_from (xs := xs) (k := at_) (by omega)
      have cm := cut_mid (xs := xs) (j := at_) (k := at_ + 1) (by omega) (by omega)
      have hsp : xs.take at_ ++ [xs[at_]] ++ xs.drop (at_ + 1) = xs := by
        rw [List.append_assoc]
        show xs.take at_ ++ (xs[at_] :: xs.drop (at_ + 1)) = xs
        rw [← List.drop_eq_getElem_cons hlt, List.take_append_drop]
      have one : (xs.drop at_).take (at_ + 1 - at_) = [xs[at_]] := by
        rw [show at_ + 1 - at_ = 1 from by omega, List.drop_eq_getElem_cons hlt]
        rfl
      rw [one] at cm
      have fa := hxs
      rw [← hsp] at fa
      simp only [fineL_append, Bool.and_eq_true, fineL, Bool.and_true] at fa
      obtain ⟨⟨f1, f2⟩, f3⟩ := fa
      have ra : rmL xs = rmL (xs.take at_) + (rm xs[at_] + 2) + rmL (xs.drop (at_ + 1)) := by
        conv => lhs; rw [← hsp]
        simp only [rmL_append, rmL, Nat.add_zero]
      have da : dpL xs = max (max (dpL (xs.take at_)) (dp xs[at_])) (dpL (xs.drop (at_ + 1))) := by
        have q := congrArg dpL hsp
        simp only [dpL_append, dpL] at q
        omega
      have l1 : (xs.take at_).length = at_ := by simp; omega
      have l3 : (xs.drop (at_ + 1)).length = xs.length - (at_ + 1) := by simp
      have l4 : (xs.drop at_).length = xs.length - at_ := by simp
      rw [s2]
      simp only [Res.then_nx]
      rw [s3]
      simp only [Res.then_nx]
      by_cases w1 : n % 12 = 1
      · have hy : Bt (dp (.tup xs) + 4) (2 * rm (.tup xs) + 9000) (B + 200000000000) (.tup (xs.take at_ ++ xs.drop (at_ + 1))) := by
          refine ⟨.inl ?_, ?_, ?_⟩
          · simp only [fine, fineL_append, Bool.and_eq_true]
            exact ⟨fineL_mono (by simp) (by simp) (by omega) _ f1, fineL_mono (by simp) (by simp) (by omega) _ f3⟩
          · simp only [dp, dpL_append]; omega
          · simp only [rm, rmL_append]; omega
        have cc := fun m => tup_cat (m := m) (xs := xs.take at_) (ys := xs.drop (at_ + 1)) (by omega)
        have s4 : exec (run P (d + k + 3)) (nth (bentFn wh tk od f).body 4) [some (.ref l i), some (.tup xs), some (.int (n % 12)), some (.int (at_ : Int))] ([] :: put m l i (.lst [.int n2])) = .ok (.rt (.tup (xs.take at_ ++ xs.drop (at_ + 1)))) ([] :: put m l i (.lst [.int n2])) := by
          simp only [nth, bentFn, x_ifs, t_cmp, e_var, e_lit, at_succ, at_zero, Res.of_some, Res.bind_ok, lit_int, cmp_eq, eqD_int, w1, decide_true, Res.st_ok, if_true, x_cons, x_ret, e_bin, e_sl, o_nil, o_var, o_bin, add_int, slD_tup, ct, cf, k1, cc, Res.then_rt]
        refine ⟨_, n2, ?_, hy⟩
        rw [s4]
        exact fin (hy.bd 0)
      · have s4 : exec (run P (d + k + 3)) (nth (bentFn wh tk od f).body 4) [some (.ref l i), some (.tup xs), some (.int (n % 12)), some (.int (at_ : Int))] ([] :: put m l i (.lst [.int n2])) = .ok (.nx [some (.ref l i), some (.tup xs), some (.int (n % 12)), some (.int (at_ : Int))]) ([] :: put m l i (.lst [.int n2])) := by
          simp [nth, bentFn, eqD_int, w1]
        rw [s4]
        simp only [Res.then_nx]
        by_cases w2 : n % 12 = 2
        · have hy : Bt (dp (.tup xs) + 4) (2 * rm (.tup xs) + 9000) (B + 200000000000) (.tup (xs.take at_ ++ [xs[at_]] ++ xs.drop at_)) := by
            have e4 : xs.drop at_ = [xs[at_]] ++ xs.drop (at_ + 1) := List.drop_eq_getElem_cons hlt
            rw [e4]
            refine ⟨.inl ?_, ?_, ?_⟩
            · simp only [fine, fineL_append, fineL, Bool.and_eq_true, Bool.and_true]
              have g1 := fineL_mono (l' := true) (c' := false) (B' := B + 200000000000) (by simp) (by simp) (by omega) _ f1
              have g2 := fine_mono (l' := true) (c' := false) (B' := B + 200000000000) (by simp) (by simp) (by omega) _ f2
              have g3 := fineL_mono (l' := true) (c' := false) (B' := B + 200000000000) (by simp) (by simp) (by omega) _ f3
              exact ⟨⟨g1, g2⟩, g2, g3⟩
            · simp only [dp, dpL_append, dpL]; omega
            · simp only [rm, rmL_append, rmL]; omega
          have cc := fun m => tup_cat (m := m) (xs := xs.take at_) (ys := [xs[at_]]) (by simp; omega)
          have cc2 := fun m => tup_cat (m := m) (xs := xs.take at_ ++ [xs[at_]]) (ys := xs.drop at_) (by simp; omega)
          have s5 : exec (run P (d + k + 3)) (nth (bentFn wh tk od f).body 5) [some (.ref l i), some (.tup xs), some (.int (n % 12)), some (.int (at_ : Int))] ([] :: put m l i (.lst [.int n2])) = .ok (.rt (.tup (xs.take at_ ++ [xs[at_]] ++ xs.drop at_))) ([] :: put m l i (.lst [.int n2])) := by
            simp only [nth, bentFn, x_ifs, t_cmp, e_var, e_lit, at_succ, at_zero, Res.of_some, Res.bind_ok, lit_int, cmp_eq, eqD_int, w2, decide_true, Res.st_ok, if_true, x_cons, x_ret, e_bin, e_sl, o_nil, o_var, o_bin, add_int, slD_tup, ct, cm, k1, cf0, cc, cc2, Res.then_rt]
          refine ⟨_, n2, ?_, hy⟩
          rw [s5]
          exact fin (hy.bd 0)
        · have s5 : exec (run P (d + k + 3)) (nth (bentFn wh tk od f).body 5) [some (.ref l i), some (.tup xs), some (.int (n % 12)), some (.int (at_ : Int))] ([] :: put m l i (.lst [.int n2])) = .ok (.nx [some (.ref l i), some (.tup xs), some (.int (n % 12)), some (.int (at_ : Int))]) ([] :: put m l i (.lst [.int n2])) := by
            simp [nth, bentFn, eqD_int, w2]
          rw [s5]
          simp only [Res.then_nx]
          obtain ⟨y, n3, e, hy⟩ := ih d (m := [] :: put m l i (.lst [.int n2])) (n := n2) (x := xs[at_]) (by omega) (by omega) f2 (by omega) (get_under (lv_get hl _))
          rw [put_under (by rw [put_length]; exact lv_lt hl), put_put] at e
          have hyy : Bt (dp (.tup xs) + 4) (2 * rm (.tup xs) + 9000) (B + 200000000000) (.tup (xs.take at_ ++ [y] ++ xs.drop (at_ + 1))) := by
            refine (bt_mid (hB0 f1) (hB0 f3) hy).mono ?_ ?_ (Nat.le_refl _)
            · simp only [dp]; omega
            · simp only [rm]; omega
          have ga : ∀ m, getAt m (.tup xs) (.int (at_ : Int)) = some xs[at_] := fun m => by
            simp only [getAt, seqOf, Option.bind_some, place_nat hlt]
            exact List.getElem?_eq_getElem hlt
          have cc := fun m => tup_cat (m := m) (xs := xs.take at_) (ys := [y]) (by simp; omega)
          have cc2 := fun m => tup_cat (m := m) (xs := xs.take at_ ++ [y]) (ys := xs.drop (at_ + 1)) (by simp; omega)
          have s6 : exec (run P (d + k + 3)) (nth (bentFn wh tk od f).body 6) [some (.ref l i), some (.tup xs), some (.int (n % 12)), some (.int (at_ : Int))] ([] :: put m l i (.lst [.int n2])) = .ok (.rt (.tup (xs.take at_ ++ [y] ++ xs.drop (at_ + 1)))) ([] :: put m l i (.lst [.int n3])) := by
            simp only [nth, bentFn, x_ret, e_bin, e_sl, o_nil, o_var, o_bin, e_var, e_lit, at_succ, at_zero, Res.of_some, Res.bind_ok, lit_int, add_int, slD_tup, ct, k1, cf, e_tup, l_cons, l_nil, e_call, e_idx, ga, e, List.length_cons, List.length_nil, sz1, Nat.zero_add, if_true, cc, cc2, Res.st_ok]
          refine ⟨_, n3, ?_, hyy⟩
          rw [s6]
          exact fin (hyy.bd 0)
end
end Fw

set_option Elab.async false
set_option linter.all false
set_option maxRecDepth 100000
set_option maxHeartbeats 2000000
set_option autoImplicit false
/-! ## Fw20: lots -/
namespace Fw
open PySem
abbrev iL (ns : List Int) : List D := ns.map D.int
def natD : D → Bool
  | .int i => decide (0 ≤ i)
  | _ => false
def intV : D → Int
  | .int i => i
  | _ => 0
def isLot : D → Bool
  | .tup xs => (decide (1 ≤ xs.length) && decide (xs.length ≤ 25)) && (xs.all natD && decide (0 < (xs.map intV).sum))
  | _ => false
def areW (x : D) (k : Int) : Bool := match x with
  | .tup xs => decide ((xs.length : Int) = k) && xs.all natD
  | _ => false
theorem nat_ints : ∀ {xs : List D}, xs.all natD = true → xs = iL (xs.map intV) ∧ ∀ n ∈ xs.map intV, 0 ≤ n
  | [], _ => ⟨rfl, by simp⟩
  | x :: xs, h => by
    simp only [List.all_cons, Bool.and_eq_true] at h
    obtain ⟨i1, i2⟩ := nat_ints h.2
    cases x with
    | int i =>
      have h1 : 0 ≤ i := by simpa [natD] using h.1
      refine ⟨?_, ?_⟩
      · exact congrArg (D.int i :: ·) i1
      · intro n hn
        simp only [List.map_cons, List.mem_cons, intV] at hn
        rcases hn with rfl | hn
        · exact h1
        · exact i2 n hn
    | _ => cases h.1
theorem ints_of : ∀ ns : List Int, intsOf (iL ns) = some ns
  | [] => rfl
  | n :: ns => by simp [intsOf, ints_of ns]
theorem bls_of : ∀ bs : List Bool, blsOf (bs.map D.bl) = some bs
  | [] => rfl
  | b :: bs => by simp [blsOf, bls_of bs]
theorem map_intV (ns : List Int) : (iL ns).map intV = ns := by
  induction ns with
  | nil => rfl
  | cons n ns ih => simp only [iL, List.map_cons, intV] at ih ⊢; rw [ih]
theorem natD_iL {ns : List Int} (h : ∀ n ∈ ns, 0 ≤ n) : (iL ns).all natD = true := by
  rw [List.all_eq_true]
  intro x hx
  obtain ⟨n, hn, rfl⟩ := List.mem_map.mp hx
  simp [natD, h n hn]
theorem fineL_iL {l c : Bool} {B : Nat} {ns : List Int} (h : ∀ n ∈ ns, n.natAbs < B) : fineL l c B (iL ns) = true := by
  rw [fineL_all]
  intro x hx
  obtain ⟨n, hn, rfl⟩ := List.mem_map.mp hx
  simp [fine, h n hn]
theorem rmL_iL (ns : List Int) : rmL (iL ns) = 1923 * ns.length := by
  induction ns with
  | nil => rfl
  | cons n ns ih => simp only [iL, List.map_cons, rmL, rm, List.length_cons] at ih ⊢; omega
theorem dpL_iL (ns : List Int) : dpL (iL ns) = 0 := by
  induction ns with
  | nil => rfl
  | cons n ns ih => simp only [iL, List.map_cons, dpL, dp] at ih ⊢; omega
/-! tuples of numbers compared -/
theorem pd_iL : ∀ ns : List Int, pdL (iL ns) = some (ns.map PyData.int)
  | [] => rfl
  | n :: ns => by simp [pdL, pd, pd_iL ns]
theorem lay_iL : ∀ ns : List Int, PyData.canLayAll0 (ns.map PyData.int) = true ∧ PyData.depthAll (ns.map PyData.int) = 0
  | [] => ⟨rfl, rfl⟩
  | n :: ns => by
    obtain ⟨a, b⟩ := lay_iL ns
    simp only [List.map_cons, PyData.canLayAll0, PyData.depthAll, PyData.canLay0, PyData.depth, a, b]
    exact ⟨rfl, rfl⟩
theorem eqv_iL : ∀ ns ms : List Int, PyData.eqvAll (ns.map PyData.int) (ms.map PyData.int) = decide (ns = ms)
  | [], [] => by simp [PyData.eqvAll]
  | [], _ :: _ => by simp [PyData.eqvAll]
  | _ :: _, [] => by simp [PyData.eqvAll]
  | n :: ns, m :: ms => by
    simp only [List.map_cons, PyData.eqvAll, PyData.eqv, eqv_iL ns ms]
    by_cases h : n = m <;> by_cases h2 : ns = ms <;> simp [h, h2]
theorem eqD_ints {m : MH} (ns ms : List Int) : eqD m (.tup (iL ns)) (.tup (iL ms)) = some (decide (ns = ms)) := by
  have sh : ∀ ns : List Int, SeqAt.shaped (.tuple (ns.map PyData.int)) = true := fun ns => by
    simp only [SeqAt.shaped, PyData.canLay0, PyData.depth, (lay_iL ns).1, (lay_iL ns).2]
    rfl
  rw [eqD_tup (a := .tuple (ns.map .int)) (b := .tuple (ms.map .int)) (by simp only [pd, pd_iL, Option.map_some]) (by simp only [pd, pd_iL, Option.map_some]) (sh ns) (sh ms)]
  simp only [PyData.eqv, eqv_iL]
/-! common divisors -/
def gcdF (a : Int) (ns : List Int) : Int := ns.foldl (fun a n => (Int.gcd a n : Int)) a
def gcdL (ns : List Int) : Int := gcdF 0 ns
def leastL (ns : List Int) : List Int := ns.map (· / gcdL ns)
theorem gcdF_dvd : ∀ (ns : List Int) (a : Int), gcdF a ns ∣ a ∧ ∀ n ∈ ns, gcdF a ns ∣ n
  | [], a => ⟨Int.dvd_refl a, by simp⟩
  | n :: ns, a => by
    obtain ⟨h1, h2⟩ := gcdF_dvd ns (Int.gcd a n : Int)
    refine ⟨Int.dvd_trans h1 (Int.gcd_dvd_left _ _), fun x hx => ?_⟩
    rcases List.mem_cons.mp hx with rfl | hx
    · exact Int.dvd_trans h1 (Int.gcd_dvd_right _ _)
    · exact h2 x hx
theorem gcdF_nonneg : ∀ (ns : List Int) (a : Int), 0 ≤ a → 0 ≤ gcdF a ns
  | [], a, h => h
  | n :: ns, a, h => gcdF_nonneg ns (Int.gcd a n : Int) (by omega)
theorem gcdL_pos {ns : List Int} {n : Int} (hn : n ∈ ns) (h : 0 < n) : 0 < gcdL ns ∧ gcdL ns ≤ n := by
  have h1 := gcdF_nonneg ns 0 (by omega)
  have h2 := (gcdF_dvd ns 0).2 n hn
  have h3 : gcdL ns ≤ n := Int.le_of_dvd h h2
  refine ⟨?_, h3⟩
  rcases Int.lt_or_eq_of_le h1 with q | q
  · exact q
  · exfalso
    rw [← q] at h2
    have := Int.zero_dvd.mp h2
    omega
theorem gcdF_mul (b : Int) (hb : 0 ≤ b) : ∀ (ns : List Int) (a : Int), gcdF (b * a) (ns.map (b * ·)) = b * gcdF a ns
  | [], a => rfl
  | n :: ns, a => by
    have e : (Int.gcd (b * a) (b * n) : Int) = b * (Int.gcd a n : Int) := by
      rw [Int.gcd_mul_left]
      have : (b.natAbs : Int) = b := by omega
      simp [this]
    show gcdF (Int.gcd (b * a) (b * n) : Int) (ns.map (b * ·)) = b * gcdF (Int.gcd a n : Int) ns
    rw [e]
    exact gcdF_mul b hb ns _
theorem leastL_mul {b : Int} (hb : 0 < b) (ns : List Int) : leastL (ns.map (b * ·)) = leastL ns := by
  unfold leastL gcdL
  have := gcdF_mul b (by omega) ns 0
  rw [Int.mul_zero] at this
  rw [this, List.map_map]
  refine List.map_congr_left fun n _ => ?_
  exact Int.mul_ediv_mul_of_pos _ _ hb
theorem pos_of_sum : ∀ {ns : List Int}, 0 < ns.sum → ∃ n ∈ ns, 0 < n
  | [], h => by simp at h
  | n :: ns, h => by
    by_cases hn : 0 < n
    · exact ⟨n, List.mem_cons_self, hn⟩
    · simp only [List.sum_cons] at h
      obtain ⟨k, hk, h2⟩ := pos_of_sum (ns := ns) (by omega)
      exact ⟨k, List.mem_cons_of_mem _ hk, h2⟩
/-! the defs -/
def weightsFn {ι : Type} (is_whole : ι) : Fn ι := ⟨2, 3, (.cons (.ret (.and (.isi (.var 0) .tuple) (.and (.cmp .eq (.bi .len (.cons (.var 0) .nil)) (.var 1)) (.bi .all (.cons (.lc false [("one", 2)] (.name 2) (.var 0) .nil (.and (.call is_whole (.cons (.var 2) .nil)) (.cmp .ge (.var 2) (.lit (.int 0))))) .nil))))) .nil)⟩
def isLotFn {ι : Type} (are_weights : ι) : Fn ι := ⟨1, 1, (.cons (.ifs (.or (.not (.isi (.var 0) .tuple)) (.or (.not (.chain .le .le (.lit (.int 1)) (.bi .len (.cons (.var 0) .nil)) (.glob "MOST_PLACES" 25))) (.not (.call are_weights (.cons (.var 0) (.cons (.bi .len (.cons (.var 0) .nil)) .nil)))))) (.cons (.ret (.lit (.bl false))) .nil) .nil) (.cons (.ret (.cmp .gt (.bi .sum (.cons (.var 0) .nil)) (.lit (.int 0)))) .nil))⟩
def needLotFn {ι : Type} (is_lot : ι) : Fn ι := ⟨1, 1, (.cons (.ifs (.not (.call is_lot (.cons (.var 0) .nil))) (.cons (.raise "NoLot" ["NoLot", "FadeError", "ValueError"]) .nil) .nil) .nil)⟩
def needTwoFn {ι : Type} (need_lot : ι) : Fn ι := ⟨2, 2, (.cons (.exp (.call need_lot (.cons (.var 0) .nil))) (.cons (.exp (.call need_lot (.cons (.var 1) .nil))) (.cons (.ifs (.cmp .ne (.bi .len (.cons (.var 0) .nil)) (.bi .len (.cons (.var 1) .nil))) (.cons (.raise "Unlike" ["Unlike", "FadeError", "ValueError"]) .nil) .nil) .nil)))⟩
def commonOfFn {ι : Type} (common : ι) : Fn ι := ⟨1, 3, (.cons (.asg (.name 1) (.lit (.int 0))) (.cons (.for_ (.name 2) (.var 0) (.cons (.asg (.name 1) (.call common (.cons (.var 1) (.cons (.var 2) .nil)))) .nil)) (.cons (.ret (.var 1)) .nil)))⟩
def leastOfFn {ι : Type} (common_of : ι) : Fn ι := ⟨1, 3, (.cons (.asg (.name 1) (.call common_of (.cons (.var 0) .nil))) (.cons (.ret (.bi .tuple (.cons (.lc false [("weight", 2)] (.name 2) (.var 0) .nil (.bin .fdiv (.var 2) (.var 1))) .nil))) .nil))⟩
def leastFn {ι : Type} (need_lot least_of : ι) : Fn ι := ⟨1, 1, (.cons (.exp (.call need_lot (.cons (.var 0) .nil))) (.cons (.ret (.call least_of (.cons (.var 0) .nil))) .nil))⟩
def alikeFn {ι : Type} (need_two least_of : ι) : Fn ι := ⟨2, 2, (.cons (.exp (.call need_two (.cons (.var 0) (.cons (.var 1) .nil)))) (.cons (.ret (.cmp .eq (.call least_of (.cons (.var 0) .nil)) (.call least_of (.cons (.var 1) .nil)))) .nil))⟩
def noLot : Exc := ⟨"NoLot", ["NoLot", "FadeError", "ValueError"], []⟩
def unlike : Exc := ⟨"Unlike", ["Unlike", "FadeError", "ValueError"], []⟩
/-- a thing whose tuple is not too long -/
def Shrt (x : D) : Prop := pl x = true ∧ ∀ xs, x = .tup xs → xs.length ≤ 16777216
theorem shrt_of {B dep room : Nat} {x : D} (h : Bt dep room B x) (hr : room ≤ 16777216) : Shrt x := by
  refine ⟨h.pl, fun xs e => ?_⟩
  subst e
  have := rmL_len xs
  have h2 := h.2.2
  simp only [rm] at h2
  omega
section
variable {ι : Type} {P : ι → Fn ι} {wh f aw il nl n2 cm co lo : ι}
theorem natD_e {call : ι → List D → MH → Res D} {v : Env} {m : MH} {k : Nat} {x : D} (hv : v.at_ k = some x) (hw : call wh [x] m = .ok (.bl (isInt x)) m) : (sem call (.and (.call wh (.cons (.var k) .nil)) (.cmp .ge (.var k) (.lit (.int 0))))).e v m = .ok (.bl (natD x)) m := by
  cases e : isInt x with
  | false =>
    have : natD x = false := by cases x <;> first | rfl | cases e
    simp [hv, hw, e, this]
  | true =>
    obtain ⟨i, rfl⟩ := isInt_eq e
    simp [hv, hw, e, natD]
theorem all_e {call : ι → List D → MH → Res D} {v : Env} {m : MH} {own : List (Str × Nat)} {k : Nat} {t : Pt} {e : E ι} {xs : List D} {g : D → Bool} (h : (sem call (.lc false own t (.var k) .nil e)).e v m = .ok (.lst (xs.map fun x => .bl (g x))) m) : (sem call (.bi .all (.cons (.lc false own t (.var k) .nil e) .nil))).e v m = .ok (.bl (xs.all g)) m := by
  have hb : blsOf (xs.map fun x => D.bl (g x)) = some (xs.map g) := by
    have := bls_of (xs.map g)
    rwa [List.map_map] at this
  simp only [e_bi, l_cons, l_nil, h, Res.bind_ok, built, bls1, lstOf, seqOf, Option.bind_some, hb, Option.map_some, Res.of_some]
  simp [List.all_map, Function.comp_def]
theorem run_weights (h : P f = weightsFn wh) (hw : P wh = wholeFn) (d : Nat) {x : D} (hx : Shrt x) (k : Int) (m : MH) : run P (d + 2) f [x, .int k] m = .ok (.bl (areW x k)) m := by
  rw [run_b h rfl]
  have e0 : (([x, D.int k].map some ++ List.replicate ((weightsFn wh).ns - (weightsFn wh).np) none) : Env) = [some x, some (.int k), none] := rfl
  rw [e0]
  by_cases ht : ∃ xs, x = .tup xs
  · obtain ⟨xs, rfl⟩ := ht
    have hl := hx.2 xs rfl
    have hbx : plL xs = true := by simpa [pl] using hx.1
    have hm : ∀ y ∈ xs, pl y = true := by
      clear hl e0 hx
      induction xs with
      | nil => simp
      | cons z zs ih =>
        simp only [plL, Bool.and_eq_true] at hbx
        intro y hy
        rcases List.mem_cons.mp hy with rfl | hy
        · exact hbx.1
        · exact ih hbx.2 y hy
    have hc := e_map (call := run P (d + 1)) (v := [some (.tup xs), some (.int k), none]) (m := [] :: m) (own := [("one", 2)]) (t := .name 2) (it := .var 0) (c := .and (.call wh (.cons (.var 2) .nil)) (.cmp .ge (.var 2) (.lit (.int 0)))) (xs := xs) (fun x => .bl (natD x)) hl (by simp [walked]) (fun y hy => ⟨_, rfl, natD_e (x := y) rfl (whole_k hw d (hm y hy) _)⟩)
    have ha := all_e hc
    have ty : ∀ m, isTy m .tuple (.tup xs) = true := fun _ => rfl
    have kn : ∀ m, tyKnown m (.tup xs) = true := fun _ => rfl
    have ln : ∀ m, built .len [.tup xs] m = some (.int xs.length) := fun _ => rfl
    by_cases hk : (xs.length : Int) = k
    · simp only [weightsFn, x_cons, x_ret, e_and, e_isi, e_var, at_zero, at_succ, Res.of_some, Res.bind_ok, kn, ty, if_true, e_cmp, e_bi, l_cons, l_nil, ln, cmp_eq, eqD_int, hk, decide_true, Option.map_some, Res.st_ok, Res.then_rt]
      simp only [e_bi, l_cons, l_nil, Res.bind_ok] at ha
      rw [ha]
      simp [left, leave, D.bd, areW, hk]
    · simp [weightsFn, kn, ty, ln, eqD_int, hk, left, leave, D.bd, areW]
  · have ht' : ∀ xs, x ≠ .tup xs := fun xs e => ht ⟨xs, e⟩
    have : areW x k = false := by
      unfold areW
      split
      · exact absurd rfl (ht' _)
      · rfl
    simp [weightsFn, ty_bd hx.1, notup hx.1 ht', left, leave, D.bd, this]
theorem run_isLot (h : P f = isLotFn aw) (ha : P aw = weightsFn wh) (hw : P wh = wholeFn) (d : Nat) {x : D} (hx : Shrt x) (m : MH) : run P (d + 3) f [x] m = .ok (.bl (isLot x)) m := by
  rw [run_b h rfl]
  have e0 : (([x].map some ++ List.replicate ((isLotFn aw).ns - (isLotFn aw).np) none) : Env) = [some x] := rfl
  rw [e0]
  by_cases ht : ∃ xs, x = .tup xs
  · obtain ⟨xs, rfl⟩ := ht
    have ty : ∀ m, isTy m .tuple (.tup xs) = true := fun _ => rfl
    have kn : ∀ m, tyKnown m (.tup xs) = true := fun _ => rfl
    have ln : ∀ m, built .len [.tup xs] m = some (.int xs.length) := fun _ => rfl
    have w := fun m => run_weights ha hw d hx (xs.length : Int) m
    have aw' : areW (.tup xs) (xs.length : Int) = xs.all natD := by simp [areW]
    rw [aw'] at w
    by_cases h1 : 1 ≤ xs.length
    · by_cases h2 : xs.length ≤ 25
      · have g1 : (1 : Int) ≤ (xs.length : Int) := by omega
        have g2 : (xs.length : Int) ≤ 25 := by omega
        cases hn : xs.all natD with
        | false => simp [isLotFn, kn, ty, ln, g1, g2, w, hn, left, leave, D.bd, isLot]
        | true =>
          obtain ⟨e1, e2⟩ := nat_ints hn
          have sm : ∀ m, built .sum [.tup xs] m = some (.int (xs.map intV).sum) := fun m => by
            show sumD m (.tup xs) = _
            unfold sumD
            have : intsOf xs = some (xs.map intV) := by
              conv => lhs; rw [e1]
              exact ints_of _
            simp [seqOf, this]
          simp [isLotFn, kn, ty, ln, g1, g2, w, hn, sm, left, leave, D.bd, isLot, h1, h2]
      · have g1 : (1 : Int) ≤ (xs.length : Int) := by omega
        have g2 : ¬ (xs.length : Int) ≤ 25 := by omega
        simp [isLotFn, kn, ty, ln, g1, g2, left, leave, D.bd, isLot, h1, h2]
    · have g1 : ¬ (1 : Int) ≤ (xs.length : Int) := by omega
      simp [isLotFn, kn, ty, ln, g1, left, leave, D.bd, isLot, h1]
  · have ht' : ∀ xs, x ≠ .tup xs := fun xs e => ht ⟨xs, e⟩
    have : isLot x = false := by
      unfold isLot
      split
      · exact absurd rfl (ht' _)
      · rfl
    simp [isLotFn, ty_bd hx.1, notup hx.1 ht', left, leave, D.bd, this]
theorem run_needLot {d : Nat} {x : D} (h : P f = needLotFn il) (hi : ∀ m, run P d il [x] m = .ok (.bl (isLot x)) m) (m : MH) : run P (d + 1) f [x] m = if isLot x then .ok .non m else .exc noLot m := by
  rw [run_b h rfl]
  cases e : isLot x with
  | true => simp [needLotFn, hi, e, left, leave, D.bd]
  | false => simp [needLotFn, hi, e, left, noLot]
/-- how many places -/
def lenT : D → Nat
  | .tup xs => xs.length
  | _ => 0
theorem isLot_tup {x : D} (h : isLot x = true) : ∃ xs, x = .tup xs := by
  unfold isLot at h
  split at h
  · exact ⟨_, rfl⟩
  · cases h
theorem run_needTwo {d : Nat} {x y : D} (h : P f = needTwoFn nl) (hx : ∀ m, run P d nl [x] m = if isLot x then .ok .non m else .exc noLot m) (hy : ∀ m, run P d nl [y] m = if isLot y then .ok .non m else .exc noLot m) (m : MH) :
    run P (d + 1) f [x, y] m = if isLot x && isLot y then (if lenT x = lenT y then .ok .non m else .exc unlike m) else .exc noLot m := by
  rw [run_b h rfl]
  cases e1 : isLot x with
  | false => simp [needTwoFn, hx, e1, left]
  | true =>
    cases e2 : isLot y with
    | false => simp [needTwoFn, hx, hy, e1, e2, left]
    | true =>
      obtain ⟨xs, rfl⟩ := isLot_tup e1
      obtain ⟨ys, rfl⟩ := isLot_tup e2
      have l1 : ∀ m, built .len [.tup xs] m = some (.int xs.length) := fun _ => rfl
      have l2 : ∀ m, built .len [.tup ys] m = some (.int ys.length) := fun _ => rfl
      by_cases hl : xs.length = ys.length
      · have : ((xs.length : Int) = ys.length) := by omega
        simp [needTwoFn, hx, hy, e1, e2, l1, l2, eqD_int, this, hl, lenT, left, leave, D.bd]
      · have : ¬ ((xs.length : Int) = ys.length) := by omega
        simp [needTwoFn, hx, hy, e1, e2, l1, l2, eqD_int, this, hl, lenT, left, unlike]
theorem run_commonOf (h : P f = commonOfFn cm) {o : Cm} (ho : o = .gt ∨ o = .ne) (hc : P cm = gcdFn o) (d : Nat) (ns : List Int) (m : MH) : run P (d + 2) f [.tup (iL ns)] m = .ok (.int (gcdL ns)) m := by
  rw [run_b h rfl]
  have e0 : (([D.tup (iL ns)].map some ++ List.replicate ((commonOfFn cm).ns - (commonOfFn cm).np) none) : Env) = [some (.tup (iL ns)), none, none] := rfl
  rw [e0]
  have key : ∀ (ks : List Int) (a : Int) (w : Option D), ∃ w', loop (run P (d + 1)) (.name 2) (.cons (.asg (.name 1) (.call cm (.cons (.var 1) (.cons (.var 2) .nil)))) .nil) (.items (iL ks)) [some (.tup (iL ns)), some (.int a), w] ([] :: m) = .ok (.nx [some (.tup (iL ns)), some (.int (gcdF a ks)), w']) ([] :: m) := by
    intro ks
    induction ks with
    | nil => intro a w; exact ⟨w, rfl⟩
    | cons k ks ih =>
      intro a w
      have g := fun m => run_gcd ho hc d a k m
      obtain ⟨w', e⟩ := ih (Int.gcd a k : Int) (some (.int k))
      refine ⟨w', ?_⟩
      simp only [iL, List.map_cons] at e ⊢
      rw [loop_cons]
      simp [g, e]
      rfl
  obtain ⟨w', e⟩ := key ns 0 none
  simp [commonOfFn, x_for, walked, e, left, leave, D.bd, gcdL]
/-- weights: numbers not below 0, one above, none great -/
structure Wts (B : Int) (ns : List Int) : Prop where
  nn : ∀ n ∈ ns, 0 ≤ n
  lt : ∀ n ∈ ns, n < B
  ps : 0 < ns.sum
theorem Wts.gcd {B : Int} {ns : List Int} (h : Wts B ns) : 0 < gcdL ns ∧ gcdL ns < B := by
  obtain ⟨n, hn, hp⟩ := pos_of_sum h.ps
  obtain ⟨h1, h2⟩ := gcdL_pos hn hp
  have := h.lt n hn
  exact ⟨h1, by omega⟩
/-- by the common divisor -/
theorem div_comp {call : ι → List D → MH → Res D} {v : Env} {m : MH} {nmS : Str} {i j k : Nat} {ns : List Int} {B : Int} (h : Wts B ns) (hB : B ≤ 2 ^ 1000) (hl : ns.length ≤ 16777216) (hi : v.at_ i = some (.tup (iL ns))) (hj : Env.at_ (v.set k none) j = some (.int (gcdL ns))) (hk : k < v.length) (hjk : j ≠ k) :
    (sem call (.lc false [(nmS, k)] (.name k) (.var i) .nil (.bin .fdiv (.var k) (.var j)))).e v m = .ok (.lst (iL (leastL ns))) m := by
  obtain ⟨g1, g2⟩ := h.gcd
  have hg : (gcdL ns).natAbs.log2 < 9000 := by
    have hlt : gcdL ns < 2 ^ 1000 := by omega
    have := log2_lt (natAbs_lt (k := 1000) (by omega) hlt) (by omega)
    omega
  have q := e_map (call := call) (v := v) (m := m) (own := [(nmS, k)]) (t := .name k) (it := .var i) (c := .bin .fdiv (.var k) (.var j)) (xs := iL ns) (fun x => .int (intV x / gcdL ns)) (by simpa using hl) (by simp [hi, walked]) (fun y hy => by
    obtain ⟨n, hn, rfl⟩ := List.mem_map.mp hy
    refine ⟨(v.set k none).set k (some (.int n)), by simp [ptg, wipeE, hk], ?_⟩
    have a1 : Env.at_ ((v.set k none).set k (some (.int n))) k = some (.int n) := by rw [at_set (by simpa using hk), if_pos rfl]
    have a2 : Env.at_ ((v.set k none).set k (some (.int n))) j = some (.int (gcdL ns)) := by rw [at_set (by simpa using hk), if_neg hjk, hj]
    simp only [e_bin, e_var, a1, a2, Res.of_some, Res.bind_ok, fdiv_int g1 hg, intV])
  rw [q]
  simp only [iL, leastL, List.map_map]
  rfl
theorem run_leastOf {d : Nat} (h : P f = leastOfFn co) (hc : ∀ ns m, run P d co [.tup (iL ns)] m = .ok (.int (gcdL ns)) m) {ns : List Int} {B : Int} (hw : Wts B ns) (hB : B ≤ 2 ^ 1000) (hl : ns.length ≤ 16777216) (m : MH) : run P (d + 1) f [.tup (iL ns)] m = .ok (.tup (iL (leastL ns))) m := by
  rw [run_b h rfl]
  have e0 : (([D.tup (iL ns)].map some ++ List.replicate ((leastOfFn co).ns - (leastOfFn co).np) none) : Env) = [some (.tup (iL ns)), none, none] := rfl
  rw [e0]
  have q := div_comp (call := run P d) (v := [some (.tup (iL ns)), some (.int (gcdL ns)), none]) (m := [] :: m) (nmS := "weight") (i := 0) (j := 1) (k := 2) hw hB hl rfl rfl (by simp) (by decide)
  have tt : ∀ m, built .tuple [.lst (iL (leastL ns))] m = some (.tup (iL (leastL ns))) := fun _ => rfl
  have bd : ∀ k, bdL k (iL (leastL ns)) = true := fun k => by
    generalize leastL ns = ks
    induction ks with
    | nil => rfl
    | cons z zs ih => simp only [iL, List.map_cons, bdL, D.bd] at ih ⊢; simpa using ih
  simp [leastOfFn, hc, q, tt, left, leave, D.bd, bd]

theorem bdL_iL (k : Nat) (ks : List Int) : bdL k (iL ks) = true := by
  induction ks with
  | nil => rfl
  | cons z zs ih => simp only [iL, List.map_cons, bdL, D.bd] at ih ⊢; simpa using ih
theorem run_least {d : Nat} (h : P f = leastFn nl lo) {x : D} (hx : ∀ m, run P d nl [x] m = if isLot x then .ok .non m else .exc noLot m) (ho : ∀ ns m, x = .tup (iL ns) → isLot x = true → run P d lo [x] m = .ok (.tup (iL (leastL ns))) m) (m : MH) :
    (isLot x = false → run P (d + 1) f [x] m = .exc noLot m) ∧ ∀ ns, x = .tup (iL ns) → isLot x = true → run P (d + 1) f [x] m = .ok (.tup (iL (leastL ns))) m := by
  rw [run_b h rfl]
  refine ⟨fun e => ?_, fun ns en e => ?_⟩
  · simp [leastFn, hx, e, left]
  · have q := fun m => ho ns m en e
    simp [leastFn, hx, e, q, left, leave, D.bd, bdL_iL]
theorem run_alike {d : Nat} (h : P f = alikeFn n2 lo) {x y : D} (hx : ∀ m, run P d n2 [x, y] m = if isLot x && isLot y then (if lenT x = lenT y then .ok .non m else .exc unlike m) else .exc noLot m) (m : MH) :
    ((isLot x && isLot y) = false → run P (d + 1) f [x, y] m = .exc noLot m) ∧ ((isLot x && isLot y) = true → lenT x ≠ lenT y → run P (d + 1) f [x, y] m = .exc unlike m) ∧
    ∀ ns ms, (isLot x && isLot y) = true → lenT x = lenT y → (∀ m, run P d lo [x] m = .ok (.tup (iL (leastL ns))) m) → (∀ m, run P d lo [y] m = .ok (.tup (iL (leastL ms))) m) → run P (d + 1) f [x, y] m = .ok (.bl (decide (leastL ns = leastL ms))) m := by
  rw [run_b h rfl]
  refine ⟨fun e => ?_, fun e e2 => ?_, fun ns ms e e2 h1 h2 => ?_⟩
  · rw [e] at hx
    simp [alikeFn, hx, left]
  · rw [e] at hx
    simp [alikeFn, hx, e2, left]
  · rw [e] at hx
    simp [alikeFn, hx, e2, h1, h2, eqD_ints, left, leave, D.bd]
/-! a drawn lot -/
def lotFn {ι : Type} (law_take : ι) : Fn ι := ⟨2, 4, (.cons (.asg (.name 2) (.new .nil)) (.cons (.for_ (.name 3) (.rng1 (.var 1)) (.cons (.exp (.app (.var 2) (.idx (.lst (.cons (.lit (.int 0)) (.cons (.lit (.int 1)) (.cons (.call law_take (.cons (.var 0) (.cons (.lit (.int 4)) .nil))) (.cons (.call law_take (.cons (.var 0) (.cons (.lit (.int 60)) .nil))) (.cons (.call law_take (.cons (.var 0) (.cons (.bin .pow (.lit (.int 10)) (.lit (.int 6))) .nil))) .nil)))))) (.call law_take (.cons (.var 0) (.cons (.lit (.int 5)) .nil)))))) .nil)) (.cons (.asg (.sub (.var 2) (.call law_take (.cons (.var 0) (.cons (.var 1) .nil)))) (.bin .add (.idx (.var 2) (.lit (.int 0))) (.lit (.int 1)))) (.cons (.ret (.bi .tuple (.cons (.var 2) .nil))) .nil))))⟩
theorem sum_pos {ns : List Int} (h : ∀ n ∈ ns, 0 ≤ n) {n : Int} (hn : n ∈ ns) (hp : 0 < n) : 0 < ns.sum := by
  have nn : ∀ ks : List Int, (∀ n ∈ ks, 0 ≤ n) → 0 ≤ ks.sum := by
    intro ks
    induction ks with
    | nil => intro _; simp
    | cons k ks ih =>
      intro q
      have := ih fun n hn => q n (List.mem_cons_of_mem _ hn)
      have := q k List.mem_cons_self
      simp only [List.sum_cons]
      omega
  induction ns with
  | nil => cases hn
  | cons k ks ih =>
    simp only [List.sum_cons]
    have h1 := nn ks fun n hn => h n (List.mem_cons_of_mem _ hn)
    have h2 := h k List.mem_cons_self
    rcases List.mem_cons.mp hn with rfl | hn
    · omega
    · have := ih (fun n hn => h n (List.mem_cons_of_mem _ hn)) hn
      omega
end
theorem get_here {fr : List MO} {r : MH} {l i : Nat} (h : l = r.length) : get (fr :: r) l i = fr[i]? := by
  conv => lhs; unfold get
  rw [if_pos h]
theorem put_here {fr : List MO} {r : MH} {l i : Nat} {o : MO} (h : l = r.length) : put (fr :: r) l i o = fr.set i o :: r := by
  conv => lhs; unfold put
  rw [if_pos h]
/-! a list that is the frame's one object -/
section
variable {m : MH} {p : Nat} {acc : List Int}
theorem one_get (hp : p = m.length) : get ([.lst (iL acc)] :: m) p 0 = some (.lst (iL acc)) := by rw [get_here hp]; rfl
theorem one_isL (hp : p = m.length) : isL ([.lst (iL acc)] :: m) (.ref p 0) = true := by simp [isL, one_get hp]
theorem one_app (hp : p = m.length) (hl : acc.length < 16777216) (a : Int) : append (.ref p 0) (.int a) ([.lst (iL acc)] :: m) = .ok .non ([.lst (iL (acc ++ [a]))] :: m) := by
  have : (iL acc).length < sizeLine := by unfold sizeLine; simpa using hl
  simp only [append, one_get hp, D.bd, Bool.true_and, decide_eq_true_eq, this, if_true, put_here hp]
  simp
theorem one_at (hp : p = m.length) {k : Nat} (hk : k < acc.length) : getAt ([.lst (iL acc)] :: m) (.ref p 0) (.int (k : Int)) = some (.int acc[k]) := by
  have p0 : place (iL acc).length (k : Int) = some k := place_nat (k := k) (by simpa using hk)
  simp only [getAt, seqOf, one_get hp, Option.bind_some, p0]
  rw [List.getElem?_map, List.getElem?_eq_getElem hk]
  rfl
theorem one_set (hp : p = m.length) {k : Nat} (hk : k < acc.length) (a : Int) : setAt (.ref p 0) (.int (k : Int)) (.int a) ([.lst (iL acc)] :: m) = .ok () ([.lst (iL (acc.set k a))] :: m) := by
  have p0 : place (iL acc).length (k : Int) = some k := place_nat (k := k) (by simpa using hk)
  simp only [setAt, one_get hp, p0, D.bd, if_true, put_here hp, iL, List.map_set]
  rfl
theorem one_tup (hp : p = m.length) : built .tuple [.ref p 0] ([.lst (iL acc)] :: m) = some (.tup (iL acc)) := by simp [built, seqOf, one_get hp]
end
def lotTurn {ι : Type} (wh : ι) : S ι := .cons (.exp (.app (.var 2) (.idx (.lst (.cons (.lit (.int 0)) (.cons (.lit (.int 1)) (.cons (.call wh (.cons (.var 0) (.cons (.lit (.int 4)) .nil))) (.cons (.call wh (.cons (.var 0) (.cons (.lit (.int 60)) .nil))) (.cons (.call wh (.cons (.var 0) (.cons (.bin .pow (.lit (.int 10)) (.lit (.int 6))) .nil))) .nil)))))) (.call wh (.cons (.var 0) (.cons (.lit (.int 5)) .nil)))))) .nil
section
variable {ι : Type} {P : ι → Fn ι} {wh f : ι} {m : MH} {l i p : Nat}
theorem lot_turn (ht : P wh = takeFn) (d : Nat) (hl : Lv m l i) (hp : p = m.length) (x1 z : Option D) (acc : List Int) (n : Int) (hacc : acc.length ≤ 100) : ∃ a n', 0 ≤ a ∧ a ≤ 1000000 ∧
    exec (run P (d + 1)) (lotTurn wh) [some (.ref l i), x1, some (.ref p 0), z] ([.lst (iL acc)] :: put m l i (.lst [.int n])) = .ok (.nx [some (.ref l i), x1, some (.ref p 0), z]) ([.lst (iL (acc ++ [a]))] :: put m l i (.lst [.int n'])) := by
  have t4 := run_takeC ht d (fr := [.lst (iL acc)]) (n := n) (far := 4) hl (by omega) (by decide)
  have t60 := run_takeC ht d (fr := [.lst (iL acc)]) (n := n / 4) (far := 60) hl (by omega) (by decide)
  have tm := run_takeC ht d (fr := [.lst (iL acc)]) (n := n / 4 / 60) (far := 1000000) hl (by omega) (by decide)
  have t5 := run_takeC ht d (fr := [.lst (iL acc)]) (n := n / 4 / 60 / 1000000) (far := 5) hl (by omega) (by decide)
  obtain ⟨q, hq, e⟩ := pick (xs := [.int 0, .int 1, .int (n % 4), .int (n / 4 % 60), .int (n / 4 / 60 % 1000000)]) (i := n / 4 / 60 / 1000000 % 5) (by omega) (by show _ < ((5 : Nat) : Int); omega)
  obtain ⟨a, rfl, ha0, ha1⟩ : ∃ a : Int, q = .int a ∧ 0 ≤ a ∧ a ≤ 1000000 := by
    simp only [List.mem_cons, List.not_mem_nil, or_false] at hq
    rcases hq with rfl | rfl | rfl | rfl | rfl <;> exact ⟨_, rfl, by omega, by omega⟩
  refine ⟨a, n / 4 / 60 / 1000000 / 5, ha0, ha1, ?_⟩
  have hp' : ∀ n, p = (put m l i (.lst [.int n])).length := fun n => by rw [put_length]; exact hp
  have ap := fun n => one_app (acc := acc) (hp' n) (by omega) a
  have pw : arith .pow (.int 10) (.int 6) = fun m => .ok (.int 1000000) m := by
    funext m
    exact pow_lit (by omega) (by omega) (by decide)
  simp only [lotTurn, x_cons, x_exp, e_app, e_var, at_zero, at_succ, Res.of_some, Res.bind_ok, one_isL (hp' _), if_true, e_idx, e_lst, l_cons, l_nil, e_lit, lit_int, e_call, e_bin, pw, t4, t60, tm, t5, List.length_cons, List.length_nil, Nat.zero_add, Nat.reduceAdd, sz5, e, ap, Res.st_ok, Res.then_nx, x_nil]
theorem lot_turns (ht : P wh = takeFn) (d : Nat) (hl : Lv m l i) (hp : p = m.length) (x1 : Option D) : ∀ (k : Nat) (acc : List Int) (n : Int) (z : Option D) (xs : List D), xs.length = k → acc.length + k ≤ 100 → (∀ a ∈ acc, 0 ≤ a ∧ a ≤ 1000000) →
    ∃ acc' n' z', loop (run P (d + 1)) (.name 3) (lotTurn wh) (.items xs) [some (.ref l i), x1, some (.ref p 0), z] ([.lst (iL acc)] :: put m l i (.lst [.int n])) = .ok (.nx [some (.ref l i), x1, some (.ref p 0), z']) ([.lst (iL acc')] :: put m l i (.lst [.int n'])) ∧ acc'.length = acc.length + k ∧ ∀ a ∈ acc', 0 ≤ a ∧ a ≤ 1000000 := by
  intro k
  induction k with
  | zero =>
    intro acc n z xs hx _ ha
    have : xs = [] := List.length_eq_zero_iff.mp hx
    subst this
    exact ⟨acc, n, z, rfl, rfl, ha⟩
  | succ k ih =>
    intro acc n z xs hx hk ha
    cases xs with
    | nil => simp at hx
    | cons x xs =>
      obtain ⟨a, n1, a0, a1, e⟩ := lot_turn ht d hl hp x1 (some x) acc n (by omega)
      obtain ⟨acc', n', z', e2, l2, h2⟩ := ih (acc ++ [a]) n1 (some x) xs (by simpa using hx) (by simp; omega) (fun b hb => by
        rcases List.mem_append.mp hb with hb | hb
        · exact ha b hb
        · rw [List.mem_singleton.mp hb]; exact ⟨a0, a1⟩)
      refine ⟨acc', n', z', ?_, by rw [l2]; simp; omega, h2⟩
      rw [loop_cons]
      simp only [g_name, List.length_cons, List.length_nil, Nat.reduceAdd, Nat.reduceLT, if_true, List.set_cons_succ, List.set_cons_zero, Res.tg_ok]
      rw [e]
      simp only [Res.then_nx]
      exact e2
theorem run_lot (h : P f = lotFn wh) (ht : P wh = takeFn) (d : Nat) {w : Nat} (hw : 1 ≤ w ∧ w ≤ 25) {n : Int} (hg : get m l i = some (.lst [.int n])) :
    ∃ ns n', run P (d + 2) f [.ref l i, .int (w : Nat)] m = .ok (.tup (iL ns)) (put m l i (.lst [.int n'])) ∧ ns.length = w ∧ Wts 1000002 ns := by
  have hl : Lv m l i := by unfold Lv; rw [hg]; rfl
  suffices hsuf : ∃ ns n', run P (d + 2) f [.ref l i, .int (w : Nat)] (put m l i (.lst [.int n])) = .ok (.tup (iL ns)) (put m l i (.lst [.int n'])) ∧ ns.length = w ∧ Wts 1000002 ns by rwa [put_self hg] at hsuf
  rw [run_b h rfl]
  have e0 : (([D.ref l i, .int (w : Nat)].map some ++ List.replicate ((lotFn wh).ns - (lotFn wh).np) none) : Env) = [some (.ref l i), some (.int (w : Nat)), none, none] := rfl
  rw [e0]
  have hp : ∀ n, m.length = (put m l i (.lst [.int n])).length := fun n => (put_length m l i _).symm
  obtain ⟨acc, n1, z, e1, l1, h1⟩ := lot_turns ht d hl rfl (some (.int (w : Nat))) w [] n none (rangeD 0 (w : Nat)) (by simp [rangeD]) (by simp; omega) (by simp)
  simp only [List.length_nil, Nat.zero_add] at l1
  have tw := run_takeC ht d (fr := [.lst (iL acc)]) (n := n1) (far := (w : Nat)) hl (by omega) (by
    have := log2_lt (n := ((w : Nat) : Int).natAbs) (k := 40) (by simp; omega) (by omega)
    omega)
  have a0 := Int.emod_nonneg n1 (b := ((w : Nat) : Int)) (by omega)
  have a1 := Int.emod_lt_of_pos n1 (b := ((w : Nat) : Int)) (by omega)
  obtain ⟨k, hk⟩ := Int.eq_ofNat_of_zero_le a0
  rw [hk] at tw a1
  have hkl : k < acc.length := by omega
  have h0l : 0 < acc.length := by omega
  have g0 := fun n => one_at (acc := acc) (hp n) h0l
  have st := fun n => one_set (acc := acc) (hp n) hkl (acc[0] + 1)
  have hmem : ∀ a ∈ acc.set k (acc[0] + 1), 0 ≤ a ∧ a ≤ 1000001 := fun a ha => by
    rcases List.mem_or_eq_of_mem_set ha with q | q
    · have := h1 a q; omega
    · have := h1 acc[0] (List.getElem_mem h0l)
      omega
  have hpos : 0 < (acc.set k (acc[0] + 1)).sum := by
    refine sum_pos (fun a ha => (hmem a ha).1) (n := acc[0] + 1) ?_ ?_
    · exact List.mem_iff_getElem.mpr ⟨k, by simpa using hkl, by simp⟩
    · have := h1 acc[0] (List.getElem_mem h0l)
      omega
  have hlen2 : (acc.set k (acc[0] + 1)).length = w := by simp [l1]
  generalize acc.set k (acc[0] + 1) = acc2 at st hmem hpos hlen2
  refine ⟨acc2, n1 / (w : Nat), ?_, hlen2, ⟨fun a ha => (hmem a ha).1, fun a ha => by have := (hmem a ha).2; omega, hpos⟩⟩
  have al : alloc ([] :: put m l i (.lst [.int n])) (.lst []) = .ok (.ref m.length 0) ([.lst (iL [])] :: put m l i (.lst [.int n])) := by
    have := alloc_ok (fr := []) (r := put m l i (.lst [.int n])) (o := .lst []) rfl
    rw [← hp] at this
    exact this
  have sx : exec (run P (d + 1)) (nth (lotFn wh).body 0) [some (.ref l i), some (.int (w : Nat)), none, none] ([] :: put m l i (.lst [.int n])) = .ok (.nx [some (.ref l i), some (.int (w : Nat)), some (.ref m.length 0), none]) ([.lst (iL [])] :: put m l i (.lst [.int n])) := by
    simp [nth, lotFn, al]
  have s1 : exec (run P (d + 1)) (nth (lotFn wh).body 1) [some (.ref l i), some (.int (w : Nat)), some (.ref m.length 0), none] ([.lst (iL [])] :: put m l i (.lst [.int n])) = .ok (.nx [some (.ref l i), some (.int (w : Nat)), some (.ref m.length 0), z]) ([.lst (iL acc)] :: put m l i (.lst [.int n1])) := by
    have hb : nth (lotFn wh).body 1 = .for_ (.name 3) (.rng1 (.var 1)) (lotTurn wh) := rfl
    rw [hb]
    rw [x_k1 (k := ((w : Nat) : Int)) (m2 := [.lst (iL [])] :: put m l i (.lst [.int n])) rfl (nat_rng (show w ≤ 1000000 by omega)).1 (nat_rng (show w ≤ 1000000 by omega)).2]
    exact e1
  have s2 : exec (run P (d + 1)) (nth (lotFn wh).body 2) [some (.ref l i), some (.int (w : Nat)), some (.ref m.length 0), z] ([.lst (iL acc)] :: put m l i (.lst [.int n1])) = .ok (.nx [some (.ref l i), some (.int (w : Nat)), some (.ref m.length 0), z]) ([.lst (iL acc2)] :: put m l i (.lst [.int (n1 / (w : Nat))])) := by
    have g00 := g0 n1
    simp only [Int.ofNat_eq_natCast, Int.natCast_zero] at g00
    simp only [nth, lotFn, x_asg, e_bin, e_idx, e_var, e_lit, at_succ, at_zero, Res.of_some, Res.bind_ok, lit_int, g00, add_int, Res.st_ok, g_sub, e_call, l_cons, l_nil, tw, st, Res.tg_ok]
  have s3 : exec (run P (d + 1)) (nth (lotFn wh).body 3) [some (.ref l i), some (.int (w : Nat)), some (.ref m.length 0), z] ([.lst (iL acc2)] :: put m l i (.lst [.int (n1 / (w : Nat))])) = .ok (.rt (.tup (iL acc2))) ([.lst (iL acc2)] :: put m l i (.lst [.int (n1 / (w : Nat))])) := by
    simp only [nth, lotFn, x_ret, e_bi, l_cons, l_nil, e_var, at_succ, at_zero, Res.of_some, Res.bind_ok, one_tup (hp _), Res.st_ok]
  have hb : (lotFn wh).body = .cons (nth (lotFn wh).body 0) (.cons (nth (lotFn wh).body 1) (.cons (nth (lotFn wh).body 2) (.cons (nth (lotFn wh).body 3) .nil))) := rfl
  have hx : exec (run P (d + 1)) (lotFn wh).body [some (.ref l i), some (.int (w : Nat)), none, none] ([] :: put m l i (.lst [.int n])) = .ok (.rt (.tup (iL acc2))) ([.lst (iL acc2)] :: put m l i (.lst [.int (n1 / (w : Nat))])) := by
    rw [hb, x_cons, sx, Res.then_nx, x_cons, s1, Res.then_nx, x_cons, s2, Res.then_nx, x_cons, s3, Res.then_rt]
  rw [hx]
  show leave (.tup (iL acc2)) ([.lst (iL acc2)] :: put m l i (.lst [.int (n1 / (w : Nat))])) = _
  simp only [leave, D.bd, bdL_iL, if_true]
end
end Fw

set_option Elab.async false
set_option linter.all false
set_option maxRecDepth 100000
set_option maxHeartbeats 2000000
set_option autoImplicit false
/-! ## Fw21: a law's own frame: its turns, its draws -/
namespace Fw
open PySem
/-! ### one frame -/
section
variable {fr : List MO} {i j t : Nat} {o o' : MO} {xs : List D} {n : Int}
theorem get_of (h : fr[j]? = some o) : get [fr] 0 j = some o := by simp [get, h]
theorem put_of : put [fr] 0 j o = [fr.set j o] := by simp [put]
theorem set_at (h : fr[j]? = some o) : (fr.set j o')[j]? = some o' := by
  rw [List.getElem?_set_self']
  simp [h]
theorem set_off (hij : i ≠ j) (h : fr[j]? = some o) : (fr.set i o')[j]? = some o := by
  rw [List.getElem?_set_ne hij]
  exact h
theorem lt_of (h : fr[j]? = some o) : j < fr.length := by
  rcases Nat.lt_or_ge j fr.length with q | q
  · exact q
  · rw [List.getElem?_eq_none q] at h; cases h
theorem up_of (h : fr[j]? = some o) : (fr ++ [o'])[j]? = some o := by rw [List.getElem?_append_left (lt_of h)]; exact h
theorem top_of : (fr ++ [o'])[fr.length]? = some o' := by simp
theorem isL_of (h : fr[t]? = some (.lst xs)) : isL [fr] (.ref 0 t) = true := by simp [isL, get_of h]
theorem app_of {y : D} (h : fr[t]? = some (.lst xs)) (hb : y.bd 1 = true) (hl : xs.length < 16777216) : append (.ref 0 t) y [fr] = .ok .non [fr.set t (.lst (xs ++ [y]))] := by
  have : xs.length < sizeLine := by unfold sizeLine; omega
  simp [append, get_of h, hb, this, put_of]
theorem new_of (h : bdL 1 xs = true) : alloc [fr] (.lst xs) = .ok (.ref 0 fr.length) [fr ++ [.lst xs]] := alloc_ok (r := []) h
theorem take_of {ι : Type} {P : ι → Fn ι} {f : ι} (h : P f = takeFn) (d : Nat) {far : Int} (hj : fr[j]? = some (.lst [.int n])) (h0 : 0 < far) (h1 : far.natAbs.log2 < 9000) : run P (d + 1) f [.ref 0 j, .int far] [fr] = .ok (.int (n % far)) [fr.set j (.lst [.int (n / far)])] := by
  rw [← put_of]
  exact run_take h d (get_of hj) h0 h1
end
/-! ### a law's turns -/
def lawB {ι : Type} (K : Int) (outer : S ι) : S ι := .cons (.for_ (.name 1) (.rng1 (.bi .max (.cons (.lit (.int 1)) (.cons (.bi .min (.cons (.bi .len (.cons (.var 0) .nil)) (.cons (.lit (.int K)) .nil))) .nil)))) outer) (.cons (.ret (.lit (.bl true))) .nil)
section
variable {ι : Type} {P : ι → Fn ι} {f : ι}
theorem law_of {K : Int} {sl : Nat} {outer : S ι} (h : P f = ⟨1, sl + 2, lawB K outer⟩) (hK : 0 ≤ K ∧ K ≤ 100) (d : Nat) (ns : List Int) (hl : ns.length ≤ 63)
    (turn : ∀ (k : Nat) (v : Env) (fr : List MO), v.length = sl → ∃ v' fr', v'.length = sl ∧ exec (run P d) outer (some (.scr (ns.map .int)) :: some (.int k) :: v) [fr] = .ok (.nx (some (.scr (ns.map .int)) :: some (.int k) :: v')) [fr']) :
    run P (d + 1) f [.scr (ns.map .int)] [] = .ok (.bl true) [] := by
  have key : ∀ (ks : List D) (x1 : Option D) (v : Env) (fr : List MO), (∀ x ∈ ks, ∃ k : Nat, x = .int k) → v.length = sl → ∃ v' fr', loop (run P d) (.name 1) outer (.items ks) (some (.scr (ns.map .int)) :: x1 :: v) [fr] = .ok (.nx v') [fr'] := by
    intro ks
    induction ks with
    | nil => intro x1 v fr _ _; exact ⟨_, fr, rfl⟩
    | cons z zs ih =>
      intro x1 v fr hz hv
      obtain ⟨k, rfl⟩ := hz z List.mem_cons_self
      obtain ⟨v1, fr1, h1, e1⟩ := turn k v fr hv
      obtain ⟨v2, fr2, e2⟩ := ih (some (.int k)) v1 fr1 (fun x hx => hz x (List.mem_cons_of_mem _ hx)) h1
      refine ⟨v2, fr2, ?_⟩
      rw [loop_cons]
      have hg : (tgt (run P d) (.name 1)).g (.int k) (some (.scr (ns.map .int)) :: x1 :: v) [fr] = .ok (some (.scr (ns.map .int)) :: some (.int k) :: v) [fr] := by
        rw [g_name, if_pos (by simp)]
        rfl
      rw [hg, Res.tg_ok, e1, Res.then_nx]
      exact e2
  have hr : ∃ n : Int, (-(2 ^ 62) ≤ n ∧ n < 2 ^ 62) ∧ built .max [.int 1, .int (if K < (ns.length : Int) then K else ns.length)] [[]] = some (.int n) := by
    refine ⟨if (if K < (ns.length : Int) then K else (ns.length : Int)) > 1 then (if K < (ns.length : Int) then K else ns.length) else 1, ?_, rfl⟩
    split <;> split <;> omega
  obtain ⟨n, hn, e1⟩ := hr
  obtain ⟨v', fr', e2⟩ := key (rangeD 0 n) none (List.replicate sl none) [] (fun x hx => by
    simp only [rangeD, List.mem_map, List.mem_range] at hx
    obtain ⟨k, hk, rfl⟩ := hx
    exact ⟨k, by simp⟩) (by simp)
  rw [run_s h rfl]
  have hv : ([D.scr (ns.map .int)].map some ++ List.replicate (sl + 2 - 1) none : Env) = some (.scr (ns.map .int)) :: none :: List.replicate sl none := by
    rw [show sl + 2 - 1 = sl + 1 from by omega, List.replicate_succ]
    rfl
  rw [hv]
  have e0 : ∀ m, built .min [.int (ns.length : Int), .int K] m = some (.int (if K < (ns.length : Int) then K else ns.length)) := fun m => rfl
  have e3 : built .len [.scr (ns.map .int)] [[]] = some (.int ns.length) := by simp [built, lenD, seqOf]
  have hn' : -4611686018427387904 ≤ n ∧ n < 4611686018427387904 := by omega
  simp only [lawB, x_cons]
  have es : (sem (run P d) (.bi .max (.cons (.lit (.int 1)) (.cons (.bi .min (.cons (.bi .len (.cons (.var 0) .nil)) (.cons (.lit (.int K)) .nil))) .nil)))).e (some (.scr (ns.map .int)) :: none :: List.replicate sl none) [[]] = .ok (.int n) [[]] := by
    simp [e3, e0, e1]
  rw [x_k1 es hn'.1 hn'.2, e2]
  simp [left, leave, D.bd]
theorem draw_pot {pot cell : ι} (hp : P pot = potFn) (hc : P cell = cellFn) (d : Nat) (ns : List Int) (k : Nat) (x2 : Option D) (v : Env) (fr : List MO) : ∃ n, exec (run P (d + 1)) (.asg (.name 2) (.call pot (.cons (.call cell (.cons (.var 0) (.cons (.var 1) .nil))) .nil))) (some (.scr (ns.map .int)) :: some (.int k) :: x2 :: v) [fr] = .ok (.nx (some (.scr (ns.map .int)) :: some (.int k) :: some (.ref 0 fr.length) :: v)) [fr ++ [.lst [.int n]]] := by
  obtain ⟨z, e1⟩ := run_cell hc d ns k [fr]
  obtain ⟨n, e2⟩ := run_pot hp d z fr []
  refine ⟨n, ?_⟩
  simp only [x_asg, e_call, l_cons, l_nil, e_var, at_succ, at_zero, Res.of_some, Res.bind_ok, e1, e2, Res.st_ok, g_name, List.length_cons]
  rw [if_pos (by omega)]
  rfl
/-- two alike draws -/
theorem par_two {call : ι → List D → MH → Res D} {v : Env} {m m1 m2 : MH} {p w a b : D} {i j : Nat} (hp : v.at_ 2 = some p) (hw : v.at_ 3 = some w) (e1 : call f [p, w] m = .ok a m1) (e2 : call f [p, w] m1 = .ok b m2) (hi : i < v.length) (hj : j < v.length) :
    exec call (.par i j (.cons (.call f (.cons (.var 2) (.cons (.var 3) .nil))) (.cons (.call f (.cons (.var 2) (.cons (.var 3) .nil))) .nil))) v m = .ok (.nx ((v.set i (some a)).set j (some b))) m2 := by
  simp [hp, hw, e1, e2, hi, hj]
theorem lot_one {tk : ι} (h : P f = lotFn tk) (ht : P tk = takeFn) (d : Nat) {w : Nat} (hw : 1 ≤ w ∧ w ≤ 25) {fr : List MO} {j : Nat} {n : Int} (hj : fr[j]? = some (.lst [.int n])) :
    ∃ ns n', run P (d + 2) f [.ref 0 j, .int (w : Nat)] [fr] = .ok (.tup (iL ns)) [fr.set j (.lst [.int n'])] ∧ ns.length = w ∧ Wts 1000002 ns := by
  obtain ⟨ns, n', e, a, b⟩ := run_lot h ht d hw (get_of hj)
  rw [put_of] at e
  exact ⟨ns, n', e, a, b⟩
/-- two lots drawn at once -/
theorem lot_two {tk : ι} (h : P f = lotFn tk) (ht : P tk = takeFn) (d : Nat) {w : Nat} (hw : 1 ≤ w ∧ w ≤ 25) {fr : List MO} {p : Nat} {n : Int} (hj : fr[p]? = some (.lst [.int n])) {v : Env} (h2 : v.at_ 2 = some (.ref 0 p)) (h3 : v.at_ 3 = some (.int (w : Nat))) {i j : Nat} (hi : i < v.length) (hj' : j < v.length) :
    ∃ ns ms fr' n', exec (run P (d + 2)) (.par i j (.cons (.call f (.cons (.var 2) (.cons (.var 3) .nil))) (.cons (.call f (.cons (.var 2) (.cons (.var 3) .nil))) .nil))) v [fr] = .ok (.nx ((v.set i (some (.tup (iL ns)))).set j (some (.tup (iL ms))))) [fr'] ∧ fr'[p]? = some (.lst [.int n']) ∧ ns.length = w ∧ ms.length = w ∧ Wts 1000002 ns ∧ Wts 1000002 ms := by
  obtain ⟨ns, n1, e1, a1, b1⟩ := lot_one h ht d hw hj
  have hj1 := set_at (o' := .lst [.int n1]) hj
  obtain ⟨ms, n2, e2, a2, b2⟩ := lot_one h ht d hw hj1
  exact ⟨ns, ms, _, n2, par_two h2 h3 e1 e2 hi hj', set_at hj1, a1, a2, b1, b2⟩
end
end Fw

set_option Elab.async false
set_option linter.all false
set_option autoImplicit false
/-! ## Fw22m: lots apart, in plain numbers -/
namespace Fw
/-- max(0, x), min(i, j) as they are reckoned -/
def mx (x : Int) : Int := if x > 0 then x else 0
def mn (i j : Int) : Int := if j < i then j else i
theorem mx_nn (x : Int) : 0 ≤ mx x := by unfold mx; split <;> omega
theorem mx_mul {b : Int} (hb : 0 ≤ b) (x : Int) : mx (x * b) = mx x * b := by
  unfold mx
  by_cases h : 0 < x
  · rw [if_pos h]
    by_cases h2 : 0 < b
    · rw [if_pos (Int.mul_pos h h2)]
    · have : b = 0 := by omega
      subst this; simp
  · have : x * b ≤ 0 := by
      have := Int.mul_le_mul_of_nonneg_right (show x ≤ 0 by omega) hb
      simpa using this
    rw [if_neg (by omega), if_neg h]
    simp
/-- what the first has more -/
def moreL (xs ys : List Int) : Int := ((xs.zip ys).map fun p => mx (p.1 - p.2)).sum
theorem sum_mulR (b : Int) : ∀ xs : List Int, (xs.map (· * b)).sum = xs.sum * b
  | [] => by simp
  | x :: xs => by simp [sum_mulR b xs, Int.add_mul]
theorem moreL_nil (ys : List Int) : moreL [] ys = 0 := by simp [moreL]
theorem moreL_cons (x y : Int) (xs ys : List Int) : moreL (x :: xs) (y :: ys) = mx (x - y) + moreL xs ys := by simp [moreL]
theorem moreL_nn : ∀ xs ys : List Int, 0 ≤ moreL xs ys
  | [], ys => by simp [moreL]
  | _ :: _, [] => by simp [moreL]
  | x :: xs, y :: ys => by
    have := moreL_nn xs ys
    have := mx_nn (x - y)
    rw [moreL_cons]; omega
theorem moreL_mul {b : Int} (hb : 0 ≤ b) : ∀ xs ys : List Int, moreL (xs.map (· * b)) (ys.map (· * b)) = moreL xs ys * b
  | [], ys => by simp [moreL]
  | _ :: _, [] => by simp [moreL]
  | x :: xs, y :: ys => by
    rw [List.map_cons, List.map_cons, moreL_cons, moreL_cons, moreL_mul hb xs ys, ← Int.sub_mul, mx_mul hb, Int.add_mul]
theorem moreL_sub : ∀ xs ys : List Int, xs.length = ys.length → moreL xs ys - moreL ys xs = xs.sum - ys.sum
  | [], [], _ => by simp [moreL]
  | [], _ :: _, h => by simp at h
  | _ :: _, [], h => by simp at h
  | x :: xs, y :: ys, h => by
    have := moreL_sub xs ys (by simpa using h)
    rw [moreL_cons, moreL_cons, List.sum_cons, List.sum_cons]
    unfold mx
    split <;> split <;> omega
theorem moreL_comm {xs ys : List Int} (h : xs.length = ys.length) (hs : xs.sum = ys.sum) : moreL xs ys = moreL ys xs := by
  have := moreL_sub xs ys h
  omega
theorem moreL_le : ∀ xs ys : List Int, xs.length = ys.length → (∀ x ∈ xs, 0 ≤ x) → (∀ y ∈ ys, 0 ≤ y) → moreL xs ys ≤ xs.sum
  | [], [], _, _, _ => by simp [moreL]
  | [], _ :: _, h, _, _ => by simp at h
  | _ :: _, [], h, _, _ => by simp at h
  | x :: xs, y :: ys, h, hx, hy => by
    have := moreL_le xs ys (by simpa using h) (fun z hz => hx z (List.mem_cons_of_mem _ hz)) (fun z hz => hy z (List.mem_cons_of_mem _ hz))
    have h1 := hx x List.mem_cons_self
    have h2 := hy y List.mem_cons_self
    rw [moreL_cons, List.sum_cons]
    unfold mx
    split <;> omega
theorem moreL_zero : ∀ xs ys : List Int, xs.length = ys.length → moreL xs ys = 0 → moreL ys xs = 0 → xs = ys
  | [], [], _, _, _ => rfl
  | [], _ :: _, h, _, _ => by simp at h
  | _ :: _, [], h, _, _ => by simp at h
  | x :: xs, y :: ys, h, h1, h2 => by
    rw [moreL_cons] at h1 h2
    have a1 := moreL_nn xs ys
    have a2 := moreL_nn ys xs
    have a3 := mx_nn (x - y)
    have a4 := mx_nn (y - x)
    have e := moreL_zero xs ys (by simpa using h) (by omega) (by omega)
    have b1 : mx (x - y) = 0 := by omega
    have b2 : mx (y - x) = 0 := by omega
    unfold mx at b1 b2
    have : x = y := by
      split at b1 <;> split at b2 <;> omega
    rw [e, this]
theorem moreL_self : ∀ xs : List Int, moreL xs xs = 0
  | [] => by simp [moreL]
  | x :: xs => by rw [moreL_cons, moreL_self xs]; simp [mx]
/-- of one sum: nothing more, then the same -/
theorem moreL_eq0 {xs ys : List Int} (h : xs.length = ys.length) (hs : xs.sum = ys.sum) : moreL xs ys = 0 ↔ xs = ys := by
  refine ⟨fun e => moreL_zero xs ys h e (by rw [← moreL_comm h hs]; exact e), fun e => ?_⟩
  subst e
  exact moreL_self xs
/-- all more, then no place in common -/
theorem moreL_all : ∀ xs ys : List Int, xs.length = ys.length → (∀ x ∈ xs, 0 ≤ x) → (∀ y ∈ ys, 0 ≤ y) → (moreL xs ys = xs.sum ↔ ∀ p ∈ xs.zip ys, mn p.1 p.2 = 0)
  | [], [], _, _, _ => by simp [moreL]
  | [], _ :: _, h, _, _ => by simp at h
  | _ :: _, [], h, _, _ => by simp at h
  | x :: xs, y :: ys, h, hx, hy => by
    have ih := moreL_all xs ys (by simpa using h) (fun z hz => hx z (List.mem_cons_of_mem _ hz)) (fun z hz => hy z (List.mem_cons_of_mem _ hz))
    have le := moreL_le xs ys (by simpa using h) (fun z hz => hx z (List.mem_cons_of_mem _ hz)) (fun z hz => hy z (List.mem_cons_of_mem _ hz))
    have h1 := hx x List.mem_cons_self
    have h2 := hy y List.mem_cons_self
    rw [moreL_cons, List.sum_cons]
    simp only [List.zip_cons_cons, List.forall_mem_cons]
    rw [← ih]
    unfold mx mn
    constructor
    · intro q
      split at q
      · split <;> omega
      · split <;> omega
    · rintro ⟨q1, q2⟩
      split at q1 <;> split <;> omega
theorem mn_mul {b c : Int} (hb : 0 < b) (hc : 0 < c) {x y : Int} (hx : 0 ≤ x) (hy : 0 ≤ y) : mn (x * b) (y * c) = 0 ↔ mn x y = 0 := by
  have e : ∀ p q : Int, 0 ≤ p → 0 ≤ q → (mn p q = 0 ↔ p = 0 ∨ q = 0) := fun p q hp hq => by unfold mn; split <;> omega
  rw [e _ _ (Int.mul_nonneg hx (by omega)) (Int.mul_nonneg hy (by omega)), e _ _ hx hy, Int.mul_eq_zero, Int.mul_eq_zero]
  omega
/-! ### fractions in lowest terms -/
def plA (x y : Int) : Int := x / (Int.gcd x y : Int)
def plB (x y : Int) : Int := y / (Int.gcd x y : Int)
theorem gcd_pos {x y : Int} (h : 0 < y) : 0 < (Int.gcd x y : Int) := by
  have : Int.gcd x y ≠ 0 := fun e => by
    have := Int.eq_zero_of_gcd_eq_zero_right e
    omega
  omega
theorem gcd_leR {x y : Int} (h : 0 < y) : (Int.gcd x y : Int) ≤ y := Int.le_of_dvd h (Int.gcd_dvd_right ..)
theorem plA_mul {x y g : Int} (h : 0 < g) : plA (x * g) (y * g) = plA x y := by
  unfold plA
  have e : Int.gcd (x * g) (y * g) = Int.gcd x y * g.natAbs := Int.gcd_mul_right ..
  rw [e, Int.natCast_mul, Int.natAbs_of_nonneg (by omega), Int.mul_ediv_mul_of_pos_left _ _ h]
theorem plB_mul {x y g : Int} (h : 0 < g) : plB (x * g) (y * g) = plB x y := by
  unfold plB
  have e : Int.gcd (x * g) (y * g) = Int.gcd x y * g.natAbs := Int.gcd_mul_right ..
  rw [e, Int.natCast_mul, Int.natAbs_of_nonneg (by omega), Int.mul_ediv_mul_of_pos_left _ _ h]
theorem pl_cross {x y : Int} (h : 0 < y) : plA x y * y = plB x y * x := by
  have g := gcd_pos (x := x) h
  have a : plA x y * (Int.gcd x y : Int) = x := Int.ediv_mul_cancel (Int.gcd_dvd_left ..)
  have b : plB x y * (Int.gcd x y : Int) = y := Int.ediv_mul_cancel (Int.gcd_dvd_right ..)
  generalize plA x y = p at a ⊢
  generalize plB x y = q at b ⊢
  generalize (Int.gcd x y : Int) = r at a b g
  rw [← a, ← b]
  rw [← Int.mul_assoc, ← Int.mul_assoc, Int.mul_comm p q]
theorem plB_pos {x y : Int} (h : 0 < y) : 0 < plB x y := Int.ediv_pos_of_pos_of_dvd h (by omega) (Int.gcd_dvd_right ..)
theorem pl_zero {x y : Int} (h : 0 < y) : (plA x y = 0 ∧ plB x y = 1) ↔ x = 0 := by
  constructor
  · rintro ⟨e, e2⟩
    have c := pl_cross (x := x) h
    rw [e, e2] at c
    omega
  · rintro rfl
    unfold plA plB
    simp only [Int.gcd_zero_left, Int.zero_ediv, true_and]
    rw [Int.natAbs_of_nonneg (by omega)]
    exact Int.ediv_self (by omega)
theorem pl_one {x y : Int} (h : 0 < y) : (plA x y = 1 ∧ plB x y = 1) ↔ x = y := by
  constructor
  · rintro ⟨e, e2⟩
    have c := pl_cross (x := x) h
    rw [e, e2] at c
    omega
  · rintro rfl
    unfold plA plB
    rw [Int.gcd_self, Int.natAbs_of_nonneg (by omega)]
    exact ⟨Int.ediv_self (by omega), Int.ediv_self (by omega)⟩
/-! ### greatest of a list -/
theorem gr_mem (f : Int → Int → Int) (hf : ∀ a b, f a b = a ∨ f a b = b) : ∀ (xs : List Int) (x : Int), xs.foldl f x = x ∨ xs.foldl f x ∈ xs
  | [], x => .inl rfl
  | y :: ys, x => by
    rw [List.foldl_cons]
    rcases gr_mem f hf ys (f x y) with q | q
    · rw [q]
      rcases hf x y with r | r
      · exact .inl r
      · exact .inr (by rw [r]; exact List.mem_cons_self)
    · exact .inr (List.mem_cons_of_mem _ q)
theorem gr_le : ∀ (xs : List Int) (x : Int), x ≤ xs.foldl (fun a b => if b > a then b else a) x ∧ ∀ y ∈ xs, y ≤ xs.foldl (fun a b => if b > a then b else a) x
  | [], x => ⟨Int.le_refl _, by simp⟩
  | z :: zs, x => by
    obtain ⟨a, b⟩ := gr_le zs (if z > x then z else x)
    rw [List.foldl_cons]
    refine ⟨?_, fun y hy => ?_⟩
    · refine Int.le_trans ?_ a
      split <;> omega
    · rcases List.mem_cons.mp hy with rfl | hy
      · refine Int.le_trans ?_ a
        split <;> omega
      · exact b y hy
end Fw

set_option Elab.async false
set_option linter.all false
set_option maxRecDepth 100000
set_option maxHeartbeats 2000000
set_option autoImplicit false
/-! ## Fw22: lots brought to one sum, how far apart -/
namespace Fw
open PySem
theorem zipD_ints {A B : D} {xs ys : List Int} (sa : seqC A = some (iL xs)) (sb : seqC B = some (iL ys)) : zipD A B = some ((xs.zip ys).map fun p => .tup [.int p.1, .int p.2]) := by
  simp only [zipD, sa, sb, Option.bind_some, Option.map_some, iL, List.zip_map, List.map_map]
  rfl
section
variable {ι : Type} {call : ι → List D → MH → Res D} {v : Env} {m : MH}
/-- two lists walked together -/
theorem e_zip {own : List (Str × Nat)} {i j p q : Nat} {A B : D} {xs ys : List Int} {c : E ι} (g : Int → Int → Int) (ha : v.at_ p = some A) (hb : v.at_ q = some B) (sa : seqC A = some (iL xs)) (sb : seqC B = some (iL ys)) (hl : xs.length ≤ 16777216) (hi : i < v.length) (hj : j < v.length)
    (he : ∀ r ∈ xs.zip ys, (sem call c).e (((wipeE v (own.map (·.2))).set i (some (.int r.1))).set j (some (.int r.2))) m = .ok (.int (g r.1 r.2)) m) :
    (sem call (.lc false own (.tup 2 (.cons (.name i) (.cons (.name j) .nil))) (.zip (.var p) (.var q)) .nil c)).e v m = .ok (.lst (iL ((xs.zip ys).map fun r => g r.1 r.2))) m := by
  have q := e_map (call := call) (v := v) (m := m) (own := own) (t := .tup 2 (.cons (.name i) (.cons (.name j) .nil))) (it := .zip (.var p) (.var q)) (c := c) (xs := (xs.zip ys).map fun p => .tup [.int p.1, .int p.2]) (fun d => match d with
    | .tup [.int a, .int b] => .int (g a b)
    | _ => .non) (by simp; omega) (by simp only [w_zip, e_var, ha, hb, Res.of_some, Res.bind_ok, zipD_ints sa sb, Option.map_some]) (fun x hx => by
    obtain ⟨r, hr, rfl⟩ := List.mem_map.mp hx
    refine ⟨_, ?_, he r hr⟩
    simp [ptg, wipeE_length, hi, hj])
  rw [q, List.map_map]
  simp only [iL, List.map_map]
  rfl
/-- a list of numbers, item by item -/
theorem e_ints {own : List (Str × Nat)} {k : Nat} {it c : E ι} {xs : List Int} (g : Int → Int) (hl : xs.length ≤ 16777216) (h : (sem call it).w v m = .ok (.items (iL xs)) m) (hk : k < v.length)
    (he : ∀ x ∈ xs, (sem call c).e ((wipeE v (own.map (·.2))).set k (some (.int x))) m = .ok (.int (g x)) m) : (sem call (.lc false own (.name k) it .nil c)).e v m = .ok (.lst (iL (xs.map g))) m := by
  have q := e_map (call := call) (v := v) (m := m) (own := own) (t := .name k) (it := it) (c := c) (xs := iL xs) (fun d => match d with
    | .int a => .int (g a)
    | _ => .non) (by simpa using hl) h (fun x hx => by
    obtain ⟨r, hr, rfl⟩ := List.mem_map.mp hx
    refine ⟨_, ?_, he r hr⟩
    simp [ptg, wipeE_length, hk])
  rw [q]
  simp only [iL, List.map_map]
  rfl
end
theorem sum_lst (m : MH) (zs : List Int) : built .sum [.lst (iL zs)] m = some (.int zs.sum) := by
  show sumD m (.lst (iL zs)) = _
  simp [sumD, seqOf, ints_of]
theorem sum_tup (m : MH) (zs : List Int) : built .sum [.tup (iL zs)] m = some (.int zs.sum) := by
  show sumD m (.tup (iL zs)) = _
  simp [sumD, seqOf, ints_of]
theorem max_lst (m : MH) {zs : List Int} (h : zs ≠ []) : built .max [.lst (iL zs)] m = some (.int (maxI zs)) := by
  show ints1 m maxI (.lst (iL zs)) = _
  simp [ints1, lstOf, seqOf, ints_of, h]
theorem min_lst (m : MH) {zs : List Int} (h : zs ≠ []) : built .min [.lst (iL zs)] m = some (.int (minI zs)) := by
  show ints1 m minI (.lst (iL zs)) = _
  simp [ints1, lstOf, seqOf, ints_of, h]
theorem tup_lst (m : MH) (zs : List D) : built .tuple [.lst zs] m = some (.tup zs) := rfl
theorem max_of {zs : List Int} (h : zs ≠ []) : maxI zs ∈ zs ∧ ∀ z ∈ zs, z ≤ maxI zs := by
  cases zs with
  | nil => exact absurd rfl h
  | cons x xs =>
    obtain ⟨a, b⟩ := gr_le xs x
    refine ⟨?_, fun z hz => ?_⟩
    · rcases gr_mem (fun a b => if b > a then b else a) (fun a b => by
        by_cases h : b > a
        · exact .inr (if_pos h)
        · exact .inl (if_neg h)) xs x with q | q
      · rw [maxI, q]; exact List.mem_cons_self
      · exact List.mem_cons_of_mem _ q
    · rcases List.mem_cons.mp hz with rfl | hz
      · exact a
      · exact b z hz
theorem max_eq {zs : List Int} {b : Int} (h1 : b ∈ zs) (h2 : ∀ z ∈ zs, z ≤ b) : maxI zs = b := by
  obtain ⟨p, q⟩ := max_of (List.ne_nil_of_mem h1)
  have := h2 _ p
  have := q b h1
  omega
theorem mx_built (m : MH) (x : Int) : built .max [.int 0, .int x] m = some (.int (mx x)) := rfl
theorem mn_built (m : MH) (x y : Int) : built .min [.int x, .int y] m = some (.int (mn x y)) := rfl
theorem sum_lt {B : Int} : ∀ {ns : List Int}, (∀ n ∈ ns, 0 ≤ n ∧ n ≤ B) → 0 ≤ ns.sum ∧ ns.sum ≤ B * ns.length
  | [], _ => by simp
  | n :: ns, h => by
    obtain ⟨a, b⟩ := sum_lt (ns := ns) fun x hx => h x (List.mem_cons_of_mem _ hx)
    obtain ⟨c, d⟩ := h n List.mem_cons_self
    rw [List.sum_cons, List.length_cons]
    have : B * ((ns.length + 1 : Nat) : Int) = B * ns.length + B := by rw [Int.natCast_add, Int.mul_add]; simp
    omega
/-! ### the defs -/
def plainFn {ι : Type} (g : ι) : Fn ι := ⟨2, 3, (.cons (.asg (.name 2) (.call g (.cons (.var 0) (.cons (.var 1) .nil)))) (.cons (.ret (.tup (.cons (.bin .fdiv (.var 0) (.var 2)) (.cons (.bin .fdiv (.var 1) (.var 2)) .nil)))) .nil))⟩
def broughtFn {ι : Type} (common : ι) : Fn ι := ⟨2, 6, (.cons (.asg (.tup 2 (.cons (.name 3) (.cons (.name 4) .nil))) (.tup (.cons (.bi .sum (.cons (.var 0) .nil)) (.cons (.bi .sum (.cons (.var 1) .nil)) .nil)))) (.cons (.asg (.name 2) (.call common (.cons (.var 3) (.cons (.var 4) .nil)))) (.cons (.ret (.tup (.cons (.lc false [("weight", 5)] (.name 5) (.var 0) .nil (.bin .mul (.var 5) (.bin .fdiv (.var 4) (.var 2)))) (.cons (.lc false [("weight", 5)] (.name 5) (.var 1) .nil (.bin .mul (.var 5) (.bin .fdiv (.var 3) (.var 2)))) .nil)))) .nil)))⟩
def moreFn {ι : Type} : Fn ι := ⟨2, 4, (.cons (.ret (.bi .sum (.cons (.lc false [("mine", 2), ("yours", 3)] (.tup 2 (.cons (.name 2) (.cons (.name 3) .nil))) (.zip (.var 0) (.var 1)) .nil (.bi .max (.cons (.lit (.int 0)) (.cons (.bin .sub (.var 2) (.var 3)) .nil)))) .nil))) .nil)⟩
def apartOfFn {ι : Type} (brought plain_of more_of : ι) : Fn ι := ⟨2, 4, (.cons (.asg (.tup 2 (.cons (.name 2) (.cons (.name 3) .nil))) (.call brought (.cons (.var 0) (.cons (.var 1) .nil)))) (.cons (.ret (.call plain_of (.cons (.call more_of (.cons (.var 2) (.cons (.var 3) .nil))) (.cons (.bi .sum (.cons (.var 2) .nil)) .nil)))) .nil))⟩
def apartFn {ι : Type} (need_two apart_of : ι) : Fn ι := ⟨2, 2, (.cons (.exp (.call need_two (.cons (.var 0) (.cons (.var 1) .nil)))) (.cons (.ret (.call apart_of (.cons (.var 0) (.cons (.var 1) .nil)))) .nil))⟩
/-- two lots of as many places -/
structure Two (ns ms : List Int) : Prop where
  h1 : Wts 1125899906842624 ns
  h2 : Wts 1125899906842624 ms
  len : ns.length = ms.length
  l25 : ns.length ≤ 64
theorem Two.symm {ns ms : List Int} (h : Two ns ms) : Two ms ns := ⟨h.h2, h.h1, h.len.symm, by rw [← h.len]; exact h.l25⟩
def byL (ns ms : List Int) : Int := (Int.gcd ns.sum ms.sum : Int)
def mineL (ns ms : List Int) : List Int := ns.map (· * (ms.sum / byL ns ms))
def yoursL (ns ms : List Int) : List Int := ms.map (· * (ns.sum / byL ns ms))
section
variable {ns ms : List Int} (h : Two ns ms)
include h
theorem Two.sums : 0 < ns.sum ∧ ns.sum ≤ 72057594037927936 ∧ 0 < ms.sum ∧ ms.sum ≤ 72057594037927936 := by
  have a := (sum_lt (B := 1125899906842624) (ns := ns) fun n hn => ⟨h.h1.nn n hn, Int.le_of_lt (h.h1.lt n hn)⟩).2
  have b := (sum_lt (B := 1125899906842624) (ns := ms) fun n hn => ⟨h.h2.nn n hn, Int.le_of_lt (h.h2.lt n hn)⟩).2
  have := h.len
  have := h.l25
  refine ⟨h.h1.ps, by omega, h.h2.ps, by omega⟩
theorem Two.by_ : 0 < byL ns ms ∧ byL ns ms ≤ 72057594037927936 ∧ byL ns ms * (ns.sum / byL ns ms) = ns.sum ∧ byL ns ms * (ms.sum / byL ns ms) = ms.sum := by
  obtain ⟨_, _, c, d⟩ := h.sums
  have g := gcd_pos (x := ns.sum) c
  have l := gcd_leR (x := ns.sum) c
  exact ⟨g, by unfold byL; omega, Int.mul_ediv_cancel' (Int.gcd_dvd_left ..), Int.mul_ediv_cancel' (Int.gcd_dvd_right ..)⟩
theorem Two.facs : 0 < ns.sum / byL ns ms ∧ ns.sum / byL ns ms ≤ 72057594037927936 ∧ 0 < ms.sum / byL ns ms ∧ ms.sum / byL ns ms ≤ 72057594037927936 := by
  obtain ⟨a, b, c, d⟩ := h.sums
  obtain ⟨g, _, e1, e2⟩ := h.by_
  have k1 := Int.ediv_le_self (byL ns ms) (show 0 ≤ ns.sum by omega)
  have k2 := Int.ediv_le_self (byL ns ms) (show 0 ≤ ms.sum by omega)
  refine ⟨?_, by omega, ?_, by omega⟩
  · exact Int.ediv_pos_of_pos_of_dvd a (by omega) (Int.gcd_dvd_left ..)
  · exact Int.ediv_pos_of_pos_of_dvd c (by omega) (Int.gcd_dvd_right ..)
theorem Two.one : (mineL ns ms).sum = (yoursL ns ms).sum ∧ 0 < (mineL ns ms).sum ∧ (mineL ns ms).sum ≤ 72057594037927936 * 72057594037927936 := by
  obtain ⟨a, b, c, d⟩ := h.sums
  obtain ⟨g, _, e1, e2⟩ := h.by_
  obtain ⟨f1, f2, f3, f4⟩ := h.facs
  unfold mineL yoursL
  rw [sum_mulR, sum_mulR]
  generalize ns.sum / byL ns ms = p at *
  generalize ms.sum / byL ns ms = q at *
  refine ⟨?_, Int.mul_pos a f3, Int.mul_le_mul b f4 (by omega) (by omega)⟩
  rw [← e1, ← e2, Int.mul_assoc, Int.mul_assoc, Int.mul_comm p q]
theorem Two.lens : (mineL ns ms).length = ns.length ∧ (yoursL ns ms).length = ns.length := by simp [mineL, yoursL, h.len]
theorem Two.nn : (∀ x ∈ mineL ns ms, 0 ≤ x) ∧ ∀ x ∈ yoursL ns ms, 0 ≤ x := by
  obtain ⟨f1, f2, f3, f4⟩ := h.facs
  constructor
  · intro x hx
    obtain ⟨n, hn, rfl⟩ := List.mem_map.mp hx
    exact Int.mul_nonneg (h.h1.nn n hn) (by omega)
  · intro x hx
    obtain ⟨n, hn, rfl⟩ := List.mem_map.mp hx
    exact Int.mul_nonneg (h.h2.nn n hn) (by omega)
end
/-- how far apart, its two numbers -/
def apA (ns ms : List Int) : Int := plA (moreL (mineL ns ms) (yoursL ns ms)) (mineL ns ms).sum
def apB (ns ms : List Int) : Int := plB (moreL (mineL ns ms) (yoursL ns ms)) (mineL ns ms).sum
def apD (ns ms : List Int) : D := .tup [.int (apA ns ms), .int (apB ns ms)]
theorem byL_comm (ns ms : List Int) : byL ns ms = byL ms ns := by unfold byL; rw [Int.gcd_comm]
theorem mineL_comm (ns ms : List Int) : mineL ms ns = yoursL ns ms := by unfold mineL yoursL; rw [byL_comm]
theorem yoursL_comm (ns ms : List Int) : yoursL ms ns = mineL ns ms := by unfold mineL yoursL; rw [byL_comm]
section
variable {ns ms : List Int} (h : Two ns ms)
include h
theorem ap_comm : apD ms ns = apD ns ms := by
  obtain ⟨a, _, _⟩ := h.one
  obtain ⟨l1, l2⟩ := h.lens
  unfold apD apA apB
  rw [mineL_comm ns ms, yoursL_comm ns ms, ← a, moreL_comm (by rw [l1, l2]) a]
/-- crosswise, as the laws reckon it -/
theorem ap_cross : plA (moreL (ns.map (· * ms.sum)) (ms.map (· * ns.sum))) (ns.sum * ms.sum) = apA ns ms ∧ plB (moreL (ns.map (· * ms.sum)) (ms.map (· * ns.sum))) (ns.sum * ms.sum) = apB ns ms := by
  obtain ⟨g, _, e1, e2⟩ := h.by_
  have m1 : ns.map (· * ms.sum) = (mineL ns ms).map (· * byL ns ms) := by
    unfold mineL
    rw [List.map_map]
    refine List.map_congr_left fun n _ => ?_
    show n * ms.sum = n * (ms.sum / byL ns ms) * byL ns ms
    rw [Int.mul_assoc, Int.mul_comm (ms.sum / byL ns ms), e2]
  have m2 : ms.map (· * ns.sum) = (yoursL ns ms).map (· * byL ns ms) := by
    unfold yoursL
    rw [List.map_map]
    refine List.map_congr_left fun n _ => ?_
    show n * ns.sum = n * (ns.sum / byL ns ms) * byL ns ms
    rw [Int.mul_assoc, Int.mul_comm (ns.sum / byL ns ms), e1]
  have m3 : ns.sum * ms.sum = (mineL ns ms).sum * byL ns ms := by
    have := congrArg List.sum m1
    rw [sum_mulR, sum_mulR] at this
    exact this
  rw [m1, m2, m3, moreL_mul (by omega), plA_mul g, plB_mul g]
  exact ⟨rfl, rfl⟩
theorem Two.least : leastL ns = leastL ms ↔ mineL ns ms = yoursL ns ms := by
  obtain ⟨a, b, c, d⟩ := h.sums
  obtain ⟨g, _, e1, e2⟩ := h.by_
  obtain ⟨f1, f2, f3, f4⟩ := h.facs
  constructor
  · intro e
    have w : ∀ {ks : List Int}, Wts 1125899906842624 ks → ks = (leastL ks).map (gcdL ks * ·) := fun {ks} hk => by
      unfold leastL
      rw [List.map_map]
      conv => lhs; rw [← List.map_id ks]
      refine List.map_congr_left fun n hn => ?_
      exact (Int.mul_ediv_cancel' ((gcdF_dvd ks 0).2 n hn)).symm
    have w1 := w h.h1
    have w2 := w h.h2
    rw [← e] at w2
    have s : ∀ (k : Int) (ks : List Int), (ks.map (k * ·)).sum = k * ks.sum := fun k ks => by
      have : (fun x => k * x) = (· * k) := funext fun x => Int.mul_comm k x
      rw [this, sum_mulR, Int.mul_comm]
    have s1 : ns.sum = gcdL ns * (leastL ns).sum := by
      have := congrArg List.sum w1
      rw [s] at this
      exact this
    have s2 : ms.sum = gcdL ms * (leastL ns).sum := by
      have := congrArg List.sum w2
      rw [s] at this
      exact this
    have k : ∀ x y : Int, byL ns ms * x = byL ns ms * y → x = y := fun x y q => Int.eq_of_mul_eq_mul_left (by omega) q
    have e3 : mineL ns ms = (leastL ns).map (fun l => gcdL ns * l * (ms.sum / byL ns ms)) := by
      unfold mineL
      conv => lhs; arg 2; rw [w1]
      rw [List.map_map]
      rfl
    have e4 : yoursL ns ms = (leastL ns).map (fun l => gcdL ms * l * (ns.sum / byL ns ms)) := by
      unfold yoursL
      conv => lhs; arg 2; rw [w2]
      rw [List.map_map]
      rfl
    rw [e3, e4]
    refine List.map_congr_left fun l _ => k _ _ ?_
    rw [show byL ns ms * (gcdL ns * l * (ms.sum / byL ns ms)) = gcdL ns * l * (byL ns ms * (ms.sum / byL ns ms)) from by simp only [Int.mul_assoc, Int.mul_left_comm, Int.mul_comm], show byL ns ms * (gcdL ms * l * (ns.sum / byL ns ms)) = gcdL ms * l * (byL ns ms * (ns.sum / byL ns ms)) from by simp only [Int.mul_assoc, Int.mul_left_comm, Int.mul_comm], e1, e2, s1, s2]
    simp only [Int.mul_assoc, Int.mul_left_comm, Int.mul_comm]
  · intro e
    have q1 := leastL_mul (b := ms.sum / byL ns ms) f3 ns
    have q2 := leastL_mul (b := ns.sum / byL ns ms) f1 ms
    have r : ∀ k : Int, (fun x => k * x) = (· * k) := fun k => funext fun x => Int.mul_comm k x
    rw [r] at q1 q2
    rw [← q1, ← q2]
    unfold mineL yoursL at e
    rw [e]
theorem ap_zero : (apA ns ms = 0 ∧ apB ns ms = 1) ↔ leastL ns = leastL ms := by
  obtain ⟨a, b, _⟩ := h.one
  obtain ⟨l1, l2⟩ := h.lens
  unfold apA apB
  rw [pl_zero b, moreL_eq0 (by rw [l1, l2]) a, h.least]
theorem ap_one : (apA ns ms = 1 ∧ apB ns ms = 1) ↔ ∀ p ∈ ns.zip ms, mn p.1 p.2 = 0 := by
  obtain ⟨a, b, _⟩ := h.one
  obtain ⟨l1, l2⟩ := h.lens
  obtain ⟨n1, n2⟩ := h.nn
  obtain ⟨f1, f2, f3, f4⟩ := h.facs
  unfold apA apB
  rw [pl_one b, moreL_all _ _ (by rw [l1, l2]) n1 n2]
  unfold mineL yoursL
  rw [List.zip_map]
  simp only [List.forall_mem_map]
  constructor
  · intro q p hp
    have z := List.of_mem_zip hp
    exact (mn_mul f3 f1 (h.h1.nn _ z.1) (h.h2.nn _ z.2)).mp (q p hp)
  · intro q p hp
    have z := List.of_mem_zip hp
    exact (mn_mul f3 f1 (h.h1.nn _ z.1) (h.h2.nn _ z.2)).mpr (q p hp)
end
/-! ### what they compute -/
section
variable {ι : Type} {P : ι → Fn ι} {f g br pl mo n2 ao : ι}
theorem log_of {y : Int} (h0 : 0 ≤ y) (h : y < 2 ^ 1000) : y.natAbs.log2 < 9000 := by
  have := log2_lt (natAbs_lt (k := 1000) h0 h) (by omega)
  omega
theorem run_plain {o : Cm} (ho : o = .gt ∨ o = .ne) (h : P f = plainFn g) (hg : P g = gcdFn o) (d : Nat) (x : Int) {y : Int} (hy : 0 < y) (hb : y < 2 ^ 1000) (m : MH) : run P (d + 2) f [.int x, .int y] m = .ok (.tup [.int (plA x y), .int (plB x y)]) m := by
  rw [run_b h rfl]
  have e := fun m => run_gcd ho hg d x y m
  have g0 := gcd_pos (x := x) hy
  have gl := gcd_leR (x := x) hy
  have lg : (Int.gcd x y : Int).natAbs.log2 < 9000 := log_of (by omega) (Int.lt_of_le_of_lt gl hb)
  have q1 := fun m => fdiv_int (m := m) (i := x) g0 lg
  have q2 := fun m => fdiv_int (m := m) (i := y) g0 lg
  show left (exec (run P (d + 1)) (plainFn g).body [some (.int x), some (.int y), none] ([] :: m)) = _
  simp only [plainFn, x_cons, x_asg, e_call, l_cons, l_nil, e_var, at_succ, at_zero, Res.of_some, Res.bind_ok, e, Res.st_ok, g_name, List.length_cons, List.length_nil, Nat.zero_add, Nat.reduceAdd, Nat.reduceLT, if_true, List.set_cons_succ, List.set_cons_zero, Res.tg_ok, Res.then_nx, x_ret, e_tup, e_bin, q1, q2, sz2, Res.then_rt]
  rfl
theorem run_brought {o : Cm} (ho : o = .gt ∨ o = .ne) (h : P f = broughtFn g) (hg : P g = gcdFn o) (d : Nat) {ns ms : List Int} (t : Two ns ms) (m : MH) : run P (d + 2) f [.tup (iL ns), .tup (iL ms)] m = .ok (.tup [.lst (iL (mineL ns ms)), .lst (iL (yoursL ns ms))]) m := by
  rw [run_b h rfl]
  obtain ⟨a, b, c, dd⟩ := t.sums
  obtain ⟨g0, gl, _, _⟩ := t.by_
  obtain ⟨f1, f2, f3, f4⟩ := t.facs
  have ll := t.len
  have l25 := t.l25
  have e := fun m => run_gcd ho hg d ns.sum ms.sum m
  have lg : (byL ns ms).natAbs < 18446744073709551616 := by omega
  have q1 := fun m => fdiv_lit (m := m) (i := ns.sum) g0 lg
  have q2 := fun m => fdiv_lit (m := m) (i := ms.sum) g0 lg
  have c1 := e_ints (call := run P (d + 1)) (v := [some (.tup (iL ns)), some (.tup (iL ms)), some (.int (byL ns ms)), some (.int ns.sum), some (.int ms.sum), none]) (m := [] :: m) (own := [("weight", 5)]) (k := 5) (it := .var 0) (c := .bin .mul (.var 5) (.bin .fdiv (.var 4) (.var 2))) (xs := ns) (fun x => x * (ms.sum / byL ns ms)) (by omega) rfl (by simp) (fun x hx => by
    have h1 := t.h1.nn x hx
    have h2 := t.h1.lt x hx
    have mm := mul_lit (m := [] :: m) (i := x) (j := ms.sum / byL ns ms) (by omega) (by omega)
    simp only [e_bin, e_var, wipeE, Env.at_, List.map, List.set_cons_succ, List.set_cons_zero, List.getElem?_cons_succ, List.getElem?_cons_zero, Option.getD_some, Res.of_some, Res.bind_ok, q2, mm])
  have c2 := e_ints (call := run P (d + 1)) (v := [some (.tup (iL ns)), some (.tup (iL ms)), some (.int (byL ns ms)), some (.int ns.sum), some (.int ms.sum), none]) (m := [] :: m) (own := [("weight", 5)]) (k := 5) (it := .var 1) (c := .bin .mul (.var 5) (.bin .fdiv (.var 3) (.var 2))) (xs := ms) (fun x => x * (ns.sum / byL ns ms)) (by omega) rfl (by simp) (fun x hx => by
    have h1 := t.h2.nn x hx
    have h2 := t.h2.lt x hx
    have mm := mul_lit (m := [] :: m) (i := x) (j := ns.sum / byL ns ms) (by omega) (by omega)
    simp only [e_bin, e_var, wipeE, Env.at_, List.map, List.set_cons_succ, List.set_cons_zero, List.getElem?_cons_succ, List.getElem?_cons_zero, Option.getD_some, Res.of_some, Res.bind_ok, q1, mm])
  show left (exec (run P (d + 1)) (broughtFn g).body [some (.tup (iL ns)), some (.tup (iL ms)), none, none, none, none] ([] :: m)) = _
  simp only [broughtFn, x_cons, x_asg, e_tup, sz2, g_tup, g_cons, g_nil, e_call, e_bi, l_cons, l_nil, e_var, at_succ, at_zero, Res.of_some, Res.bind_ok, sum_tup, e, Res.st_ok, g_name, List.length_cons, List.length_nil, Nat.zero_add, Nat.reduceAdd, Nat.reduceLT, and_self, if_true, List.set_cons_succ, List.set_cons_zero, Res.tg_ok, Res.then_nx, x_ret, e_tup]
  have by_ : ((Int.gcd ns.sum ms.sum : Nat) : Int) = byL ns ms := rfl
  rw [by_, c1]
  simp only [Res.bind_ok]
  rw [c2]
  simp only [Res.bind_ok, List.length_cons, List.length_nil, Nat.zero_add, Nat.reduceAdd, sz2, if_true, Res.st_ok, Res.then_rt, left, leave, D.bd, bdL, bdL_iL, Bool.and_self]
  rfl
theorem run_more (h : P f = moreFn) (d : Nat) {A B : D} {xs ys : List Int} (sa : seqC A = some (iL xs)) (sb : seqC B = some (iL ys)) (hl : xs.length ≤ 16777216) (m : MH) : run P (d + 1) f [A, B] m = .ok (.int (moreL xs ys)) m := by
  rw [run_b h rfl]
  have c1 := e_zip (call := run P d) (v := [some A, some B, none, none]) (m := [] :: m) (own := [("mine", 2), ("yours", 3)]) (i := 2) (j := 3) (p := 0) (q := 1) (c := .bi .max (.cons (.lit (.int 0)) (.cons (.bin .sub (.var 2) (.var 3)) .nil))) (fun x y => mx (x - y)) rfl rfl sa sb hl (by simp) (by simp) (fun r hr => by
    simp only [e_bi, l_cons, l_nil, e_lit, lit_int, e_bin, e_var, wipeE, Env.at_, List.map, List.set_cons_succ, List.set_cons_zero, List.getElem?_cons_succ, List.getElem?_cons_zero, Option.getD_some, Res.of_some, Res.bind_ok, sub_int, mx_built])
  show left (exec (run P d) moreFn.body [some A, some B, none, none] ([] :: m)) = _
  simp only [moreFn, x_cons, x_ret, e_bi, l_cons, l_nil]
  rw [c1]
  simp only [Res.bind_ok, sum_lst, Res.of_some, Res.st_ok, Res.then_rt, left, leave, D.bd, if_true]
  rfl
theorem big_lt : (72057594037927936 * 72057594037927936 : Int) < 2 ^ 1000 := by
  have : (72057594037927936 * 72057594037927936 : Int) = 2 ^ 112 := by decide +kernel
  rw [this]
  exact_mod_cast Nat.pow_lt_pow_right (a := 2) (by omega) (show 112 < 1000 by omega)
theorem run_apartOf {o : Cm} (ho : o = .gt ∨ o = .ne) (h : P f = apartOfFn br pl mo) (hb : P br = broughtFn g) (hp : P pl = plainFn g) (hm : P mo = moreFn) (hg : P g = gcdFn o) (d : Nat) {ns ms : List Int} (t : Two ns ms) (m : MH) : run P (d + 3) f [.tup (iL ns), .tup (iL ms)] m = .ok (apD ns ms) m := by
  rw [run_b h rfl]
  have e1 := fun m => run_brought ho hb hg d t m
  have l25 := t.l25
  obtain ⟨l1, l2⟩ := t.lens
  obtain ⟨o1, o2, o3⟩ := t.one
  have e2 := fun m => run_more hm (d + 1) (A := .lst (iL (mineL ns ms))) (B := .lst (iL (yoursL ns ms))) rfl rfl (by omega) m
  have e3 := fun m => run_plain ho hp hg d (moreL (mineL ns ms) (yoursL ns ms)) o2 (Int.lt_of_le_of_lt o3 big_lt) m
  show left (exec (run P (d + 2)) (apartOfFn br pl mo).body [some (.tup (iL ns)), some (.tup (iL ms)), none, none] ([] :: m)) = _
  simp only [apartOfFn, x_cons, x_asg, e_call, l_cons, l_nil, e_var, at_succ, at_zero, Res.of_some, Res.bind_ok, e1, Res.st_ok, g_tup, List.length_cons, List.length_nil, Nat.zero_add, Nat.reduceAdd, if_true, g_cons, g_nil, g_name, Nat.reduceLT, List.set_cons_succ, List.set_cons_zero, Res.tg_ok, Res.then_nx, x_ret, e2, e_bi, sum_lst, e3, Res.then_rt]
  rfl
theorem run_apart {d : Nat} (h : P f = apartFn n2 ao) {x y : D} (hx : ∀ m, run P d n2 [x, y] m = if isLot x && isLot y then (if lenT x = lenT y then .ok .non m else .exc unlike m) else .exc noLot m) (m : MH) :
    ((isLot x && isLot y) = false → run P (d + 1) f [x, y] m = .exc noLot m) ∧ ((isLot x && isLot y) = true → lenT x ≠ lenT y → run P (d + 1) f [x, y] m = .exc unlike m) ∧
    ∀ r, (isLot x && isLot y) = true → lenT x = lenT y → r.bd 0 = true → (∀ m, run P d ao [x, y] m = .ok r m) → run P (d + 1) f [x, y] m = .ok r m := by
  rw [run_b h rfl]
  refine ⟨fun e => ?_, fun e e2 => ?_, fun r e e2 hr h1 => ?_⟩
  · rw [e] at hx
    simp [apartFn, hx, left]
  · rw [e] at hx
    simp [apartFn, hx, e2, left]
  · rw [e] at hx
    have := leave_fine hr m
    simp [apartFn, hx, e2, h1, left, this]
end
end Fw

set_option Elab.async false
set_option linter.all false
set_option maxRecDepth 100000
set_option maxHeartbeats 2000000
set_option autoImplicit false
/-! ## Fw23: what looks at lots, together; comprehensions over what may change -/
namespace Fw
open PySem
/-! ### comprehensions over any walk -/
theorem lc_mapW {tg : D → Env → Option Env} {c : Env → MH → Res Bool} {e : Env → MH → Res D} {v : Env} {m : MH} {g : D → D} {all : List D} {w : Wk} (hw : ∀ i, stepW w i m = some all[i]?) : ∀ (k i : Nat) (xs : List D), all.drop i = xs → k = xs.length + 1 → (∀ x ∈ xs, ∃ v', tg x v = some v' ∧ c v' m = .ok true m ∧ e v' m = .ok (g x) m) → lcW tg c e v w k i m = .ok (xs.map g) m := by
  intro k
  induction k with
  | zero => intro i xs _ h; omega
  | succ k ih =>
    intro i xs hd hk hx
    cases xs with
    | nil =>
      have h0 : all[i]? = none := by
        rw [List.drop_eq_nil_iff] at hd
        exact List.getElem?_eq_none hd
      simp only [lcW, hw, h0, List.map_nil]
    | cons x xs =>
      have h0 : all[i]? = some x := by
        have := List.getElem?_drop (xs := all) (i := i) (j := 0)
        rw [hd] at this
        simpa using this.symm
      have h1 : all.drop (i + 1) = xs := by
        have := List.drop_drop (i := 1) (j := i) (l := all)
        rw [hd] at this
        simpa [Nat.add_comm] using this.symm
      obtain ⟨v', e1, e2, e3⟩ := hx x List.mem_cons_self
      have q := ih (i + 1) xs h1 (by simpa using hk) (fun y hy => hx y (List.mem_cons_of_mem _ hy))
      simp only [lcW, hw, h0, e1, e2, Res.bind_ok, if_true, e3, q, List.map_cons]
section
variable {ι : Type} {call : ι → List D → MH → Res D} {v : Env} {m : MH}
theorem e_live {own : List (Str × Nat)} {t : Pt} {p l i : Nat} {c : E ι} {xs : List D} (g : D → D) (hl : xs.length ≤ 16777216) (hp : v.at_ p = some (.ref l i)) (hg : get m l i = some (.lst xs))
    (hx : ∀ x ∈ xs, ∃ v', (ptg t).1 x (wipeE v (own.map (·.2))) = some v' ∧ (sem call c).e v' m = .ok (g x) m) : (sem call (.lc false own t (.var p) .nil c)).e v m = .ok (.lst (xs.map g)) m := by
  have hz : xs.length ≤ sizeLine := by unfold sizeLine; omega
  rw [e_lc, w_live hp hg]
  have q := lc_mapW (tg := (ptg t).1) (c := (sem call .nil).t) (e := (sem call c).e) (v := wipeE v (own.map (·.2))) (m := m) (g := g) (all := xs) (w := .live l i xs.length) (fun i' => by simp only [stepW, hg]) (xs.length + 1) 0 xs rfl rfl (fun x hx' => by
    obtain ⟨v', e1, e2⟩ := hx x hx'
    exact ⟨v', e1, rfl, e2⟩)
  simp [lenW, hz, q]
theorem t_biE {k : Bi} {es : E ι} {b : Bool} {m2 : MH} (h : (sem call (.bi k es)).e v m = .ok (.bl b) m2) : (sem call (.bi k es)).t v m = .ok b m2 := by
  show ((sem call (.bi k es)).e v m).bind (fun x m => Res.of (truth m x) m) = _
  rw [h]
  rfl
/-- all of them hold -/
theorem all_true {own : List (Str × Nat)} {t : Pt} {it e : E ι} {xs : List D} (h : (sem call (.lc false own t it .nil e)).e v m = .ok (.lst (xs.map fun _ => .bl true)) m) : (sem call (.bi .all (.cons (.lc false own t it .nil e) .nil))).e v m = .ok (.bl true) m := by
  simp only [e_bi, l_cons, l_nil, h, Res.bind_ok]
  have : blsOf (xs.map fun _ => D.bl true) = some (xs.map fun _ => true) := by
    have := bls_of (xs.map fun _ => true)
    rw [List.map_map] at this
    exact this
  simp [built, bls1, lstOf, seqOf, this]
end
/-! ### things -/
/-- what a thing may be -/
abbrev Th (x : D) : Prop := Bt 6 1000000 1125899906842624 x
/-- its weights -/
def nsT : D → List Int
  | .tup xs => xs.map intV
  | _ => []
theorem th_shrt {x : D} (h : Th x) : Shrt x := shrt_of h (by omega)
theorem pow1000 : (1125899906842624 : Nat) ≤ 2 ^ 1000 := Nat.le_of_lt (Nat.pow_lt_pow_right (a := 2) (by omega) (show 50 < 1000 by omega))
theorem th_repr {x : D} (h : Th x) : ∃ s, ∀ m, reprD m x = some s := h.repr pow1000 (by omega) (by omega)
theorem fine_lt {l c : Bool} {B : Nat} {ns : List Int} (h : fineL l c B (iL ns) = true) : ∀ n ∈ ns, n.natAbs < B := by
  intro n hn
  have := fineL_all.mp h (.int n) (List.mem_map.mpr ⟨n, hn, rfl⟩)
  simpa [fine] using this
theorem lot_ns {x : D} (h : isLot x = true) : x = .tup (iL (nsT x)) ∧ (∀ n ∈ nsT x, 0 ≤ n) ∧ 0 < (nsT x).sum ∧ (nsT x).length ≤ 25 ∧ lenT x = (nsT x).length := by
  obtain ⟨xs, rfl⟩ := isLot_tup h
  simp only [isLot, Bool.and_eq_true, decide_eq_true_eq] at h
  obtain ⟨⟨h1, h2⟩, h3, h4⟩ := h
  obtain ⟨e1, e2⟩ := nat_ints h3
  exact ⟨congrArg D.tup e1, e2, h4, by simpa [nsT] using h2, by simp [nsT, lenT]⟩
theorem th_wts {x : D} (ht : Th x) (h : isLot x = true) : Wts 1125899906842624 (nsT x) := by
  obtain ⟨e, h1, h2, _, _⟩ := lot_ns h
  refine ⟨h1, fun n hn => ?_, h2⟩
  have hb : n.natAbs < 1125899906842624 := by
    rcases ht.1 with q | q <;> (rw [e] at q; simp only [fine] at q; exact fine_lt q n hn)
  omega
theorem lot_of {ns : List Int} {B : Int} (h : Wts B ns) (h1 : 1 ≤ ns.length) (h2 : ns.length ≤ 25) : isLot (.tup (iL ns)) = true := by
  simp only [isLot, List.length_map, Bool.and_eq_true, decide_eq_true_eq]
  exact ⟨⟨h1, h2⟩, natD_iL h.nn, by rw [map_intV]; exact h.ps⟩
theorem ns_iL (ns : List Int) : nsT (.tup (iL ns)) = ns := map_intV ns
theorem th_ints {ns : List Int} (h : ∀ n ∈ ns, n.natAbs < 1125899906842624) (hl : ns.length ≤ 500) : Th (.tup (iL ns)) := by
  refine ⟨.inl ?_, ?_, ?_⟩
  · simp only [fine]; exact fineL_iL h
  · simp only [dp, dpL_iL]; omega
  · simp only [rm, rmL_iL]; omega
theorem Wts.th {ns : List Int} (h : Wts 1125899906842624 ns) (hl : ns.length ≤ 500) : Th (.tup (iL ns)) := th_ints (fun n hn => by have := h.nn n hn; have := h.lt n hn; omega) hl
theorem bB : (1125899906842624 : Int) ≤ 2 ^ 1000 := by
  have : (1125899906842624 : Int) = 2 ^ 50 := by decide
  rw [this]
  exact Int.le_of_lt (by exact_mod_cast Nat.pow_lt_pow_right (a := 2) (by omega) (show 50 < 1000 by omega))
theorem Wts.mono {B C : Int} {ns : List Int} (h : Wts B ns) (hb : B ≤ C) : Wts C ns := ⟨h.nn, fun n hn => Int.lt_of_lt_of_le (h.lt n hn) hb, h.ps⟩
theorem len_iL (ns : List Int) : lenT (.tup (iL ns)) = ns.length := by simp [lenT]
theorem odd_nolot : ∀ x ∈ odds, isLot x = false := by
  intro x hx
  simp only [odds, List.mem_cons, List.not_mem_nil, or_false] at hx
  rcases hx with rfl | rfl | rfl | rfl | rfl | rfl | rfl | rfl | rfl | rfl | rfl | rfl | rfl | rfl | rfl | rfl | rfl <;> decide
/-! ### the defs together -/
section
variable {ι : Type}
structure Lots (P : ι → Fn ι) where
  wh : ι
  aw : ι
  il : ι
  nl : ι
  n2 : ι
  cm : ι
  hw : P wh = wholeFn
  ha : P aw = weightsFn wh
  hi : P il = isLotFn aw
  hn : P nl = needLotFn il
  h2 : P n2 = needTwoFn nl
  hc : P cm = gcdFn .gt
variable {P : ι → Fn ι} (L : Lots P)
theorem Lots.isLot (d : Nat) {x : D} (h : Shrt x) (m : MH) : run P (d + 3) L.il [x] m = .ok (.bl (isLot x)) m := run_isLot L.hi L.ha L.hw d h m
theorem Lots.need (d : Nat) {x : D} (h : Shrt x) (m : MH) : run P (d + 4) L.nl [x] m = if Fw.isLot x then .ok .non m else .exc noLot m := run_needLot L.hn (L.isLot d h) m
theorem Lots.two (d : Nat) {x y : D} (h : Shrt x) (k : Shrt y) (m : MH) : run P (d + 5) L.n2 [x, y] m = if Fw.isLot x && Fw.isLot y then (if lenT x = lenT y then .ok .non m else .exc unlike m) else .exc noLot m := run_needTwo L.h2 (L.need d h) (L.need d k) m
structure Leasts (L : Lots P) where
  co : ι
  lo : ι
  al : ι
  hco : P co = commonOfFn L.cm
  hlo : P lo = leastOfFn co
  hal : P al = alikeFn L.n2 lo
theorem Leasts.least (K : Leasts L) (d : Nat) {ns : List Int} {B : Int} (h : Wts B ns) (hB : B ≤ 2 ^ 1000) (hl : ns.length ≤ 16777216) (m : MH) : run P (d + 3) K.lo [.tup (iL ns)] m = .ok (.tup (iL (leastL ns))) m :=
  run_leastOf K.hlo (fun ns m => run_commonOf K.hco (.inl rfl) L.hc d ns m) h hB hl m
theorem Leasts.alike (K : Leasts L) (d : Nat) {ns ms : List Int} (t : Two ns ms) (l1 : isLot (.tup (iL ns)) = true) (l2 : isLot (.tup (iL ms)) = true) (m : MH) : run P (d + 6) K.al [.tup (iL ns), .tup (iL ms)] m = .ok (.bl (decide (leastL ns = leastL ms))) m := by
  have ll := t.len
  have l25 := t.l25
  obtain ⟨_, _, c⟩ := run_alike (P := P) K.hal (L.two d (th_shrt (t.h1.th (by omega))) (th_shrt (t.h2.th (by omega)))) m
  exact c ns ms (by rw [l1, l2]; rfl) (by rw [len_iL, len_iL, ll]) (K.least L (d + 2) t.h1 bB (by omega)) (K.least L (d + 2) t.h2 bB (by omega))
structure Aparts (L : Lots P) where
  pl : ι
  br : ι
  mo : ι
  ao : ι
  ap : ι
  hpl : P pl = plainFn L.cm
  hbr : P br = broughtFn L.cm
  hmo : P mo = moreFn
  hao : P ao = apartOfFn br pl mo
  hap : P ap = apartFn L.n2 ao
theorem apD_bd (ns ms : List Int) : (apD ns ms).bd 0 = true := rfl
theorem Aparts.ok (A : Aparts L) (d : Nat) {ns ms : List Int} (t : Two ns ms) (l1 : isLot (.tup (iL ns)) = true) (l2 : isLot (.tup (iL ms)) = true) (m : MH) : run P (d + 6) A.ap [.tup (iL ns), .tup (iL ms)] m = .ok (apD ns ms) m := by
  have ll := t.len
  have l25 := t.l25
  obtain ⟨_, _, c⟩ := run_apart (P := P) A.hap (L.two d (th_shrt (t.h1.th (by omega))) (th_shrt (t.h2.th (by omega)))) m
  exact c _ (by rw [l1, l2]; rfl) (by rw [len_iL, len_iL, ll]) rfl (run_apartOf (.inl rfl) A.hao A.hbr A.hpl A.hmo L.hc (d + 2) t)
theorem Aparts.no (A : Aparts L) (d : Nat) {x y : D} (hx : Shrt x) (hy : Shrt y) (m : MH) : ((Fw.isLot x && Fw.isLot y) = false → run P (d + 6) A.ap [x, y] m = .exc noLot m) ∧ ((Fw.isLot x && Fw.isLot y) = true → lenT x ≠ lenT y → run P (d + 6) A.ap [x, y] m = .exc unlike m) := by
  obtain ⟨a, b, _⟩ := run_apart (P := P) A.hap (L.two d hx hy) m
  exact ⟨a, b⟩
end
/-! ### how far apart is shown -/
theorem ap_nn {ns ms : List Int} (t : Two ns ms) : 0 ≤ apA ns ms ∧ apA ns ms < 2 ^ 1000 ∧ 0 < apB ns ms ∧ apB ns ms < 2 ^ 1000 := by
  obtain ⟨o1, o2, o3⟩ := t.one
  obtain ⟨l1, l2⟩ := t.lens
  obtain ⟨n1, n2⟩ := t.nn
  have g := gcd_pos (x := moreL (mineL ns ms) (yoursL ns ms)) o2
  have m0 := moreL_nn (mineL ns ms) (yoursL ns ms)
  have m1 := moreL_le (mineL ns ms) (yoursL ns ms) (by rw [l1, l2]) n1 n2
  have b := big_lt
  unfold apA apB plA plB
  refine ⟨Int.ediv_nonneg m0 (by omega), ?_, plB_pos o2, ?_⟩
  · refine Int.lt_of_le_of_lt (Int.ediv_le_self _ m0) (Int.lt_of_le_of_lt m1 (Int.lt_of_le_of_lt o3 b))
  · exact Int.lt_of_le_of_lt (Int.ediv_le_self _ (by omega)) (Int.lt_of_le_of_lt o3 b)
theorem natAbs_pow {x : Int} (h0 : 0 ≤ x) (h : x < 2 ^ 1000) : x.natAbs < 2 ^ 1000 := natAbs_lt h0 h
theorem ap_repr {ns ms : List Int} (t : Two ns ms) : ∃ s, ∀ m, reprD m (apD ns ms) = some s := by
  obtain ⟨a, b, c, d⟩ := ap_nn t
  refine fine_repr (l := false) (c := false) (B := 2 ^ 1000) ?_ rfl (Nat.le_refl _) (by simp [apD, dp, dpL]) (by simp [apD, rm, rmL])
  have h1 := natAbs_pow a b
  have h2 := natAbs_pow (Int.le_of_lt c) d
  unfold apD
  simp only [fine, fineL, h1, h2, decide_true, Bool.and_self]
theorem eq_ap (m : MH) (a b c d : Int) : eqD m (.tup [.int a, .int b]) (.tup [.int c, .int d]) = some (decide (a = c ∧ b = d)) := by
  have := eqD_ints (m := m) [a, b] [c, d]
  have e : decide ([a, b] = [c, d]) = decide (a = c ∧ b = d) := by simp
  rw [← e]
  exact this
/-! ### tuples of numbers put together -/
theorem rep_iL (a : Int) (k : Nat) : (List.replicate k [D.int a]).flatten = iL (List.replicate k a) := by
  induction k with
  | zero => rfl
  | succ k ih => simp only [List.replicate_succ, List.flatten_cons, ih, iL, List.map_cons]; rfl
theorem mul_i {m : MH} {a : Int} {k : Nat} (h1 : 1 ≤ k) (h2 : k ≤ 1000) : arith .mul (.tup [.int a]) (.int (k : Nat)) m = .ok (.tup (iL (List.replicate k a))) m := by
  have h : (1 ≤ ((k : Nat) : Int) ∧ ((k : Nat) : Int) ≤ 1000) ∧ [D.int a].length ≤ 1000 := ⟨⟨by omega, by omega⟩, by simp⟩
  have e : ((k : Nat) : Int).toNat = k := by omega
  show Res.of (seqOp .mul (.tup [.int a]) (.int (k : Nat)) m) m = _
  simp only [seqOp]
  rw [if_pos h, e, rep_iL]
  rfl
theorem cat_i {m : MH} {xs ys : List Int} (h : xs.length + ys.length ≤ 16777216) : arith .add (.tup (iL xs)) (.tup (iL ys)) m = .ok (.tup (iL (xs ++ ys))) m := by
  rw [tup_cat (by simpa using h)]
  simp only [iL, List.map_append]
theorem cut_toI {xs : List Int} {k : Nat} (h : k ≤ xs.length) : cut (iL xs) none (some (k : Int)) = iL (xs.take k) := by
  rw [cut_to (by simpa using h)]
  simp only [iL, List.map_take]
theorem cut_fromI {xs : List Int} {k : Nat} (h : k ≤ xs.length) : cut (iL xs) (some (k : Int)) none = iL (xs.drop k) := by
  rw [cut_from (by simpa using h)]
  simp only [iL, List.map_drop]
theorem at_i {m : MH} {xs : List Int} {k : Nat} (h : k < xs.length) : getAt m (.tup (iL xs)) (.int (k : Int)) = some (.int xs[k]) := by
  have h' : k < (iL xs).length := by simpa using h
  simp only [getAt, seqOf, Option.bind_some, place_nat h']
  rw [List.getElem?_map, List.getElem?_eq_getElem h]
  rfl
theorem Wts.of {B : Int} {ns : List Int} (h : ∀ n ∈ ns, 0 ≤ n ∧ n < B) {n : Int} (hn : n ∈ ns) (hp : 0 < n) : Wts B ns := ⟨fun n hn => (h n hn).1, fun n hn => (h n hn).2, sum_pos (fun n hn => (h n hn).1) hn hp⟩
theorem items_const {ι : Type} {call : ι → List D → MH → Res D} {t : T ι} {b : S ι} {m : MH} (I : Env → Prop) : ∀ {xs : List D}, (∀ x ∈ xs, ∀ v, I v → ∃ v1, (tgt call t).g x v m = .ok v1 m ∧ ∃ v2, exec call b v1 m = .ok (.nx v2) m ∧ I v2) → ∀ v, I v → ∃ v2, loop call t b (.items xs) v m = .ok (.nx v2) m ∧ I v2
  | [], _, v, hv => ⟨v, rfl, hv⟩
  | x :: xs, hs, v, hv => by
    obtain ⟨v1, e1, v2, e2, hv2⟩ := hs x List.mem_cons_self v hv
    obtain ⟨v3, e3, hv3⟩ := items_const I (fun y hy => hs y (List.mem_cons_of_mem _ hy)) v2 hv2
    refine ⟨v3, ?_, hv3⟩
    rw [loop_cons, e1, Res.tg_ok, e2, Res.then_nx, e3]
end Fw

set_option Elab.async false
set_option linter.all false
set_option autoImplicit false
/-! ## Fw24m: tables filled by rows' and columns' sums, in plain numbers -/
namespace Fw
/-- a number of a row, a row of a table; 0, none beyond -/
def gI (r : List Int) (k : Nat) : Int := (r[k]?).getD 0
def gR (J : List (List Int)) (x : Nat) : List Int := (J[x]?).getD []
def rs (J : List (List Int)) (x : Nat) : Int := (gR J x).sum
def col (J : List (List Int)) (y : Nat) : Int := (J.map fun r => gI r y).sum
def sumR (n : Nat) (f : Nat → Int) : Int := ((List.range n).map f).sum
theorem gI_get {r : List Int} {k : Nat} (h : k < r.length) : gI r k = r[k] := by simp [gI, h]
theorem gR_get {J : List (List Int)} {x : Nat} (h : x < J.length) : gR J x = J[x] := by simp [gR, h]
theorem gI_mem {r : List Int} {k : Nat} (h : k < r.length) : gI r k ∈ r := by rw [gI_get h]; exact List.getElem_mem h
theorem gR_mem {J : List (List Int)} {k : Nat} (h : k < J.length) : gR J k ∈ J := by rw [gR_get h]; exact List.getElem_mem h
theorem gI_set {r : List Int} {k j : Nat} {v : Int} (h : k < r.length) : gI (r.set k v) j = if j = k then v else gI r j := by
  unfold gI
  rw [List.getElem?_set]
  by_cases e : k = j
  · subst e; simp [h]
  · have e' : ¬ j = k := fun q => e q.symm
    simp [e, e']
theorem gR_set {J : List (List Int)} {k j : Nat} {v : List Int} (h : k < J.length) : gR (J.set k v) j = if j = k then v else gR J j := by
  unfold gR
  rw [List.getElem?_set]
  by_cases e : k = j
  · subst e; simp [h]
  · have e' : ¬ j = k := fun q => e q.symm
    simp [e, e']
theorem sum_set : ∀ {r : List Int} {k : Nat} {v : Int}, k < r.length → (r.set k v).sum = r.sum - gI r k + v
  | x :: r, 0, v, _ => by simp [gI]; omega
  | x :: r, k + 1, v, h => by
    have := sum_set (r := r) (k := k) (v := v) (by simpa using h)
    simp only [List.set_cons_succ, List.sum_cons, this]
    simp only [gI, List.getElem?_cons_succ]
    omega
theorem map_gI (r : List Int) : (List.range r.length).map (gI r) = r := by
  refine List.ext_getElem (by simp) fun i h1 h2 => ?_
  simp only [List.getElem_map, List.getElem_range]
  exact gI_get h2
theorem sum_R {r : List Int} {n : Nat} (h : r.length = n) : r.sum = sumR n (gI r) := by
  subst h
  unfold sumR
  rw [map_gI]
theorem sumR_succ (n : Nat) (f : Nat → Int) : sumR (n + 1) f = sumR n f + f n := by
  unfold sumR
  rw [List.range_succ]
  simp
theorem sumR_congr {n : Nat} {f g : Nat → Int} (h : ∀ x, x < n → f x = g x) : sumR n f = sumR n g := by
  unfold sumR
  congr 1
  exact List.map_congr_left fun x hx => h x (List.mem_range.mp hx)
theorem sumR_add (n : Nat) (f g : Nat → Int) : sumR n (fun x => f x + g x) = sumR n f + sumR n g := by
  induction n with
  | zero => rfl
  | succ n ih => rw [sumR_succ, sumR_succ, sumR_succ, ih]; omega
theorem sumR_sub (n : Nat) (f g : Nat → Int) : sumR n (fun x => f x - g x) = sumR n f - sumR n g := by
  induction n with
  | zero => rfl
  | succ n ih => rw [sumR_succ, sumR_succ, sumR_succ, ih]; omega
theorem sumR_nn {n : Nat} {f : Nat → Int} (h : ∀ x, x < n → 0 ≤ f x) : 0 ≤ sumR n f ∧ ∀ x, x < n → f x ≤ sumR n f := by
  induction n with
  | zero => exact ⟨Int.le_refl _, fun x hx => absurd hx (by omega)⟩
  | succ n ih =>
    obtain ⟨a, b⟩ := ih fun x hx => h x (by omega)
    have := h n (by omega)
    rw [sumR_succ]
    refine ⟨by omega, fun x hx => ?_⟩
    by_cases e : x = n
    · subst e; omega
    · have := b x (by omega); omega
theorem sumR_le {n : Nat} {f g : Nat → Int} (h : ∀ x, x < n → f x ≤ g x) : sumR n f ≤ sumR n g := by
  have := (sumR_nn (n := n) (f := fun x => g x - f x) fun x hx => by have := h x hx; omega).1
  rw [sumR_sub] at this
  omega
theorem sumR_zero {n : Nat} {f : Nat → Int} (h : ∀ x, x < n → f x = 0) : sumR n f = 0 := by
  rw [sumR_congr h]
  induction n with
  | zero => rfl
  | succ n ih => rw [sumR_succ, ih fun x hx => h x (by omega)]; rfl
theorem gI_le {r : List Int} (h : ∀ v ∈ r, 0 ≤ v) (k : Nat) : 0 ≤ gI r k ∧ gI r k ≤ r.sum := by
  have hn : ∀ x, x < r.length → 0 ≤ gI r x := fun x hx => h _ (gI_mem hx)
  obtain ⟨a, b⟩ := sumR_nn hn
  rw [← sum_R rfl] at a b
  by_cases hk : k < r.length
  · exact ⟨hn k hk, b k hk⟩
  · have : gI r k = 0 := by simp [gI, List.getElem?_eq_none (by omega : r.length ≤ k)]
    rw [this]
    exact ⟨Int.le_refl _, a⟩
theorem gI_map (f : List Int → Int) (J : List (List Int)) (x : Nat) (h : x < J.length) : gI (J.map f) x = f (gR J x) := by
  rw [gI_get (by simpa using h), gR_get h]
  simp
theorem col_set {J : List (List Int)} {x y : Nat} {r : List Int} (h : x < J.length) : col (J.set x r) y = col J y - gI (gR J x) y + gI r y := by
  unfold col
  rw [List.map_set, sum_set (by simpa using h), gI_map _ J x h]
/-- all numbers of a table, by rows and by columns -/
theorem dbl (n : Nat) : ∀ (J : List (List Int)), (∀ r ∈ J, r.length = n) → (J.map List.sum).sum = sumR n (col J)
  | [], _ => by
    rw [sumR_zero fun x _ => by simp [col]]
    simp
  | r :: J, h => by
    have ih := dbl n J fun q hq => h q (List.mem_cons_of_mem _ hq)
    rw [List.map_cons, List.sum_cons, ih, sum_R (h r List.mem_cons_self), ← sumR_add]
    exact sumR_congr fun x _ => by simp [col]
theorem rows_sum {n : Nat} {J : List (List Int)} (h : J.length = n) : (J.map List.sum).sum = sumR n (rs J) := by
  rw [sum_R (n := n) (by simpa using h)]
  exact sumR_congr fun x hx => by rw [gI_map _ J x (by omega)]; rfl
/-- a table that is being filled: rows to A, columns to B, L what columns lack -/
structure Fil (n : Nat) (A B : List Int) (J : List (List Int)) (L : List Int) : Prop where
  ja : J.length = n
  jr : ∀ r ∈ J, r.length = n
  jn : ∀ r ∈ J, ∀ v ∈ r, 0 ≤ v
  la : L.length = n
  ln : ∀ v ∈ L, 0 ≤ v
  row : ∀ x, x < n → rs J x ≤ gI A x
  cl : ∀ y, y < n → col J y + gI L y = gI B y
def don (A : List Int) (J : List (List Int)) (L : List Int) (x y : Nat) : Prop := gI A x = rs J x ∨ gI L y = 0
/-- what goes to a place -/
def gone (A : List Int) (J : List (List Int)) (L : List Int) (x y : Nat) : Int := mn (gI A x - rs J x) (gI L y)
def stepJ (A : List Int) (J : List (List Int)) (L : List Int) (x y : Nat) : List (List Int) := J.set x ((gR J x).set y (gI (gR J x) y + gone A J L x y))
def stepL (A : List Int) (J : List (List Int)) (L : List Int) (x y : Nat) : List Int := L.set y (gI L y - gone A J L x y)
section
variable {n : Nat} {A B L : List Int} {J : List (List Int)} (F : Fil n A B J L)
include F
theorem Fil.len {x : Nat} (hx : x < n) : (gR J x).length = n := F.jr _ (gR_mem (by rw [F.ja]; exact hx))
theorem Fil.nn {x : Nat} (hx : x < n) : ∀ v ∈ gR J x, 0 ≤ v := F.jn _ (gR_mem (by rw [F.ja]; exact hx))
theorem Fil.gon {x y : Nat} (hx : x < n) (hy : y < n) : 0 ≤ gone A J L x y ∧ gone A J L x y ≤ gI A x - rs J x ∧ gone A J L x y ≤ gI L y ∧ (gone A J L x y = gI A x - rs J x ∨ gone A J L x y = gI L y) := by
  have h1 := F.row x hx
  have h2 := F.ln _ (gI_mem (r := L) (k := y) (by rw [F.la]; exact hy))
  unfold gone mn
  split <;> omega
theorem Fil.rsS {x y x' : Nat} (hx : x < n) (hy : y < n) : rs (stepJ A J L x y) x' = if x' = x then rs J x + gone A J L x y else rs J x' := by
  unfold rs stepJ
  rw [gR_set (by rw [F.ja]; exact hx)]
  split
  · rw [sum_set (by rw [F.len hx]; exact hy)]
    omega
  · rfl
theorem Fil.gLS {x y y' : Nat} (hy : y < n) : gI (stepL A J L x y) y' = if y' = y then gI L y - gone A J L x y else gI L y' := gI_set (by rw [F.la]; exact hy)
theorem Fil.step {x y : Nat} (hx : x < n) (hy : y < n) : Fil n A B (stepJ A J L x y) (stepL A J L x y) := by
  obtain ⟨g1, g2, g3, _⟩ := F.gon hx hy
  have xl : x < J.length := by rw [F.ja]; exact hx
  refine ⟨by simp [stepJ, F.ja], ?_, ?_, by simp [stepL, F.la], ?_, ?_, ?_⟩
  · intro r hr
    rcases List.mem_or_eq_of_mem_set hr with q | rfl
    · exact F.jr r q
    · simp [F.len hx]
  · intro r hr v hv
    rcases List.mem_or_eq_of_mem_set hr with q | rfl
    · exact F.jn r q v hv
    · rcases List.mem_or_eq_of_mem_set hv with q | rfl
      · exact F.nn hx v q
      · have := (gI_le (F.nn hx) y).1
        omega
  · intro v hv
    rcases List.mem_or_eq_of_mem_set hv with q | rfl
    · exact F.ln v q
    · omega
  · intro x' hx'
    rw [F.rsS hx hy]
    split
    · rename_i e; subst e; omega
    · exact F.row x' hx'
  · intro y' hy'
    unfold stepJ
    rw [col_set xl, gI_set (by rw [F.len hx]; exact hy), F.gLS hy]
    have := F.cl y' hy'
    split
    · rename_i e; subst e; omega
    · omega
theorem Fil.don_step {x y x' y' : Nat} (hx : x < n) (hy : y < n) (h : don A J L x' y') : don A (stepJ A J L x y) (stepL A J L x y) x' y' := by
  obtain ⟨g1, g2, g3, _⟩ := F.gon hx hy
  unfold don at h ⊢
  rw [F.rsS hx hy, F.gLS hy]
  rcases h with h | h
  · left
    split
    · rename_i e; subst e; omega
    · exact h
  · right
    split
    · rename_i e; subst e; omega
    · exact h
theorem Fil.don_now {x y : Nat} (hx : x < n) (hy : y < n) : don A (stepJ A J L x y) (stepL A J L x y) x y := by
  obtain ⟨g1, g2, g3, g4⟩ := F.gon hx hy
  unfold don
  rw [F.rsS hx hy, F.gLS hy, if_pos rfl, if_pos rfl]
  omega
theorem Fil.all (la : A.length = n) (lb : B.length = n) (hs : A.sum = B.sum) (h : ∀ x y, x < n → y < n → don A J L x y) : (∀ x, x < n → rs J x = gI A x) ∧ ∀ y, y < n → gI L y = 0 := by
  have e1 : sumR n (fun x => gI A x - rs J x) = sumR n (gI L) := by
    rw [sumR_sub, ← sum_R la, ← rows_sum F.ja, dbl n J F.jr, hs, sum_R lb]
    rw [sumR_congr (f := gI B) (g := fun y => col J y + gI L y) fun y hy => (F.cl y hy).symm, sumR_add]
    omega
  have n1 : ∀ x, x < n → 0 ≤ gI A x - rs J x := fun x hx => by have := F.row x hx; omega
  have n2 : ∀ y, y < n → 0 ≤ gI L y := fun y hy => F.ln _ (gI_mem (by rw [F.la]; exact hy))
  obtain ⟨a1, a2⟩ := sumR_nn n1
  obtain ⟨b1, b2⟩ := sumR_nn n2
  have key : ∀ x, x < n → rs J x = gI A x := by
    intro x hx
    apply Classical.byContradiction
    intro hne
    have z : ∀ y, y < n → gI L y = 0 := fun y hy => (h x y hx hy).resolve_left fun e => hne e.symm
    have := sumR_zero z
    have := a2 x hx
    have := n1 x hx
    omega
  refine ⟨key, fun y hy => ?_⟩
  have z : sumR n (fun x => gI A x - rs J x) = 0 := sumR_zero fun x hx => by rw [key x hx]; omega
  have := b2 y hy
  have := n2 y hy
  omega
theorem Fil.dia {x : Nat} (hx : x < n) : gI (gR J x) x ≤ mn (gI A x) (gI B x) := by
  have h1 := (gI_le (F.nn hx) x).2
  have h2 := F.row x hx
  have h3 := F.cl x hx
  have h4 := F.ln _ (gI_mem (r := L) (k := x) (by rw [F.la]; exact hx))
  have h5 : gI (gR J x) x ≤ col J x := by
    have q := (gI_le (r := J.map fun r => gI r x) (fun v hv => by
      obtain ⟨r, hr, rfl⟩ := List.mem_map.mp hv
      exact (gI_le (F.jn r hr) x).1) x).2
    rw [gI_map _ J x (by rw [F.ja]; exact hx)] at q
    exact q
  unfold rs at h2
  unfold mn
  split <;> omega
theorem Fil.diaS {x y : Nat} (hx : x < n) (hy : y < n) (x' : Nat) : gI (gR J x') x' ≤ gI (gR (stepJ A J L x y) x') x' := by
  obtain ⟨g1, _⟩ := F.gon hx hy
  unfold stepJ
  rw [gR_set (by rw [F.ja]; exact hx)]
  split
  · rename_i e
    subst e
    rw [gI_set (by rw [F.len hx]; exact hy)]
    split
    · rename_i e2; subst e2; omega
    · omega
  · omega
end
/-- what stands off the diagonal -/
def prt (n : Nat) (J : List (List Int)) : Int := sumR n fun x => rs J x - gI (gR J x) x
theorem mx_mn (a b : Int) : mx (a - b) = a - mn a b := by unfold mx mn; split <;> split <;> omega
theorem moreL_R {n : Nat} : ∀ {A B : List Int}, A.length = n → B.length = n → moreL A B = sumR n fun x => mx (gI A x - gI B x) := by
  intro A B ha hb
  unfold moreL
  rw [sum_R (n := n) (by simp [ha, hb])]
  refine sumR_congr fun x hx => ?_
  rw [gI_get (by simp [ha, hb]; exact hx), gI_get (by omega), gI_get (by omega)]
  simp
theorem prt_ge {n : Nat} {A B L : List Int} {J : List (List Int)} (F : Fil n A B J L) (la : A.length = n) (lb : B.length = n) (h : ∀ x, x < n → rs J x = gI A x) : moreL A B ≤ prt n J := by
  rw [moreL_R la lb]
  refine sumR_le fun x hx => ?_
  rw [mx_mn, h x hx]
  have := F.dia hx
  omega
theorem prt_eq {n : Nat} {A B L : List Int} {J : List (List Int)} (F : Fil n A B J L) (la : A.length = n) (lb : B.length = n) (h : ∀ x, x < n → rs J x = gI A x) (hd : ∀ x, x < n → mn (gI A x) (gI B x) ≤ gI (gR J x) x) : prt n J = moreL A B := by
  rw [moreL_R la lb]
  refine sumR_congr fun x hx => ?_
  rw [mx_mn, h x hx]
  have := F.dia hx
  have := hd x hx
  omega
/-! ### the diagonal first -/
def uRow (n k : Nat) (v : Int) : List Int := (List.replicate n 0).set k v
theorem gI_rep (n k : Nat) : gI (List.replicate n 0) k = 0 := by
  unfold gI
  rw [List.getElem?_replicate]
  split <;> rfl
theorem sum_rep (n : Nat) : (List.replicate n (0 : Int)).sum = 0 := by
  induction n with
  | zero => rfl
  | succ n ih => rw [List.replicate_succ, List.sum_cons, ih]; rfl
theorem gI_u {n k : Nat} {v : Int} (h : k < n) (j : Nat) : gI (uRow n k v) j = if j = k then v else 0 := by
  unfold uRow
  rw [gI_set (by simpa using h), gI_rep]
theorem sum_u {n k : Nat} {v : Int} (h : k < n) : (uRow n k v).sum = v := by
  unfold uRow
  rw [sum_set (by simpa using h), sum_rep, gI_rep]
  omega
/-- the first k rows with their diagonal, the others empty -/
def dJ (n : Nat) (A B : List Int) (k : Nat) : List (List Int) := (List.range n).map fun x => if x < k then uRow n x (mn (gI A x) (gI B x)) else List.replicate n 0
theorem gR_dJ {n k x : Nat} {A B : List Int} (hx : x < n) : gR (dJ n A B k) x = if x < k then uRow n x (mn (gI A x) (gI B x)) else List.replicate n 0 := by
  rw [gR_get (by simpa [dJ] using hx)]
  simp [dJ]
theorem dJ_set {n k : Nat} {A B : List Int} (hk : k < n) : (dJ n A B k).set k ((gR (dJ n A B k) k).set k (mn (gI A k) (gI B k))) = dJ n A B (k + 1) := by
  rw [gR_dJ hk, if_neg (by omega)]
  refine List.ext_getElem (by simp [dJ]) fun i h1 h2 => ?_
  have hi : i < n := by simpa [dJ] using h2
  rw [List.getElem_set]
  simp only [dJ, List.getElem_map, List.getElem_range]
  by_cases e : k = i
  · subst e
    simp [uRow]
  · rw [if_neg e]
    by_cases h3 : i < k
    · rw [if_pos h3, if_pos (by omega)]
    · rw [if_neg h3, if_neg (by omega)]
theorem sumR_one {n k : Nat} {v : Int} (hk : k < n) : sumR n (fun x => if x = k then v else 0) = v := by
  induction n with
  | zero => omega
  | succ n ih =>
    rw [sumR_succ]
    by_cases e : k = n
    · subst e
      rw [sumR_zero fun x hx => by rw [if_neg (by omega)]]
      simp
    · rw [ih (by omega), if_neg (by omega)]
      omega
theorem col_d {n : Nat} {A B : List Int} {y : Nat} (hy : y < n) : col (dJ n A B n) y = mn (gI A y) (gI B y) := by
  unfold col
  rw [sum_R (n := n) (by simp [dJ])]
  rw [← sumR_one (v := mn (gI A y) (gI B y)) hy]
  refine sumR_congr fun x hx => ?_
  rw [gI_map _ _ _ (by simpa [dJ] using hx), gR_dJ hx, if_pos hx, gI_u hx]
  by_cases e : y = x
  · subst e; simp
  · have e' : ¬ x = y := fun q => e q.symm
    simp [e, e']
def dL (n : Nat) (A B : List Int) (k : Nat) : List Int := (List.range k).map fun x => gI B x - mn (gI A x) (gI B x)
theorem Fil.start {n : Nat} {A B : List Int} (la : A.length = n) (lb : B.length = n) (na : ∀ v ∈ A, 0 ≤ v) (nb : ∀ v ∈ B, 0 ≤ v) : Fil n A B (dJ n A B n) (dL n A B n) := by
  have m0 : ∀ x, 0 ≤ mn (gI A x) (gI B x) ∧ mn (gI A x) (gI B x) ≤ gI A x ∧ mn (gI A x) (gI B x) ≤ gI B x := fun x => by
    have := (gI_le na x).1
    have := (gI_le nb x).1
    unfold mn
    split <;> omega
  refine ⟨by simp [dJ], ?_, ?_, by simp [dL], ?_, ?_, ?_⟩
  · intro r hr
    obtain ⟨x, hx, rfl⟩ := List.mem_map.mp hr
    split <;> simp [uRow]
  · intro r hr v hv
    obtain ⟨x, hx, rfl⟩ := List.mem_map.mp hr
    split at hv
    · rcases List.mem_or_eq_of_mem_set hv with q | rfl
      · rw [List.eq_of_mem_replicate q]; omega
      · exact (m0 x).1
    · rw [List.eq_of_mem_replicate hv]; omega
  · intro v hv
    obtain ⟨x, hx, rfl⟩ := List.mem_map.mp hv
    have := m0 x
    omega
  · intro x hx
    unfold rs
    rw [gR_dJ hx, if_pos hx, sum_u hx]
    exact (m0 x).2.1
  · intro y hy
    rw [col_d hy]
    have : gI (dL n A B n) y = gI B y - mn (gI A y) (gI B y) := by
      rw [gI_get (by simpa [dL] using hy)]
      simp [dL]
    rw [this]
    omega
/-! ### an empty table -/
theorem Fil.zero {n : Nat} {A B : List Int} (lb : B.length = n) (na : ∀ v ∈ A, 0 ≤ v) (nb : ∀ v ∈ B, 0 ≤ v) : Fil n A B (List.replicate n (List.replicate n 0)) B := by
  have hg : ∀ x, x < n → gR (List.replicate n (List.replicate n 0)) x = List.replicate n 0 := fun x hx => by
    rw [gR_get (by simpa using hx)]
    simp
  refine ⟨by simp, fun r hr => by rw [List.eq_of_mem_replicate hr]; simp, fun r hr v hv => ?_, lb, nb, fun x hx => ?_, fun y hy => ?_⟩
  · rw [List.eq_of_mem_replicate hr] at hv
    rw [List.eq_of_mem_replicate hv]
    omega
  · unfold rs
    rw [hg x hx, sum_rep]
    exact (gI_le na x).1
  · have : col (List.replicate n (List.replicate n 0)) y = 0 := by
      unfold col
      rw [sum_R (n := n) (by simp), sumR_zero]
      intro x hx
      rw [gI_map _ _ _ (by simpa using hx), hg x hx, gI_rep]
    omega
/-! ### sets of places -/
def setsL : Nat → List (List Nat)
  | 0 => [[]]
  | k + 1 => setsL k ++ (setsL k).map (· ++ [k])
theorem setsL_sub : ∀ (n : Nat) (s : List Nat), s ∈ setsL n → s.Sublist (List.range n)
  | 0, s, h => by simp only [setsL, List.mem_singleton] at h; subst h; simp
  | n + 1, s, h => by
    rw [List.range_succ]
    simp only [setsL, List.mem_append, List.mem_map] at h
    rcases h with h | ⟨t, ht, rfl⟩
    · exact (setsL_sub n s h).trans (List.sublist_append_left _ _)
    · exact (setsL_sub n t ht).append (List.Sublist.refl _)
theorem setsL_filter (p : Nat → Bool) : ∀ n : Nat, (List.range n).filter p ∈ setsL n
  | 0 => by simp [setsL]
  | n + 1 => by
    have ih := setsL_filter p n
    rw [List.range_succ, List.filter_append]
    simp only [setsL, List.mem_append, List.mem_map]
    cases hp : p n with
    | false => left; simpa [hp] using ih
    | true => right; exact ⟨_, ih, by simp [hp]⟩
theorem setsL_len : ∀ n : Nat, (setsL n).length = 2 ^ n
  | 0 => rfl
  | n + 1 => by simp [setsL, setsL_len n, Nat.pow_succ]; omega
def exc (A B : List Int) (s : List Nat) : Int := (s.map fun p => gI A p - gI B p).sum
theorem sub_sum {f : Nat → Int} (hf : ∀ x, 0 ≤ f x) : ∀ {s t : List Nat}, s.Sublist t → (s.map f).sum ≤ (t.map f).sum := by
  intro s t h
  induction h with
  | slnil => simp
  | cons a h ih => rw [List.map_cons, List.sum_cons]; have := hf a; omega
  | cons_cons a h ih => rw [List.map_cons, List.map_cons, List.sum_cons, List.sum_cons]; omega
theorem exc_le {n : Nat} {A B : List Int} (la : A.length = n) (lb : B.length = n) {s : List Nat} (h : s.Sublist (List.range n)) : exc A B s ≤ moreL A B := by
  rw [moreL_R la lb]
  refine Int.le_trans ?_ (sub_sum (fun x => mx_nn _) h)
  unfold exc
  clear h
  induction s with
  | nil => simp
  | cons a s ih =>
    rw [List.map_cons, List.map_cons, List.sum_cons, List.sum_cons]
    have : gI A a - gI B a ≤ mx (gI A a - gI B a) := by unfold mx; split <;> omega
    omega
/-- the places where the first has more -/
def moreP (n : Nat) (A B : List Int) : List Nat := (List.range n).filter fun x => decide (gI B x < gI A x)
theorem exc_more {n : Nat} {A B : List Int} (la : A.length = n) (lb : B.length = n) : exc A B (moreP n A B) = moreL A B := by
  rw [moreL_R la lb]
  unfold exc moreP sumR
  generalize List.range n = xs
  induction xs with
  | nil => rfl
  | cons x xs ih =>
    rw [List.map_cons, List.sum_cons, ← ih, List.filter_cons]
    by_cases h : gI B x < gI A x
    · have : mx (gI A x - gI B x) = gI A x - gI B x := by unfold mx; split <;> omega
      simp [h, this]
    · have : mx (gI A x - gI B x) = 0 := by unfold mx; split <;> omega
      simp [h, this]
end Fw

set_option Elab.async false
set_option linter.all false
set_option maxRecDepth 100000
set_option maxHeartbeats 2000000
set_option autoImplicit false
/-! ## Fw24: comprehensions, loops by number; joinings -/
namespace Fw
open PySem
section
variable {ι : Type} {call : ι → List D → MH → Res D}
/-- a comprehension's turns by number, in a state that stays -/
theorem lc_R {tg : D → Env → Option Env} {c : Env → MH → Res Bool} {e : Env → MH → Res D} {v : Env} {m : MH} {w : Wk} (all : List D) (hw : ∀ i, stepW w i m = some all[i]?) (p : Nat → Bool) (g : Nat → D) (u : Nat → Env)
    (h : ∀ i (hi : i < all.length), tg all[i] v = some (u i) ∧ c (u i) m = .ok (p i) m ∧ (p i = true → e (u i) m = .ok (g i) m)) : ∀ k i, i ≤ all.length → k = all.length - i + 1 → lcW tg c e v w k i m = .ok (((List.range' i (all.length - i)).filter p).map g) m := by
  intro k
  induction k with
  | zero => intro i _ hk; omega
  | succ k ih =>
    intro i hi hk
    by_cases hlt : i < all.length
    · obtain ⟨e1, e2, e3⟩ := h i hlt
      have q := ih (i + 1) (by omega) (by omega)
      rw [show all.length - i = (all.length - (i + 1)) + 1 from by omega, List.range'_succ]
      cases hp : p i with
      | true =>
        have e3' := e3 hp
        rw [hp] at e2
        simp only [lcW, hw, List.getElem?_eq_getElem hlt, e1, e2, Res.bind_ok, if_true, e3', q, List.filter_cons, hp, List.map_cons]
      | false =>
        rw [hp] at e2
        simp only [lcW, hw, List.getElem?_eq_getElem hlt, e1, e2, Res.bind_ok, if_false, Bool.false_eq_true, q, List.filter_cons, hp]
    · have h0 : all[i]? = none := List.getElem?_eq_none (by omega)
      rw [show all.length - i = 0 from by omega]
      simp only [lcW, hw, h0, List.range'_zero, List.filter_nil, List.map_nil]
variable {v : Env} {m : MH}
theorem e_RF {own : List (Str × Nat)} {t : Pt} {it c e : E ι} {n : Nat} (f : Nat → D) (p : Nat → Bool) (g : Nat → D) (u : Nat → Env) (hc : isNil c = false) (hl : n ≤ 16777216) (h : (sem call it).w v m = .ok (.items ((List.range n).map f)) m)
    (hx : ∀ i, i < n → (ptg t).1 (f i) (wipeE v (own.map (·.2))) = some (u i) ∧ (sem call c).t (u i) m = .ok (p i) m ∧ (p i = true → (sem call e).e (u i) m = .ok (g i) m)) : (sem call (.lc false own t it c e)).e v m = .ok (.lst (((List.range n).filter p).map g)) m := by
  have hz : n ≤ sizeLine := by unfold sizeLine; omega
  rw [e_lc, h]
  have q := lc_R (tg := (ptg t).1) (c := (sem call c).t) (e := (sem call e).e) (v := wipeE v (own.map (·.2))) (m := m) (w := .items ((List.range n).map f)) ((List.range n).map f) (fun _ => rfl) p g u (fun i hi => by
    have hi' : i < n := by simpa using hi
    have := hx i hi'
    simp only [List.getElem_map, List.getElem_range]
    exact this) (n + 1) 0 (by omega) (by simp)
  simp only [List.length_map, List.length_range, Nat.sub_zero] at q
  rw [← List.range_eq_range'] at q
  simp only [Res.bind_ok, lenW, List.length_map, List.length_range, hz, if_true, q, Res.nox_ok, if_false, Bool.false_eq_true]
theorem e_R {own : List (Str × Nat)} {t : Pt} {it e : E ι} {n : Nat} (f : Nat → D) (g : Nat → D) (u : Nat → Env) (hl : n ≤ 16777216) (h : (sem call it).w v m = .ok (.items ((List.range n).map f)) m)
    (hx : ∀ i, i < n → (ptg t).1 (f i) (wipeE v (own.map (·.2))) = some (u i) ∧ (sem call e).e (u i) m = .ok (g i) m) : (sem call (.lc false own t it .nil e)).e v m = .ok (.lst ((List.range n).map g)) m := by
  have hz : n ≤ sizeLine := by unfold sizeLine; omega
  rw [e_lc, h]
  have q := lc_R (tg := (ptg t).1) (c := (sem call .nil).t) (e := (sem call e).e) (v := wipeE v (own.map (·.2))) (m := m) (w := .items ((List.range n).map f)) ((List.range n).map f) (fun _ => rfl) (fun _ => true) g u (fun i hi => by
    have hi' : i < n := by simpa using hi
    have := hx i hi'
    simp only [List.getElem_map, List.getElem_range]
    exact ⟨this.1, rfl, fun _ => this.2⟩) (n + 1) 0 (by omega) (by simp)
  simp only [List.length_map, List.length_range, Nat.sub_zero] at q
  rw [← List.range_eq_range', List.filter_eq_self.mpr fun _ _ => rfl] at q
  simp only [Res.bind_ok, lenW, List.length_map, List.length_range, hz, if_true, q, Res.nox_ok, if_false, Bool.false_eq_true]
/-- a comprehension's turns by number, the state going on -/
theorem lc_S {tg : D → Env → Option Env} {c : Env → MH → Res Bool} {e : Env → MH → Res D} {v : Env} {w : Wk} (all : List D) (μ : Nat → MH) (hw : ∀ i, i ≤ all.length → stepW w i (μ i) = some all[i]?) (g : Nat → D) (u : Nat → Env)
    (h : ∀ i (hi : i < all.length), tg all[i] v = some (u i) ∧ c (u i) (μ i) = .ok true (μ i) ∧ e (u i) (μ i) = .ok (g i) (μ (i + 1))) : ∀ k i, i ≤ all.length → k = all.length - i + 1 → lcW tg c e v w k i (μ i) = .ok ((List.range' i (all.length - i)).map g) (μ all.length) := by
  intro k
  induction k with
  | zero => intro i _ hk; omega
  | succ k ih =>
    intro i hi hk
    by_cases hlt : i < all.length
    · obtain ⟨e1, e2, e3⟩ := h i hlt
      have q := ih (i + 1) (by omega) (by omega)
      rw [show all.length - i = (all.length - (i + 1)) + 1 from by omega, List.range'_succ]
      simp only [lcW, hw i hi, List.getElem?_eq_getElem hlt, e1, e2, Res.bind_ok, if_true, e3, q, List.map_cons]
    · have h0 : all[i]? = none := List.getElem?_eq_none (by omega)
      have he : i = all.length := by omega
      rw [show all.length - i = 0 from by omega]
      simp only [lcW, hw i hi, h0, List.range'_zero, List.map_nil]
      rw [he]
theorem e_S {own : List (Str × Nat)} {t : Pt} {it e : E ι} {n : Nat} (f : Nat → D) (μ : Nat → MH) (g : Nat → D) (u : Nat → Env) {m0 m1 : MH} (h0 : μ 0 = m0) (h1 : μ n = m1) (hl : n ≤ 16777216) (h : (sem call it).w v m0 = .ok (.items ((List.range n).map f)) m0)
    (hx : ∀ i, i < n → (ptg t).1 (f i) (wipeE v (own.map (·.2))) = some (u i) ∧ (sem call e).e (u i) (μ i) = .ok (g i) (μ (i + 1))) : (sem call (.lc false own t it .nil e)).e v m0 = .ok (.lst ((List.range n).map g)) m1 := by
  subst h0
  subst h1
  have hz : n ≤ sizeLine := by unfold sizeLine; omega
  rw [e_lc, h]
  have q := lc_S (tg := (ptg t).1) (c := (sem call .nil).t) (e := (sem call e).e) (v := wipeE v (own.map (·.2))) (w := .items ((List.range n).map f)) ((List.range n).map f) μ (fun _ _ => rfl) g u (fun i hi => by
    have hi' : i < n := by simpa using hi
    have := hx i hi'
    simp only [List.getElem_map, List.getElem_range]
    exact ⟨this.1, rfl, this.2⟩) (n + 1) 0 (by omega) (by simp)
  simp only [List.length_map, List.length_range, Nat.sub_zero] at q
  rw [← List.range_eq_range'] at q
  simp only [Res.bind_ok, lenW, List.length_map, List.length_range, hz, if_true, q, Res.nox_ok, if_false, Bool.false_eq_true]
/-- a loop by number -/
theorem loop_R {t : T ι} {b : S ι} {f : Nat → D} {n : Nat} {P : Nat → Env → MH → Prop} (hs : ∀ i v m, i < n → P i v m → ∃ v1, (tgt call t).g (f i) v m = .ok v1 m ∧ ∃ v2 m2, exec call b v1 m = .ok (.nx v2) m2 ∧ P (i + 1) v2 m2) (h0 : P 0 v m) : ∃ v2 m2, loop call t b (.items ((List.range n).map f)) v m = .ok (.nx v2) m2 ∧ P n v2 m2 := by
  have key : ∀ k i v m, i + k = n → P i v m → ∃ v2 m2, loop call t b (.items ((List.range' i k).map f)) v m = .ok (.nx v2) m2 ∧ P n v2 m2 := by
    intro k
    induction k with
    | zero =>
      intro i v m hi h
      have : i = n := by omega
      subst this
      exact ⟨v, m, rfl, h⟩
    | succ k ih =>
      intro i v m hi h
      obtain ⟨v1, e1, v2, m2, e2, h2⟩ := hs i v m (by omega) h
      obtain ⟨v3, m3, e3, h3⟩ := ih (i + 1) v2 m2 (by omega) h2
      refine ⟨v3, m3, ?_, h3⟩
      rw [List.range'_succ, List.map_cons, loop_cons, e1, Res.tg_ok, e2, Res.then_nx, e3]
  rw [List.range_eq_range']
  exact key n 0 v m (by omega) h0
/-- a loop over items, what is left known -/
theorem loop_L {t : T ι} {b : S ι} {α : Type} {f : α → D} {P : List α → Env → MH → Prop} (hs : ∀ x xs v m, P (x :: xs) v m → ∃ v1, (tgt call t).g (f x) v m = .ok v1 m ∧ ∃ v2 m2, exec call b v1 m = .ok (.nx v2) m2 ∧ P xs v2 m2) : ∀ (xs : List α) (v : Env) (m : MH), P xs v m → ∃ v2 m2, loop call t b (.items (xs.map f)) v m = .ok (.nx v2) m2 ∧ P [] v2 m2
  | [], v, m, h => ⟨v, m, rfl, h⟩
  | x :: xs, v, m, h => by
    obtain ⟨v1, e1, v2, m2, e2, h2⟩ := hs x xs v m h
    obtain ⟨v3, m3, e3, h3⟩ := loop_L hs xs v2 m2 h2
    refine ⟨v3, m3, ?_, h3⟩
    rw [List.map_cons, loop_cons, e1, Res.tg_ok, e2, Res.then_nx, e3]
end
theorem range_D (n : Nat) : rangeD 0 (n : Int) = (List.range n).map fun k => D.int (k : Nat) := by
  unfold rangeD
  have : ((n : Int) - 0).toNat = n := by omega
  rw [this]
  refine List.map_congr_left fun k _ => ?_
  simp
theorem enum_ints {A : D} {xs : List Int} (h : seqC A = some (iL xs)) : enumD A = some ((List.range xs.length).map fun i => .tup [.int (i : Nat), .int (gI xs i)]) := by
  simp only [enumD, h, Option.map_some]
  congr 1
  refine List.ext_getElem (by simp) fun i h1 h2 => ?_
  have hi : i < xs.length := by simpa using h2
  simp [gI, hi]
/-! ### tables in a frame -/
abbrev rO (r : List Int) : MO := .lst (iL r)
theorem t_get {J : List (List Int)} {pre post : List MO} {m : MH} {p x k : Nat} (hp : p = m.length) (hx : x < J.length) (hk : k = pre.length + x) : get ((pre ++ (J.map rO ++ post)) :: m) p k = some (rO (gR J x)) := by
  subst hk
  rw [get_here hp, List.getElem?_append_right (by omega), Nat.add_sub_cancel_left, List.getElem?_append_left (by simpa using hx), List.getElem?_map, List.getElem?_eq_getElem hx, gR_get hx]
  rfl
theorem t_put {J : List (List Int)} {pre post : List MO} {m : MH} {p x k : Nat} {r : List Int} (hp : p = m.length) (hx : x < J.length) (hk : k = pre.length + x) : put ((pre ++ (J.map rO ++ post)) :: m) p k (rO r) = (pre ++ ((J.set x r).map rO ++ post)) :: m := by
  subst hk
  rw [put_here hp, List.set_append_right _ _ (by omega), Nat.add_sub_cancel_left, List.set_append_left _ _ (by simpa using hx), List.map_set]
theorem t_getP {mid : List MO} {pre post : List MO} {o : MO} {m : MH} {p k : Nat} (hp : p = m.length) (hk : k = pre.length + mid.length) : get ((pre ++ (mid ++ o :: post)) :: m) p k = some o := by
  subst hk
  rw [get_here hp, List.getElem?_append_right (by omega), Nat.add_sub_cancel_left, List.getElem?_append_right (by omega), Nat.sub_self]
  rfl
theorem t_putP {mid : List MO} {pre post : List MO} {o o' : MO} {m : MH} {p k : Nat} (hp : p = m.length) (hk : k = pre.length + mid.length) : put ((pre ++ (mid ++ o :: post)) :: m) p k o' = (pre ++ (mid ++ o' :: post)) :: m := by
  subst hk
  rw [put_here hp, List.set_append_right _ _ (by omega), Nat.add_sub_cancel_left, List.set_append_right _ _ (by omega), Nat.sub_self]
  rfl
section
variable {M : MH} {l k : Nat} {r : List Int} (hg : get M l k = some (rO r)) {y : Nat} (hy : y < r.length)
include hg
theorem i_isL : isL M (.ref l k) = true := by simp [isL, hg]
theorem i_tup : built .tuple [.ref l k] M = some (.tup (iL r)) := by simp [built, seqOf, hg]
theorem i_len : built .len [.ref l k] M = some (.int r.length) := by simp [built, lenD, seqOf, hg]
include hy
theorem i_at : getAt M (.ref l k) (.int (y : Int)) = some (.int (gI r y)) := by
  have h' : y < (iL r).length := by simpa using hy
  simp only [getAt, seqOf, hg, Option.bind_some, place_nat h']
  rw [List.getElem?_map, List.getElem?_eq_getElem hy, gI_get hy]
  rfl
theorem i_getL : getL M (.ref l k) (.int (y : Int)) = some (.int (gI r y)) := by
  have e : ((y : Int)).toNat = y := by omega
  simp only [getL, lstOf, seqOf, hg, Option.bind_some]
  rw [if_pos (by omega), e, List.getElem?_map, List.getElem?_eq_getElem hy, gI_get hy]
  rfl
theorem i_set (a : Int) : setAt (.ref l k) (.int (y : Int)) (.int a) M = .ok () (put M l k (rO (r.set y a))) := by
  have h' : y < (iL r).length := by simpa using hy
  simp only [setAt, hg, place_nat h', D.bd, if_true, rO, iL, List.map_set]
end
theorem l_at {M : MH} {xs : List Int} {y : Nat} (hy : y < xs.length) : getAt M (.lst (iL xs)) (.int (y : Int)) = some (.int (gI xs y)) := by
  have h' : y < (iL xs).length := by simpa using hy
  simp only [getAt, seqOf, Option.bind_some, place_nat h']
  rw [List.getElem?_map, List.getElem?_eq_getElem hy, gI_get hy]
  rfl
theorem r_at {M : MH} {n x : Nat} {f : Nat → D} (hx : x < n) : getAt M (.lst ((List.range n).map f)) (.int (x : Int)) = some (f x) := by
  have h' : x < ((List.range n).map f).length := by simpa using hx
  simp only [getAt, seqOf, Option.bind_some, place_nat h']
  rw [List.getElem?_eq_getElem h']
  simp
theorem i_app {M : MH} {l k : Nat} {r : List Int} (hg : get M l k = some (rO r)) (hl : r.length < 16777216) (a : Int) : append (.ref l k) (.int a) M = .ok .non (put M l k (rO (r ++ [a]))) := by
  have h2 : (iL r).length < sizeLine := by unfold sizeLine; simp; omega
  simp only [append, hg, D.bd, h2, decide_true, Bool.and_self, if_true, rO, iL, List.map_append, List.map_cons, List.map_nil]
/-- a table handed out -/
def tblD (J : List (List Int)) : D := .tup (J.map fun r => .tup (iL r))
theorem tbl_bd (J : List (List Int)) (n : Nat) : (tblD J).bd n = true := by
  unfold tblD
  simp only [D.bd]
  induction J with
  | nil => rfl
  | cons r J ih => simp only [List.map_cons, bdL, D.bd, bdL_iL, ih, Bool.and_self]
theorem tbl_R {J : List (List Int)} {n : Nat} (h : J.length = n) : D.tup ((List.range n).map fun x => .tup (iL (gR J x))) = tblD J := by
  subst h
  unfold tblD
  congr 1
  refine List.ext_getElem (by simp) fun i h1 h2 => ?_
  have hi : i < J.length := by simpa using h2
  simp [gR, hi]
theorem zeros_ok {M : MH} {n : Nat} (hn : n ≤ 1000000) : nbinD .mul (.lst [.int 0]) (.int (n : Nat)) M = alloc M (rO (List.replicate n 0)) := by
  have h : (-(2 ^ 63) ≤ ((n : Nat) : Int) ∧ ((n : Nat) : Int) < 2 ^ 63) ∧ [D.int 0].length * ((n : Nat) : Int).toNat ≤ sizeLine := by
    have r := nat_rng hn
    refine ⟨⟨Int.le_trans (by decide) r.1, Int.lt_of_lt_of_le r.2 (by decide)⟩, ?_⟩
    unfold sizeLine
    simp
    omega
  show (match lstOf M (.lst [.int 0]) with
    | some xs => if (-(2 ^ 63) ≤ ((n : Nat) : Int) ∧ ((n : Nat) : Int) < 2 ^ 63) ∧ xs.length * ((n : Nat) : Int).toNat ≤ sizeLine then alloc M (.lst (List.replicate ((n : Nat) : Int).toNat xs).flatten) else .fail
    | none => .fail) = _
  have e : lstOf M (.lst [.int 0]) = some [.int 0] := rfl
  rw [e]
  dsimp only
  rw [if_pos h, show ((n : Nat) : Int).toNat = n from by omega, rep_iL]
/-! ### the defs -/
def moreInFn {ι : Type} (brought : ι) : Fn ι := ⟨2, 6, (.cons (.asg (.tup 2 (.cons (.name 2) (.cons (.name 3) .nil))) (.call brought (.cons (.var 0) (.cons (.var 1) .nil)))) (.cons (.ret (.bi .tuple (.cons (.lc false [("place", 4), ("weight", 5)] (.tup 2 (.cons (.name 4) (.cons (.name 5) .nil))) (.enum (.var 2)) (.cmp .gt (.var 5) (.idx (.var 3) (.var 4))) (.var 4)) .nil))) .nil))⟩
def joinedFn {ι : Type} (brought : ι) : Fn ι := ⟨2, 12, (.cons (.asg (.tup 2 (.cons (.name 4) (.cons (.name 5) .nil))) (.call brought (.cons (.var 0) (.cons (.var 1) .nil)))) (.cons (.setLc 2 (.lc false [("weight", 7)] (.name 7) (.var 4) .nil (.nbin .mul (.lst (.cons (.lit (.int 0)) .nil)) (.bi .len (.cons (.var 4) .nil))))) (.cons (.asg (.name 3) (.new .nil)) (.cons (.for_ (.tup 2 (.cons (.name 6) (.cons (.name 7) .nil))) (.enum (.var 4)) (.cons (.asg (.sub (.idx (.var 2) (.var 6)) (.var 6)) (.bi .min (.cons (.var 7) (.cons (.idx (.var 5) (.var 6)) .nil)))) (.cons (.exp (.app (.var 3) (.bin .sub (.idx (.var 5) (.var 6)) (.idx (.idx (.var 2) (.var 6)) (.var 6))))) .nil))) (.cons (.for_ (.tup 2 (.cons (.name 6) (.cons (.name 7) .nil))) (.enum (.var 4)) (.cons (.asg (.name 8) (.bin .sub (.var 7) (.idx (.idx (.var 2) (.var 6)) (.var 6)))) (.cons (.for_ (.name 9) (.rng1 (.bi .len (.cons (.var 4) .nil))) (.cons (.asg (.name 10) (.bi .min (.cons (.var 8) (.cons (.idx (.var 3) (.var 9)) .nil)))) (.cons (.augS (.idx (.var 2) (.var 6)) (.var 9) .add (.var 10)) (.cons (.augS (.var 3) (.var 9) .sub (.var 10)) (.cons (.aug 8 .sub (.var 10)) .nil))))) .nil))) (.cons (.ret (.bi .tuple (.cons (.lc false [("row", 11)] (.name 11) (.var 2) .nil (.bi .tuple (.cons (.var 11) .nil))) .nil))) .nil))))))⟩
def paperFn {ι : Type} (need_two more_in joined_of : ι) : Fn ι := ⟨2, 2, (.cons (.exp (.call need_two (.cons (.var 0) (.cons (.var 1) .nil)))) (.cons (.ret (.tup (.cons (.call more_in (.cons (.var 0) (.cons (.var 1) .nil))) (.cons (.call joined_of (.cons (.var 0) (.cons (.var 1) .nil))) .nil)))) .nil))⟩
/-- places handed out -/
def plcD (s : List Nat) : D := .tup (s.map fun p => D.int (p : Nat))
theorem plc_bd (s : List Nat) (n : Nat) : (plcD s).bd n = true := by
  unfold plcD
  simp only [D.bd]
  induction s with
  | nil => rfl
  | cons r J ih => simp only [List.map_cons, bdL, D.bd, ih, Bool.and_self]
section
variable {ι : Type} {P : ι → Fn ι} {f br : ι}
theorem run_moreIn {d : Nat} (h : P f = moreInFn br) {ns ms A B : List Int} (la : A.length = B.length) (l25 : A.length ≤ 1000) (hb : ∀ m, run P d br [.tup (iL ns), .tup (iL ms)] m = .ok (.tup [.lst (iL A), .lst (iL B)]) m) (m : MH) : run P (d + 1) f [.tup (iL ns), .tup (iL ms)] m = .ok (plcD (moreP A.length A B)) m := by
  rw [run_b h rfl]
  have c := e_RF (call := run P d) (v := [some (.tup (iL ns)), some (.tup (iL ms)), some (.lst (iL A)), some (.lst (iL B)), none, none]) (m := [] :: m) (own := [("place", 4), ("weight", 5)]) (t := .tup 2 (.cons (.name 4) (.cons (.name 5) .nil))) (it := .enum (.var 2)) (c := .cmp .gt (.var 5) (.idx (.var 3) (.var 4))) (e := .var 4) (n := A.length)
    (fun i => .tup [.int (i : Nat), .int (gI A i)]) (fun i => decide (gI B i < gI A i)) (fun i => .int (i : Nat)) (fun i => [some (.tup (iL ns)), some (.tup (iL ms)), some (.lst (iL A)), some (.lst (iL B)), some (.int (i : Nat)), some (.int (gI A i))]) rfl (by omega) (by simp only [w_enum, e_var, at_succ, at_zero, Res.of_some, Res.bind_ok, enum_ints (show seqC (.lst (iL A)) = some (iL A) from rfl), Option.map_some]) (fun i hi => by
    have g := l_at (M := [] :: m) (xs := B) (y := i) (by omega)
    refine ⟨rfl, ?_, fun _ => ?_⟩
    · simp only [t_cmp, e_var, e_idx, at_succ, at_zero, Res.of_some, Res.bind_ok, g, gt_int]
    · simp only [e_var, at_succ, at_zero, Res.of_some])
  show left (exec (run P d) (moreInFn br).body [some (.tup (iL ns)), some (.tup (iL ms)), none, none, none, none] ([] :: m)) = _
  simp only [moreInFn, x_cons, x_asg, e_call, l_cons, l_nil, e_var, at_succ, at_zero, Res.of_some, Res.bind_ok, hb, Res.st_ok, g_tup, g_cons, g_nil, g_name, List.length_cons, List.length_nil, Nat.zero_add, Nat.reduceAdd, Nat.reduceLT, if_true, List.set_cons_succ, List.set_cons_zero, Res.tg_ok, Res.then_nx, x_ret, e_bi]
  rw [c]
  simp only [Res.bind_ok, tup_lst, Res.of_some, Res.st_ok, Res.then_rt]
  exact leave_fine (plc_bd (moreP A.length A B) 0) m
end
end Fw

set_option Elab.async false
set_option linter.all false
set_option maxRecDepth 100000
set_option maxHeartbeats 2000000
set_option autoImplicit false
/-! ## Fw25: a joining with the least parted -/
namespace Fw
open PySem
theorem leave_any {x : D} (h : x.bd 0 = true) (fr : List MO) (r : MH) : leave x (fr :: r) = .ok x r := by
  have hb : x.bd r.length = true := D.bd_le (Nat.zero_le _) x h
  cases x with
  | ref l i => simp [D.bd] at h
  | _ => simp only [leave, hb, if_true]
theorem iL_R {A : List Int} {n : Nat} (h : A.length = n) : iL A = (List.range n).map fun i => D.int (gI A i) := by
  subst h
  conv => lhs; rw [← map_gI A]
  simp only [iL, List.map_map]
  rfl
theorem dJ_0 (n : Nat) (A B : List Int) : dJ n A B 0 = List.replicate n (List.replicate n 0) := by
  refine List.ext_getElem (by simp [dJ]) fun i h1 h2 => ?_
  simp [dJ]
theorem dL_succ (n k : Nat) (A B : List Int) : dL n A B (k + 1) = dL n A B k ++ [gI B k - mn (gI A k) (gI B k)] := by
  unfold dL
  rw [List.range_succ]
  simp
def jH (m : MH) (J : List (List Int)) (L : List Int) : MH := (J.map rO ++ [rO L]) :: m
section
variable {m : MH} {J : List (List Int)} {L : List Int} {n p : Nat} (hp : p = m.length) (hj : J.length = n)
include hp hj
theorem j_row {x : Nat} (hx : x < n) : get (jH m J L) p x = some (rO (gR J x)) := t_get (pre := []) (post := [rO L]) hp (by omega) (by simp)
theorem j_lack : get (jH m J L) p n = some (rO L) := t_getP (pre := []) (post := []) (mid := J.map rO) hp (by simp [hj])
theorem j_putR {x : Nat} (hx : x < n) (r : List Int) : put (jH m J L) p x (rO r) = jH m (J.set x r) L := t_put (pre := []) (post := [rO L]) hp (by omega) (by simp)
theorem j_putL (L' : List Int) : put (jH m J L) p n (rO L') = jH m J L' := t_putP (pre := []) (post := []) (mid := J.map rO) hp (by simp [hj])
end
section
variable {ι : Type} {P : ι → Fn ι} {f br : ι}
def jB {ι : Type} (br : ι) : S ι := (joinedFn br).body
def jIn {ι : Type} (br : ι) : S ι := match nth (jB br) 4 with
  | .for_ _ _ b => b
  | _ => .nil
def jFar {ι : Type} (br : ι) : S ι := match nth (jIn br) 1 with
  | .for_ _ _ b => b
  | _ => .nil
def jDg {ι : Type} (br : ι) : S ι := match nth (jB br) 3 with
  | .for_ _ _ b => b
  | _ => .nil
variable {call : ι → List D → MH → Res D} {m : MH} {p n : Nat} {A B : List Int} {N M : Option D}
abbrev jR (p n : Nat) : Option D := some (.lst ((List.range n).map fun t => .ref p t))
theorem e_zeros {v : Env} {b : E ι} {M M2 : MH} {k : Int} {o : D} (hb : (sem call b).e v M = .ok (.int k) M) (h : nbinD .mul (.lst [.int 0]) (.int k) M = .ok o M2) : (sem call (.nbin .mul (.lst (.cons (.lit (.int 0)) .nil)) b)).e v M = .ok o M2 := by
  simp only [e_nbin, e_lst, l_cons, l_nil, e_lit, lit_int, Res.bind_ok, List.length_cons, List.length_nil, Nat.zero_add, sz1, if_true, hb, h]
/-- the empty table -/
theorem j_empty (hp : p = m.length) (la : A.length = n) (hn : n ≤ 1000) : exec call (nth (jB br) 1) [N, M, none, none, some (.lst (iL A)), some (.lst (iL B)), none, none, none, none, none, none] ([] :: m) = .ok (.nx [N, M, jR p n, none, some (.lst (iL A)), some (.lst (iL B)), none, none, none, none, none, none]) ((List.replicate n (rO (List.replicate n 0))) :: m) := by
  have q := e_S (call := call) (v := [N, M, none, none, some (.lst (iL A)), some (.lst (iL B)), none, none, none, none, none, none]) (own := [("weight", 7)]) (t := .name 7) (it := .var 4) (e := .nbin .mul (.lst (.cons (.lit (.int 0)) .nil)) (.bi .len (.cons (.var 4) .nil))) (n := n) (fun i => D.int (gI A i)) (fun i => (List.replicate i (rO (List.replicate n 0))) :: m) (fun t => .ref p t)
    (fun i => [N, M, none, none, some (.lst (iL A)), some (.lst (iL B)), none, some (.int (gI A i)), none, none, none, none]) rfl rfl (by omega) (by rw [← iL_R la]; rfl) (fun i hi => by
    refine ⟨rfl, ?_⟩
    have ln : ∀ M, built .len [.lst (iL A)] M = some (.int (n : Nat)) := fun M => by simp [built, lenD, seqOf, la]
    have al := alloc_ok (fr := List.replicate i (rO (List.replicate n 0))) (r := m) (o := rO (List.replicate n 0)) (by simp only [MO.bd, bdL_iL])
    rw [← hp, List.length_replicate] at al
    rw [List.replicate_succ']
    exact e_zeros (k := ((n : Nat) : Int)) (by simp only [e_bi, l_cons, l_nil, e_var, at_succ, at_zero, Res.of_some, Res.bind_ok, ln]) ((zeros_ok (show n ≤ 1000000 by omega)).trans al))
  have hb : nth (jB br) 1 = .setLc 2 (.lc false [("weight", 7)] (.name 7) (.var 4) .nil (.nbin .mul (.lst (.cons (.lit (.int 0)) .nil)) (.bi .len (.cons (.var 4) .nil)))) := rfl
  have q' : (sem call (.lc false [("weight", 7)] (.name 7) (.var 4) .nil (.nbin .mul (.lst (.cons (.lit (.int 0)) .nil)) (.bi .len (.cons (.var 4) .nil))))).e [N, M, none, none, some (.lst (iL A)), some (.lst (iL B)), none, none, none, none, none, none] ([] :: m) = .ok (.lst ((List.range n).map fun t => .ref p t)) ((List.replicate n (rO (List.replicate n 0))) :: m) := q
  rw [hb, x_setLc, q']
  rfl
/-- a row's diagonal -/
theorem j_diag (hp : p = m.length) (lb : B.length = n) (hn : n ≤ 1000) {k : Nat} (hk : k < n) (z8 z9 z10 z11 : Option D) : exec call (jDg br) [N, M, jR p n, some (.ref p n), some (.lst (iL A)), some (.lst (iL B)), some (.int (k : Nat)), some (.int (gI A k)), z8, z9, z10, z11] (jH m (dJ n A B k) (dL n A B k)) =
    .ok (.nx [N, M, jR p n, some (.ref p n), some (.lst (iL A)), some (.lst (iL B)), some (.int (k : Nat)), some (.int (gI A k)), z8, z9, z10, z11]) (jH m (dJ n A B (k + 1)) (dL n A B (k + 1))) := by
  have jl : ∀ k, (dJ n A B k).length = n := fun k => by simp [dJ]
  have ll : (dL n A B k).length = k := by simp [dL]
  have a1 := fun M => r_at (M := M) (n := n) (x := k) (f := fun t => D.ref p t) hk
  have a2 := fun M => l_at (M := M) (xs := B) (y := k) (by omega)
  have g1 := j_row (L := dL n A B k) hp (jl k) hk
  have rl : (gR (dJ n A B k) k).length = n := by rw [gR_dJ hk]; split <;> simp [uRow]
  have s1 := i_set g1 (y := k) (by omega) (mn (gI A k) (gI B k))
  rw [j_putR hp (jl k) hk, dJ_set hk] at s1
  have g2 := j_row (L := dL n A B k) hp (jl (k + 1)) hk
  have e2 : gR (dJ n A B (k + 1)) k = uRow n k (mn (gI A k) (gI B k)) := by rw [gR_dJ hk, if_pos (by omega)]
  rw [e2] at g2
  have a3 := i_at g2 (y := k) (by simp [uRow]; exact hk)
  rw [gI_u hk, if_pos rfl] at a3
  have g3 := j_lack (L := dL n A B k) hp (jl (k + 1))
  have il := i_isL g3
  have ap := i_app g3 (by omega) (gI B k - mn (gI A k) (gI B k))
  rw [j_putL hp (jl (k + 1)), ← dL_succ] at ap
  simp only [jDg, nth, jB, joinedFn, x_cons, x_asg, x_exp, x_nil, e_bi, e_idx, e_app, e_bin, l_cons, l_nil, e_var, at_succ, at_zero, Res.of_some, Res.bind_ok, a1, a2, mn_built, Res.st_ok, g_sub, s1, Res.tg_ok, Res.then_nx, il, if_true, a3, sub_int, ap]
/-- one place of a row -/
theorem j_step (hp : p = m.length) {J : List (List Int)} {L : List Int} (F : Fil n A B J L) {x y : Nat} (hx : x < n) (hy : y < n) (z7 z10 z11 : Option D) : exec call (jFar br) [N, M, jR p n, some (.ref p n), some (.lst (iL A)), some (.lst (iL B)), some (.int (x : Nat)), z7, some (.int (gI A x - rs J x)), some (.int (y : Nat)), z10, z11] (jH m J L) =
    .ok (.nx [N, M, jR p n, some (.ref p n), some (.lst (iL A)), some (.lst (iL B)), some (.int (x : Nat)), z7, some (.int (gI A x - rs (stepJ A J L x y) x)), some (.int (y : Nat)), some (.int (gone A J L x y)), z11]) (jH m (stepJ A J L x y) (stepL A J L x y)) := by
  have a1 := fun M => r_at (M := M) (n := n) (x := x) (f := fun t => D.ref p t) hx
  have gl := j_lack (L := L) hp F.ja
  have b1 := i_at gl (y := y) (by rw [F.la]; exact hy)
  have gr := j_row (L := L) hp F.ja hx
  have rl := F.len hx
  have c1 := i_getL gr (y := y) (by omega)
  have c2 := i_set gr (y := y) (by omega) (gI (gR J x) y + gone A J L x y)
  rw [j_putR hp F.ja hx] at c2
  have c2' : setAt (.ref p x) (.int (y : Int)) (.int (gI (gR J x) y + gone A J L x y)) (jH m J L) = .ok () (jH m (stepJ A J L x y) L) := c2
  have j2 : (stepJ A J L x y).length = n := by simp [stepJ, F.ja]
  have gl2 := j_lack (L := L) hp j2
  have d1 := i_getL gl2 (y := y) (by rw [F.la]; exact hy)
  have d2 := i_set gl2 (y := y) (by rw [F.la]; exact hy) (gI L y - gone A J L x y)
  rw [j_putL hp j2] at d2
  have d2' : setAt (.ref p n) (.int (y : Int)) (.int (gI L y - gone A J L x y)) (jH m (stepJ A J L x y) L) = .ok () (jH m (stepJ A J L x y) (stepL A J L x y)) := d2
  have e : gI A x - rs J x - gone A J L x y = gI A x - rs (stepJ A J L x y) x := by rw [F.rsS hx hy, if_pos rfl]; omega
  have mnb := fun M => mn_built M (gI A x - rs J x) (gI L y)
  have ai : ∀ (o : Op2) (i j : Int) (M : MH), arithI o (.int i) (.int j) M = arith o (.int i) (.int j) M := fun o i j M => (ar_int o i j).symm
  have hg : mn (gI A x - rs J x) (gI L y) = gone A J L x y := rfl
  simp only [jFar, jIn, nth, jB, joinedFn, x_cons, x_asg, x_augS, x_aug, x_nil, e_bi, e_idx, l_cons, l_nil, e_var, at_succ, at_zero, Res.of_some, Res.bind_ok, b1, mnb, hg, Res.st_ok, g_name, List.length_cons, List.length_nil, Nat.zero_add, Nat.reduceAdd, Nat.reduceLT, if_true, List.set_cons_succ, List.set_cons_zero, Res.tg_ok, Res.then_nx, a1, c1, ai, add_int, c2', d1, sub_int, d2', e]
theorem run_joined {d : Nat} (h : P f = joinedFn br) {ns ms : List Int} (la : A.length = n) (lb : B.length = n) (hn : n ≤ 1000) (na : ∀ v ∈ A, 0 ≤ v) (nb : ∀ v ∈ B, 0 ≤ v) (hs : A.sum = B.sum) (hb : ∀ m, run P d br [.tup (iL ns), .tup (iL ms)] m = .ok (.tup [.lst (iL A), .lst (iL B)]) m) (m : MH) :
    ∃ J L, run P (d + 1) f [.tup (iL ns), .tup (iL ms)] m = .ok (tblD J) m ∧ Fil n A B J L ∧ (∀ x, x < n → rs J x = gI A x) ∧ (∀ y, y < n → col J y = gI B y) ∧ ∀ x, x < n → mn (gI A x) (gI B x) ≤ gI (gR J x) x := by
  rw [run_b h rfl]
  obtain ⟨p, hp⟩ : ∃ p, p = m.length := ⟨_, rfl⟩
  generalize hN : some (D.tup (iL ns)) = N
  generalize hM : some (D.tup (iL ms)) = M
  have s0 : exec (run P d) (nth (jB br) 0) [N, M, none, none, none, none, none, none, none, none, none, none] ([] :: m) = .ok (.nx [N, M, none, none, some (.lst (iL A)), some (.lst (iL B)), none, none, none, none, none, none]) ([] :: m) := by
    rw [← hN, ← hM]
    simp only [nth, jB, joinedFn, x_asg, e_call, l_cons, l_nil, e_var, at_succ, at_zero, Res.of_some, Res.bind_ok, hb, Res.st_ok, g_tup, g_cons, g_nil, g_name, List.length_cons, List.length_nil, Nat.zero_add, Nat.reduceAdd, Nat.reduceLT, if_true, List.set_cons_succ, List.set_cons_zero, Res.tg_ok]
  have s1 := j_empty (br := br) (call := run P d) (m := m) (B := B) (N := N) (M := M) hp la hn
  have s2 : exec (run P d) (nth (jB br) 2) [N, M, jR p n, none, some (.lst (iL A)), some (.lst (iL B)), none, none, none, none, none, none] ((List.replicate n (rO (List.replicate n 0))) :: m) = .ok (.nx [N, M, jR p n, some (.ref p n), some (.lst (iL A)), some (.lst (iL B)), none, none, none, none, none, none]) (jH m (dJ n A B 0) (dL n A B 0)) := by
    have al := alloc_ok (fr := List.replicate n (rO (List.replicate n 0))) (r := m) (o := .lst []) rfl
    rw [← hp, List.length_replicate] at al
    have e : (List.replicate n (rO (List.replicate n 0)) ++ [MO.lst []]) :: m = jH m (dJ n A B 0) (dL n A B 0) := by
      unfold jH
      rw [dJ_0, List.map_replicate]
      rfl
    rw [e] at al
    simp only [nth, jB, joinedFn, x_asg, e_new, l_nil, Res.bind_ok, List.length_nil, Nat.zero_le, if_true, al, Res.st_ok, g_name, List.length_cons, Nat.zero_add, Nat.reduceAdd, Nat.reduceLT, List.set_cons_succ, List.set_cons_zero, Res.tg_ok]
  have en : ∀ (v : Env) (M' : MH), v.at_ 4 = some (.lst (iL A)) → (sem (run P d) (.enum (.var 4))).w v M' = .ok (.items ((List.range n).map fun i => .tup [.int (i : Nat), .int (gI A i)])) M' := fun v M' hv => by
    simp only [w_enum, e_var, hv, Res.of_some, Res.bind_ok, enum_ints (show seqC (.lst (iL A)) = some (iL A) from rfl), Option.map_some, la]
  obtain ⟨v3, m3, e3, z6, z7, rfl, rfl⟩ := loop_R (call := run P d) (t := .tup 2 (.cons (.name 6) (.cons (.name 7) .nil))) (b := jDg br) (f := fun i => .tup [.int (i : Nat), .int (gI A i)]) (n := n)
    (P := fun i v M' => ∃ z6 z7, v = [N, M, jR p n, some (.ref p n), some (.lst (iL A)), some (.lst (iL B)), z6, z7, none, none, none, none] ∧ M' = jH m (dJ n A B i) (dL n A B i)) (fun i v M' hi hP => by
    obtain ⟨z6, z7, rfl, rfl⟩ := hP
    exact ⟨[N, M, jR p n, some (.ref p n), some (.lst (iL A)), some (.lst (iL B)), some (.int (i : Nat)), some (.int (gI A i)), none, none, none, none], rfl, _, _, j_diag hp lb hn hi none none none none, _, _, rfl, rfl⟩) (v := [N, M, jR p n, some (.ref p n), some (.lst (iL A)), some (.lst (iL B)), none, none, none, none, none, none]) (m := jH m (dJ n A B 0) (dL n A B 0)) ⟨none, none, rfl, rfl⟩
  have s3 : exec (run P d) (nth (jB br) 3) [N, M, jR p n, some (.ref p n), some (.lst (iL A)), some (.lst (iL B)), none, none, none, none, none, none] (jH m (dJ n A B 0) (dL n A B 0)) = .ok (.nx [N, M, jR p n, some (.ref p n), some (.lst (iL A)), some (.lst (iL B)), z6, z7, none, none, none, none]) (jH m (dJ n A B n) (dL n A B n)) := by
    have e : nth (jB br) 3 = .for_ (.tup 2 (.cons (.name 6) (.cons (.name 7) .nil))) (.enum (.var 4)) (jDg br) := rfl
    rw [e, x_for, en _ _ rfl]
    exact e3
  -- the rows
  obtain ⟨v4, m4, e4, J, L, y6, y7, y8, y9, y10, rfl, rfl, F, hd, _, hg⟩ := loop_R (call := run P d) (t := .tup 2 (.cons (.name 6) (.cons (.name 7) .nil))) (b := jIn br) (f := fun i => .tup [.int (i : Nat), .int (gI A i)]) (n := n)
    (P := fun k v M' => ∃ J L y6 y7 y8 y9 y10, v = [N, M, jR p n, some (.ref p n), some (.lst (iL A)), some (.lst (iL B)), y6, y7, y8, y9, y10, none] ∧ M' = jH m J L ∧ Fil n A B J L ∧ (∀ x y, x < k → y < n → don A J L x y) ∧ (∀ x, k ≤ x → x < n → gR J x = uRow n x (mn (gI A x) (gI B x))) ∧ ∀ x, x < n → mn (gI A x) (gI B x) ≤ gI (gR J x) x) (fun k v M' hk hP => by
    obtain ⟨J, L, y6, y7, y8, y9, y10, rfl, rfl, F, hd, hu, hg⟩ := hP
    refine ⟨[N, M, jR p n, some (.ref p n), some (.lst (iL A)), some (.lst (iL B)), some (.int (k : Nat)), some (.int (gI A k)), y8, y9, y10, none], rfl, ?_⟩
    have rk : rs J k = mn (gI A k) (gI B k) := by unfold rs; rw [hu k (Nat.le_refl _) hk, sum_u hk]
    have a1 := fun M => r_at (M := M) (n := n) (x := k) (f := fun t => D.ref p t) hk
    have gr := j_row (L := L) hp F.ja hk
    have b1 := i_at gr (y := k) (by rw [F.len hk]; exact hk)
    have b2 : gI (gR J k) k = rs J k := by rw [rk, hu k (Nat.le_refl _) hk, gI_u hk, if_pos rfl]
    rw [b2] at b1
    have t0 : exec (run P d) (nth (jIn br) 0) [N, M, jR p n, some (.ref p n), some (.lst (iL A)), some (.lst (iL B)), some (.int (k : Nat)), some (.int (gI A k)), y8, y9, y10, none] (jH m J L) = .ok (.nx [N, M, jR p n, some (.ref p n), some (.lst (iL A)), some (.lst (iL B)), some (.int (k : Nat)), some (.int (gI A k)), some (.int (gI A k - rs J k)), y9, y10, none]) (jH m J L) := by
      simp only [jIn, nth, jB, joinedFn, x_asg, e_bin, e_idx, e_var, at_succ, at_zero, Res.of_some, Res.bind_ok, a1, b1, sub_int, Res.st_ok, g_name, List.length_cons, List.length_nil, Nat.zero_add, Nat.reduceAdd, Nat.reduceLT, if_true, List.set_cons_succ, List.set_cons_zero, Res.tg_ok]
    obtain ⟨v5, m5, e5, J2, L2, w9, w10, rfl, rfl, F2, hd2, hn2, hu2, hg2⟩ := loop_R (call := run P d) (t := .name 9) (b := jFar br) (f := fun k => D.int (k : Nat)) (n := n)
      (P := fun y v M' => ∃ J L w9 w10, v = [N, M, jR p n, some (.ref p n), some (.lst (iL A)), some (.lst (iL B)), some (.int (k : Nat)), some (.int (gI A k)), some (.int (gI A k - rs J k)), w9, w10, none] ∧ M' = jH m J L ∧ Fil n A B J L ∧ (∀ x y, x < k → y < n → don A J L x y) ∧ (∀ y', y' < y → don A J L k y') ∧ (∀ x, k + 1 ≤ x → x < n → gR J x = uRow n x (mn (gI A x) (gI B x))) ∧ ∀ x, x < n → mn (gI A x) (gI B x) ≤ gI (gR J x) x) (fun y v M' hy hP => by
      obtain ⟨J, L, w9, w10, rfl, rfl, F, hd, hq, hu, hg⟩ := hP
      refine ⟨[N, M, jR p n, some (.ref p n), some (.lst (iL A)), some (.lst (iL B)), some (.int (k : Nat)), some (.int (gI A k)), some (.int (gI A k - rs J k)), some (.int (y : Nat)), w10, none], rfl, _, _, j_step hp F hk hy (some (.int (gI A k))) w10 none, _, _, _, _, rfl, rfl, F.step hk hy, fun x' y' hx' hy' => F.don_step hk hy (hd x' y' hx' hy'), fun y' hy' => ?_, fun x hx hxn => ?_, fun x hx => Int.le_trans (hg x hx) (F.diaS hk hy x)⟩
      · by_cases e : y' = y
        · subst e; exact F.don_now hk hy
        · exact F.don_step hk hy (hq y' (by omega))
      · unfold stepJ
        rw [gR_set (by rw [F.ja]; exact hk), if_neg (by omega)]
        exact hu x hx hxn) (v := [N, M, jR p n, some (.ref p n), some (.lst (iL A)), some (.lst (iL B)), some (.int (k : Nat)), some (.int (gI A k)), some (.int (gI A k - rs J k)), y9, y10, none]) (m := jH m J L) ⟨J, L, y9, y10, rfl, rfl, F, hd, fun y' hy' => absurd hy' (by omega), fun x hx hxn => hu x (by omega) hxn, hg⟩
    have t1 : exec (run P d) (nth (jIn br) 1) [N, M, jR p n, some (.ref p n), some (.lst (iL A)), some (.lst (iL B)), some (.int (k : Nat)), some (.int (gI A k)), some (.int (gI A k - rs J k)), y9, y10, none] (jH m J L) = .ok (.nx [N, M, jR p n, some (.ref p n), some (.lst (iL A)), some (.lst (iL B)), some (.int (k : Nat)), some (.int (gI A k)), some (.int (gI A k - rs J2 k)), w9, w10, none]) (jH m J2 L2) := by
      have e : nth (jIn br) 1 = .for_ (.name 9) (.rng1 (.bi .len (.cons (.var 4) .nil))) (jFar br) := rfl
      have ln : ∀ M, built .len [.lst (iL A)] M = some (.int (n : Nat)) := fun M => by simp [built, lenD, seqOf, la]
      have r := nat_rng (show n ≤ 1000000 by omega)
      rw [e, x_k1 (k := ((n : Nat) : Int)) (m2 := jH m J L) (by simp only [e_bi, l_cons, l_nil, e_var, at_succ, at_zero, Res.of_some, Res.bind_ok, ln]) r.1 r.2, range_D]
      exact e5
    refine ⟨[N, M, jR p n, some (.ref p n), some (.lst (iL A)), some (.lst (iL B)), some (.int (k : Nat)), some (.int (gI A k)), some (.int (gI A k - rs J2 k)), w9, w10, none], jH m J2 L2, ?_, J2, L2, some (.int (k : Nat)), some (.int (gI A k)), some (.int (gI A k - rs J2 k)), w9, w10, rfl, rfl, F2, fun x y hx hy => ?_, hu2, hg2⟩
    · have e : jIn br = .cons (nth (jIn br) 0) (.cons (nth (jIn br) 1) .nil) := rfl
      rw [e, x_cons, t0, Res.then_nx, x_cons, t1, Res.then_nx, x_nil]
    · by_cases e : x = k
      · subst e; exact hn2 y hy
      · exact hd2 x y (by omega) hy) (v := [N, M, jR p n, some (.ref p n), some (.lst (iL A)), some (.lst (iL B)), z6, z7, none, none, none, none]) (m := jH m (dJ n A B n) (dL n A B n)) ⟨_, _, _, _, _, _, _, rfl, rfl, Fil.start la lb na nb, fun x y hx => absurd hx (by omega), fun x _ hx => by rw [gR_dJ hx, if_pos hx], fun x hx => by rw [gR_dJ hx, if_pos hx, gI_u hx, if_pos rfl]; exact Int.le_refl _⟩
  have s4 : exec (run P d) (nth (jB br) 4) [N, M, jR p n, some (.ref p n), some (.lst (iL A)), some (.lst (iL B)), z6, z7, none, none, none, none] (jH m (dJ n A B n) (dL n A B n)) = .ok (.nx [N, M, jR p n, some (.ref p n), some (.lst (iL A)), some (.lst (iL B)), y6, y7, y8, y9, y10, none]) (jH m J L) := by
    have e : nth (jB br) 4 = .for_ (.tup 2 (.cons (.name 6) (.cons (.name 7) .nil))) (.enum (.var 4)) (jIn br) := rfl
    rw [e, x_for, en _ _ rfl]
    exact e4
  obtain ⟨r1, r2⟩ := F.all la lb hs hd
  refine ⟨J, L, ?_, F, r1, fun y hy => by have := F.cl y hy; rw [r2 y hy] at this; omega, hg⟩
  have c := e_R (call := run P d) (v := [N, M, jR p n, some (.ref p n), some (.lst (iL A)), some (.lst (iL B)), y6, y7, y8, y9, y10, none]) (m := jH m J L) (own := [("row", 11)]) (t := .name 11) (it := .var 2) (e := .bi .tuple (.cons (.var 11) .nil)) (n := n) (fun t => D.ref p t) (fun x => .tup (iL (gR J x))) (fun t => [N, M, jR p n, some (.ref p n), some (.lst (iL A)), some (.lst (iL B)), y6, y7, y8, y9, y10, some (.ref p t)]) (by omega) rfl (fun i hi => by
    refine ⟨rfl, ?_⟩
    have g := i_tup (j_row (L := L) hp F.ja hi)
    simp only [e_bi, l_cons, l_nil, e_var, at_succ, at_zero, Res.of_some, Res.bind_ok, g])
  have s5 : exec (run P d) (nth (jB br) 5) [N, M, jR p n, some (.ref p n), some (.lst (iL A)), some (.lst (iL B)), y6, y7, y8, y9, y10, none] (jH m J L) = .ok (.rt (tblD J)) (jH m J L) := by
    have e : nth (jB br) 5 = .ret (.bi .tuple (.cons (.lc false [("row", 11)] (.name 11) (.var 2) .nil (.bi .tuple (.cons (.var 11) .nil))) .nil)) := rfl
    rw [e, x_ret, e_bi, l_cons, c]
    simp only [Res.bind_ok, l_nil, tup_lst, Res.of_some, Res.st_ok, tbl_R F.ja]
  have eb : (joinedFn br).body = .cons (nth (jB br) 0) (.cons (nth (jB br) 1) (.cons (nth (jB br) 2) (.cons (nth (jB br) 3) (.cons (nth (jB br) 4) (.cons (nth (jB br) 5) .nil))))) := rfl
  have ev : ([D.tup (iL ns), D.tup (iL ms)].map some ++ List.replicate ((joinedFn br).ns - (joinedFn br).np) none : Env) = [N, M, none, none, none, none, none, none, none, none, none, none] := by rw [← hN, ← hM]; rfl
  rw [ev, eb, x_cons, s0, Res.then_nx, x_cons, s1, Res.then_nx, x_cons, s2, Res.then_nx, x_cons, s3, Res.then_nx, x_cons, s4, Res.then_nx, x_cons, s5, Res.then_rt]
  exact leave_any (tbl_bd J 0) (J.map rO ++ [rO L]) m
end
end Fw

set_option Elab.async false
set_option linter.all false
set_option maxRecDepth 100000
set_option maxHeartbeats 2000000
set_option autoImplicit false
/-! ## Fw26: papers; tables and sets looked at; drawn orders -/
namespace Fw
open PySem
section
variable {ι : Type} {call : ι → List D → MH → Res D} {v : Env} {m : MH}
/-- a comprehension over things of some kind -/
theorem lc_L {α : Type} {tg : D → Env → Option Env} {c : Env → MH → Res Bool} {e : Env → MH → Res D} {v : Env} {m : MH} {f : α → D} {g : α → D} {u : α → Env} {all : List D} : ∀ (k i : Nat) (xs : List α), all.drop i = xs.map f → k = xs.length + 1 → (∀ x ∈ xs, tg (f x) v = some (u x) ∧ c (u x) m = .ok true m ∧ e (u x) m = .ok (g x) m) → lcW tg c e v (.items all) k i m = .ok (xs.map g) m := by
  intro k
  induction k with
  | zero => intro i xs _ h; omega
  | succ k ih =>
    intro i xs hd hk hx
    cases xs with
    | nil =>
      have h0 : all[i]? = none := by
        rw [List.map_nil, List.drop_eq_nil_iff] at hd
        exact List.getElem?_eq_none hd
      simp only [lcW, stepW, h0, List.map_nil]
    | cons x xs =>
      have h0 : all[i]? = some (f x) := by
        have := List.getElem?_drop (xs := all) (i := i) (j := 0)
        rw [hd] at this
        simpa using this.symm
      have h1 : all.drop (i + 1) = xs.map f := by
        have := List.drop_drop (i := 1) (j := i) (l := all)
        rw [hd] at this
        simpa [Nat.add_comm] using this.symm
      obtain ⟨e1, e2, e3⟩ := hx x List.mem_cons_self
      have q := ih (i + 1) xs h1 (by simpa using hk) (fun y hy => hx y (List.mem_cons_of_mem _ hy))
      simp only [lcW, stepW, h0, e1, e2, Res.bind_ok, if_true, e3, q, List.map_cons]
theorem e_L {α : Type} {own : List (Str × Nat)} {t : Pt} {it c : E ι} {xs : List α} (f : α → D) (g : α → D) (u : α → Env) (hl : xs.length ≤ 16777216) (h : (sem call it).w v m = .ok (.items (xs.map f)) m)
    (hx : ∀ x ∈ xs, (ptg t).1 (f x) (wipeE v (own.map (·.2))) = some (u x) ∧ (sem call c).e (u x) m = .ok (g x) m) : (sem call (.lc false own t it .nil c)).e v m = .ok (.lst (xs.map g)) m := by
  have hz : xs.length ≤ sizeLine := by unfold sizeLine; omega
  rw [e_lc, h]
  have q := lc_L (tg := (ptg t).1) (c := (sem call .nil).t) (e := (sem call c).e) (v := wipeE v (own.map (·.2))) (m := m) (f := f) (g := g) (u := u) (all := xs.map f) (xs.length + 1) 0 xs rfl rfl (fun x hx' => ⟨(hx x hx').1, rfl, (hx x hx').2⟩)
  simp only [Res.bind_ok, lenW, List.length_map, hz, if_true, q, Res.nox_ok, if_false, Bool.false_eq_true]
end
theorem iL_map {α : Type} (xs : List α) (f : α → Int) : xs.map (fun x => D.int (f x)) = iL (xs.map f) := by
  simp only [iL, List.map_map]
  rfl
theorem plc_iL (s : List Nat) : plcD s = .tup (iL (s.map fun (p : Nat) => (p : Int))) := by
  unfold plcD
  rw [iL_map]
section
variable {ι : Type} {P : ι → Fn ι} {f n2 mi jo br cm : ι}
/-- a set and a joining that meet -/
theorem run_paper {d : Nat} (h : P f = paperFn n2 mi jo) {ns ms : List Int} {s : List Nat} {J : List (List Int)} (m : MH) (h1 : run P d n2 [.tup (iL ns), .tup (iL ms)] ([] :: m) = .ok .non ([] :: m)) (h2 : run P d mi [.tup (iL ns), .tup (iL ms)] ([] :: m) = .ok (plcD s) ([] :: m)) (h3 : run P d jo [.tup (iL ns), .tup (iL ms)] ([] :: m) = .ok (tblD J) ([] :: m)) : run P (d + 1) f [.tup (iL ns), .tup (iL ms)] m = .ok (.tup [plcD s, tblD J]) m := by
  rw [run_b h rfl]
  show left (exec (run P d) (paperFn n2 mi jo).body [some (.tup (iL ns)), some (.tup (iL ms))] ([] :: m)) = _
  simp only [paperFn, x_cons, x_exp, e_call, l_cons, l_nil, e_var, at_succ, at_zero, Res.of_some, Res.bind_ok, h1, Res.st_ok, Res.then_nx, x_ret, e_tup, h2, h3, List.length_cons, List.length_nil, Nat.zero_add, Nat.reduceAdd, sz2, if_true, Res.then_rt]
  exact leave_any (x := .tup [plcD s, tblD J]) (by simp only [D.bd, bdL, plc_bd, tbl_bd, Bool.and_self]) [] m
end
structure Papers {ι : Type} {P : ι → Fn ι} (L : Lots P) (A : Aparts L) where
  mi : ι
  jo : ι
  pa : ι
  hmi : P mi = moreInFn A.br
  hjo : P jo = joinedFn A.br
  hpa : P pa = paperFn L.n2 mi jo
theorem Papers.ok {ι : Type} {P : ι → Fn ι} {L : Lots P} {A : Aparts L} (W : Papers L A) (d : Nat) {ns ms : List Int} (t : Two ns ms) (l1 : isLot (.tup (iL ns)) = true) (l2 : isLot (.tup (iL ms)) = true) (m : MH) : ∃ J K, run P (d + 6) W.pa [.tup (iL ns), .tup (iL ms)] m = .ok (.tup [plcD (moreP ns.length (mineL ns ms) (yoursL ns ms)), tblD J]) m ∧ Fil ns.length (mineL ns ms) (yoursL ns ms) J K ∧
    (∀ x, x < ns.length → rs J x = gI (mineL ns ms) x) ∧ (∀ y, y < ns.length → col J y = gI (yoursL ns ms) y) ∧ ∀ x, x < ns.length → mn (gI (mineL ns ms) x) (gI (yoursL ns ms) x) ≤ gI (gR J x) x := by
  have ll := t.len
  have l25 := t.l25
  obtain ⟨a1, a2⟩ := t.lens
  obtain ⟨o1, _, _⟩ := t.one
  obtain ⟨n1, n2⟩ := t.nn
  have hb := fun m => run_brought (P := P) (.inl rfl) A.hbr L.hc (d + 2) t m
  obtain ⟨J, K, e, F, r1, r2, r3⟩ := run_joined (P := P) (d := d + 4) W.hjo a1 a2 (by omega) n1 n2 o1 hb ([] :: m)
  have e2 := run_moreIn (P := P) (d := d + 4) W.hmi (by rw [a1, a2]) (by omega) hb ([] :: m)
  rw [a1] at e2
  have e1 := L.two d (th_shrt (t.h1.th (by omega))) (th_shrt (t.h2.th (by omega))) ([] :: m)
  rw [l1, l2, len_iL, len_iL, Bool.and_self, if_pos rfl, if_pos ll] at e1
  exact ⟨J, K, run_paper W.hpa m e1 e2 e, F, r1, r2, r3⟩
/-! ### tables looked at -/
theorem tbl_len (M : MH) (J : List (List Int)) : built .len [tblD J] M = some (.int (J.length : Nat)) := by simp [tblD, built, lenD, seqOf]
theorem enum_tbl (J : List (List Int)) : enumD (tblD J) = some ((List.range J.length).map fun i => .tup [.int (i : Nat), .tup (iL (gR J i))]) := by
  simp only [enumD, tblD, seqC, Option.map_some]
  congr 1
  refine List.ext_getElem (by simp) fun i h1 h2 => ?_
  have hi : i < J.length := by simpa using h2
  simp [gR, hi]
theorem t_at {M : MH} {r : List Int} {y : Nat} (hy : y < r.length) : getAt M (.tup (iL r)) (.int (y : Int)) = some (.int (gI r y)) := by rw [at_i hy, gI_get hy]
theorem R_iL (n : Nat) (f : Nat → Int) : (List.range n).map (fun i => D.int (f i)) = iL ((List.range n).map f) := iL_map _ f
/-! ### drawn orders -/
def mixedFn {ι : Type} (take : ι) : Fn ι := ⟨2, 4, (.cons (.asg (.name 2) (.nlst (.var 1))) (.cons (.ret (.lc false [("_law_one", 3)] (.name 3) (.var 1) .nil (.pop (.var 2) (.call take (.cons (.var 0) (.cons (.bi .len (.cons (.var 2) .nil)) .nil)))))) .nil))⟩
section
variable {ι : Type} {P : ι → Fn ι} {f tk : ι}
theorem mixed_lc (ht : P tk = takeFn) (d : Nat) {α : Type} (g : α → D) {m : MH} {l i p : Nat} (hl : Lv m l i) (hp : p = m.length) {o : Option D} {all : List D} : ∀ (k j : Nat) (qs : List α) (n : Int), qs.length = all.length - j → j ≤ all.length → k = qs.length + 1 → qs.length ≤ 100000 →
    ∃ (ys : List α) (n' : Int), lcW (fun x v => some ((v.set 3 (some x)))) (sem (run P (d + 1)) .nil).t (sem (run P (d + 1)) (.pop (.var 2) (.call tk (.cons (.var 0) (.cons (.bi .len (.cons (.var 2) .nil)) .nil))))).e [some (.ref l i), o, some (.ref p 0), none] (.items all) k j ([.lst (qs.map g)] :: put m l i (.lst [.int n])) = .ok (ys.map g) ([.lst []] :: put m l i (.lst [.int n'])) ∧ ys.Perm qs := by
  intro k
  induction k with
  | zero => intro j qs n _ _ h; omega
  | succ k ih =>
    intro j qs n hq hj hk hle
    cases hqs : qs.length with
    | zero =>
      have : qs = [] := List.eq_nil_of_length_eq_zero hqs
      subst this
      have h0 : all[j]? = none := List.getElem?_eq_none (by simp at hq; omega)
      refine ⟨[], n, ?_, List.Perm.refl _⟩
      simp only [lcW, stepW, h0, List.map_nil]
    | succ c =>
      have hlt : j < all.length := by omega
      have tw := run_takeC ht d (fr := [.lst (qs.map g)]) (n := n) (far := (qs.length : Nat)) hl (by omega) (by
        have := log2_lt (n := ((qs.length : Nat) : Int).natAbs) (k := 40) (by simp; omega) (by omega)
        omega)
      have a0 := Int.emod_nonneg n (b := ((qs.length : Nat) : Int)) (by omega)
      have a1 := Int.emod_lt_of_pos n (b := ((qs.length : Nat) : Int)) (by omega)
      obtain ⟨r, hr⟩ := Int.eq_ofNat_of_zero_le a0
      rw [hr] at tw a1
      have hrl : r < qs.length := by omega
      generalize hn1 : n / ((qs.length : Nat) : Int) = n1 at tw
      have hpn : ∀ n, p = (put m l i (.lst [.int n])).length := fun n => by rw [put_length]; exact hp
      have g1 : ∀ n, get ([.lst (qs.map g)] :: put m l i (.lst [.int n])) p 0 = some (.lst (qs.map g)) := fun n => by rw [get_here (hpn n)]; rfl
      have il : ∀ n, isL ([.lst (qs.map g)] :: put m l i (.lst [.int n])) (.ref p 0) = true := fun n => by simp [isL, g1]
      have ln : ∀ n, built .len [.ref p 0] ([.lst (qs.map g)] :: put m l i (.lst [.int n])) = some (.int (qs.length : Nat)) := fun n => by simp [built, lenD, seqOf, g1]
      have po : popD (.ref p 0) (.int (r : Int)) ([.lst (qs.map g)] :: put m l i (.lst [.int n1])) = .ok (g qs[r]) ([.lst ((qs.eraseIdx r).map g)] :: put m l i (.lst [.int n1])) := by
        have e : ((r : Int)).toNat = r := by omega
        have e2 : (0 : Int) ≤ (r : Int) ∧ (r : Int) < ((qs.map g).length : Int) := ⟨by omega, by simp; omega⟩
        have e3 : (qs.map g)[r]? = some (g qs[r]) := by rw [List.getElem?_map, List.getElem?_eq_getElem hrl]; rfl
        have e4 : (qs.map g).eraseIdx r = (qs.eraseIdx r).map g := by simp only [List.eraseIdx_eq_take_drop_succ, List.map_append, List.map_take, List.map_drop]
        simp only [popD, g1, e2, and_self, if_true, e, e3, e4]
        rw [put_here (hpn n1)]
        rfl
      obtain ⟨ys, n', ey, hy⟩ := ih (j + 1) (qs.eraseIdx r) n1 (by rw [List.length_eraseIdx_of_lt hrl]; omega) (by omega) (by rw [List.length_eraseIdx_of_lt hrl]; omega) (by rw [List.length_eraseIdx_of_lt hrl]; omega)
      refine ⟨qs[r] :: ys, n', ?_, ?_⟩
      · have ee : (sem (run P (d + 1)) (.pop (.var 2) (.call tk (.cons (.var 0) (.cons (.bi .len (.cons (.var 2) .nil)) .nil))))).e [some (.ref l i), o, some (.ref p 0), some all[j]] ([.lst (qs.map g)] :: put m l i (.lst [.int n])) = .ok (g qs[r]) ([.lst ((qs.eraseIdx r).map g)] :: put m l i (.lst [.int n1])) := by
          simp only [e_pop, e_var, at_succ, at_zero, Res.of_some, Res.bind_ok, il, if_true, e_call, l_cons, l_nil, e_bi, ln, tw, po]
        simp only [lcW, stepW, List.getElem?_eq_getElem hlt, List.set_cons_succ, List.set_cons_zero, t_nil, Res.bind_ok, if_true, ee, ey, List.map_cons]
      · refine (List.Perm.cons _ hy).trans ?_
        rw [List.eraseIdx_eq_take_drop_succ]
        refine List.perm_middle.symm.trans ?_
        rw [List.getElem_cons_drop hrl, List.take_append_drop]
theorem run_mixed (h : P f = mixedFn tk) (ht : P tk = takeFn) (d : Nat) {α : Type} (g : α → D) (hg : ∀ a, (g a).bd 0 = true) {m : MH} {l i : Nat} {n : Int} (hget : get m l i = some (.lst [.int n])) (qs : List α) (hq : qs.length ≤ 100000) :
    ∃ (ys : List α) (n' : Int), run P (d + 2) f [.ref l i, .lst (qs.map g)] m = .ok (.lst (ys.map g)) (put m l i (.lst [.int n'])) ∧ ys.Perm qs := by
  have hl : Lv m l i := by unfold Lv; rw [hget]; rfl
  suffices hsuf : ∃ (ys : List α) (n' : Int), run P (d + 2) f [.ref l i, .lst (qs.map g)] (put m l i (.lst [.int n])) = .ok (.lst (ys.map g)) (put m l i (.lst [.int n'])) ∧ ys.Perm qs by rwa [put_self hget] at hsuf
  rw [run_b h rfl]
  have hp : m.length = (put m l i (.lst [.int n])).length := (put_length m l i _).symm
  have bd : ∀ (zs : List α) (k : Nat), bdL k (zs.map g) = true := fun zs k => by
    induction zs with
    | nil => rfl
    | cons z zs ih => simp only [List.map_cons, bdL, ih, D.bd_le (Nat.zero_le k) _ (hg z), Bool.and_self]
  have al : alloc ([] :: put m l i (.lst [.int n])) (.lst (qs.map g)) = .ok (.ref m.length 0) ([.lst (qs.map g)] :: put m l i (.lst [.int n])) := by
    have := alloc_ok (fr := []) (r := put m l i (.lst [.int n])) (o := .lst (qs.map g)) (bd qs _)
    rw [← hp] at this
    exact this
  obtain ⟨ys, n', e, hy⟩ := mixed_lc (P := P) (tk := tk) ht d g hl (p := m.length) rfl (o := some (.lst (qs.map g))) (all := qs.map g) (qs.length + 1) 0 qs n (by simp) (by omega) rfl hq
  refine ⟨ys, n', ?_, hy⟩
  have hz : (qs.map g).length ≤ sizeLine := by unfold sizeLine; simp; omega
  have s0 : exec (run P (d + 1)) (nth (mixedFn tk).body 0) [some (.ref l i), some (.lst (qs.map g)), none, none] ([] :: put m l i (.lst [.int n])) = .ok (.nx [some (.ref l i), some (.lst (qs.map g)), some (.ref m.length 0), none]) ([.lst (qs.map g)] :: put m l i (.lst [.int n])) := by
    simp only [nth, mixedFn, x_asg, e_nlst, e_var, at_succ, at_zero, Res.of_some, Res.bind_ok, seqOf, al, Res.st_ok, g_name, List.length_cons, List.length_nil, Nat.zero_add, Nat.reduceAdd, Nat.reduceLT, if_true, List.set_cons_succ, List.set_cons_zero, Res.tg_ok]
  have s1 : exec (run P (d + 1)) (nth (mixedFn tk).body 1) [some (.ref l i), some (.lst (qs.map g)), some (.ref m.length 0), none] ([.lst (qs.map g)] :: put m l i (.lst [.int n])) = .ok (.rt (.lst (ys.map g))) ([.lst []] :: put m l i (.lst [.int n'])) := by
    have hb : nth (mixedFn tk).body 1 = .ret (.lc false [("_law_one", 3)] (.name 3) (.var 1) .nil (.pop (.var 2) (.call tk (.cons (.var 0) (.cons (.bi .len (.cons (.var 2) .nil)) .nil))))) := rfl
    rw [hb, x_ret, e_lc]
    have hw : (sem (run P (d + 1)) (.var 1)).w [some (.ref l i), some (.lst (qs.map g)), some (.ref m.length 0), none] ([.lst (qs.map g)] :: put m l i (.lst [.int n])) = .ok (.items (qs.map g)) ([.lst (qs.map g)] :: put m l i (.lst [.int n])) := rfl
    rw [hw]
    have hlen : (qs.map g).length = qs.length := by simp
    have tg : ∀ x v', lcW (ptg (.name 3)).1 (sem (run P (d + 1)) .nil).t (sem (run P (d + 1)) (.pop (.var 2) (.call tk (.cons (.var 0) (.cons (.bi .len (.cons (.var 2) .nil)) .nil))))).e [some (.ref l i), some (.lst (qs.map g)), some (.ref m.length 0), none] (.items (qs.map g)) (x + 1) 0 v' = lcW (fun x v => some ((v.set 3 (some x)))) (sem (run P (d + 1)) .nil).t (sem (run P (d + 1)) (.pop (.var 2) (.call tk (.cons (.var 0) (.cons (.bi .len (.cons (.var 2) .nil)) .nil))))).e [some (.ref l i), some (.lst (qs.map g)), some (.ref m.length 0), none] (.items (qs.map g)) (x + 1) 0 v' := by
      intro x v'
      have key : ∀ (k j : Nat) (M : MH), lcW (ptg (.name 3)).1 (sem (run P (d + 1)) .nil).t (sem (run P (d + 1)) (.pop (.var 2) (.call tk (.cons (.var 0) (.cons (.bi .len (.cons (.var 2) .nil)) .nil))))).e [some (.ref l i), some (.lst (qs.map g)), some (.ref m.length 0), none] (.items (qs.map g)) k j M = lcW (fun x v => some ((v.set 3 (some x)))) (sem (run P (d + 1)) .nil).t (sem (run P (d + 1)) (.pop (.var 2) (.call tk (.cons (.var 0) (.cons (.bi .len (.cons (.var 2) .nil)) .nil))))).e [some (.ref l i), some (.lst (qs.map g)), some (.ref m.length 0), none] (.items (qs.map g)) k j M := by
        intro k
        induction k with
        | zero => intro j M; rfl
        | succ k ih =>
          intro j M
          have pt : ∀ x : D, (ptg (.name 3)).1 x [some (.ref l i), some (.lst (qs.map g)), some (.ref m.length 0), none] = some ([some (.ref l i), some (.lst (qs.map g)), some (.ref m.length 0), none].set 3 (some x)) := fun x => rfl
          simp only [lcW, pt, ih]
      exact key _ _ _
    have we : wipeE [some (.ref l i), some (.lst (qs.map g)), some (.ref m.length 0), none] ([((("_law_one" : String) : Str), 3)].map (·.2)) = [some (.ref l i), some (.lst (qs.map g)), some (.ref m.length 0), none] := rfl
    simp only [Res.bind_ok, lenW, hz, if_true, we]
    rw [tg, hlen, e]
    rfl
  have hb : (mixedFn tk).body = .cons (nth (mixedFn tk).body 0) (.cons (nth (mixedFn tk).body 1) .nil) := rfl
  show left (exec (run P (d + 1)) (mixedFn tk).body [some (.ref l i), some (.lst (qs.map g)), none, none] ([] :: put m l i (.lst [.int n]))) = _
  rw [hb, x_cons, s0, Res.then_nx, x_cons, s1, Res.then_rt]
  exact leave_any (x := .lst (ys.map g)) (by simp only [D.bd]; exact bd ys 0) [.lst []] _
end
end Fw

set_option Elab.async false
set_option linter.all false
set_option maxRecDepth 100000
set_option maxHeartbeats 2000000
set_option autoImplicit false
/-! ## Fw27: a pen: numbers drawn -/
namespace Fw
open PySem
def nextFn {ι : Type} : Fn ι := ⟨1, 1, (.cons (.asg (.name 0) (.bin .mod (.bin .add (.var 0) (.lit (.int 7919))) (.lit (.int 2147483647)))) (.cons (.ret (.bin .mod (.bin .add (.bin .add (.bin .mul (.var 0) (.var 0)) (.bin .mul (.lit (.int 48271)) (.var 0))) (.lit (.int 12345))) (.lit (.int 2147483629)))) .nil))⟩
def penFn {ι : Type} : Fn ι := ⟨1, 2, (.cons (.asg (.name 1) (.bi .max (.cons (.var 0) (.cons (.bin .sub (.lit (.int 0)) (.var 0)) .nil)))) (.cons (.ret (.new (.cons (.var 1) (.cons (.bi .int (.cons (.cmp .ge (.var 1) (.bin .pow (.lit (.int 10)) (.lit (.int 18)))) .nil)) (.cons (.bin .mod (.var 1) (.lit (.int 1000003))) .nil))))) .nil))⟩
def drawFn {ι : Type} (nx : ι) : Fn ι := ⟨2, 3, (.cons (.ifs (.and (.cmp .eq (.idx (.var 0) (.lit (.int 1))) (.lit (.int 1))) (.cmp .gt (.idx (.var 0) (.lit (.int 0))) (.lit (.int 0)))) (.cons (.asg (.name 2) (.bin .mod (.idx (.var 0) (.lit (.int 0))) (.var 1))) (.cons (.asg (.sub (.var 0) (.lit (.int 0))) (.bin .fdiv (.idx (.var 0) (.lit (.int 0))) (.var 1))) (.cons (.ret (.var 2)) .nil))) .nil) (.cons (.asg (.sub (.var 0) (.lit (.int 2))) (.call nx (.cons (.bin .add (.call nx (.cons (.idx (.var 0) (.lit (.int 2))) .nil)) (.lit (.int 7))) .nil))) (.cons (.ret (.bin .mod (.bin .fdiv (.idx (.var 0) (.lit (.int 2))) (.lit (.int 64))) (.var 1))) .nil)))⟩
/-- a pen as it lies -/
def Pen (o : MO) : Prop := ∃ a b c : Int, o = .lst [.int a, .int b, .int c]
section
variable {ι : Type} {P : ι → Fn ι} {f nx : ι}
theorem mulP {A B : Int} (a0 : 0 ≤ A) (a1 : A < 2 ^ 40) (b0 : 0 ≤ B) (b1 : B < 2 ^ 40) : A.natAbs.log2 + B.natAbs.log2 < 1000000 := by
  have h1 := log2_lt (natAbs_lt a0 a1) (by omega)
  have h2 := log2_lt (natAbs_lt b0 b1) (by omega)
  omega
theorem run_next (h : P f = nextFn) (d : Nat) (s : Int) (m : MH) : ∃ k : Int, run P (d + 1) f [.int s] m = .ok (.int k) m := by
  rw [run_s h rfl]
  have m0 := Int.emod_nonneg (s + 7919) (b := 2147483647) (by omega)
  have m1 := Int.emod_lt_of_pos (s + 7919) (b := 2147483647) (by omega)
  have e1 : ∀ m, arith .mod (.int (s + 7919)) (.int 2147483647) m = .ok (.int ((s + 7919) % 2147483647)) m := fun m => mod_int (by omega)
  generalize (s + 7919) % 2147483647 = M at m0 m1 e1
  refine ⟨(M * M + 48271 * M + 12345) % 2147483629, ?_⟩
  have e2 := fun m : MH => mul_int (i := M) (j := M) (m := m) (mulP m0 (by omega) m0 (by omega))
  have e3 := fun m : MH => mul_int (i := 48271) (j := M) (m := m) (mulP (by omega) (by omega) m0 (by omega))
  have e4 := fun m : MH => mod_int (i := M * M + 48271 * M + 12345) (j := 2147483629) (m := m) (by omega)
  simp [e1, e2, e3, e4, left, leave, D.bd]
theorem run_draw (h : P f = drawFn nx) (hn : P nx = nextFn) (d : Nat) {m : MH} {l i : Nat} {o : MO} (hg : get m l i = some o) (ho : Pen o) {far : Int} (h0 : 0 < far) (h1 : far.natAbs.log2 < 9000) :
    ∃ (k : Int) (o' : MO), 0 ≤ k ∧ k < far ∧ Pen o' ∧ run P (d + 2) f [.ref l i, .int far] m = .ok (.int k) (put m l i o') := by
  obtain ⟨a, b, c, rfl⟩ := ho
  rw [run_s h rfl]
  have g1 := get_nil_cons hg
  have p0 : place 3 0 = some 0 := rfl
  have p1 : place 3 1 = some 1 := rfl
  have p2 : place 3 2 = some 2 := rfl
  by_cases hc : b = 1 ∧ 0 < a
  · obtain ⟨rfl, ha⟩ := hc
    refine ⟨a % far, .lst [.int (a / far), .int 1, .int c], Int.emod_nonneg _ (by omega), Int.emod_lt_of_pos _ h0, ⟨_, _, _, rfl⟩, ?_⟩
    have g2 := put_nil_cons (o' := .lst [.int (a / far), .int 1, .int c]) hg
    simp [getAt, seqOf, g1, p0, p1, p2, eqD_int, ha, mod_int h0, fdiv_int h0 h1, setAt, D.bd, g2, left, leave]
  · obtain ⟨k1, e1⟩ := run_next hn d c ([] :: m)
    obtain ⟨k2, e2⟩ := run_next hn d (k1 + 7) ([] :: m)
    refine ⟨k2 / 64 % far, .lst [.int a, .int b, .int k2], Int.emod_nonneg _ (by omega), Int.emod_lt_of_pos _ h0, ⟨_, _, _, rfl⟩, ?_⟩
    have g2 := put_nil_cons (o' := .lst [.int a, .int b, .int k2]) hg
    have g3 : get ([] :: put m l i (.lst [.int a, .int b, .int k2])) l i = some (.lst [.int a, .int b, .int k2]) := get_nil_cons (get_put_same hg)
    have f64 := fun m : MH => fdiv_int (i := k2) (j := 64) (m := m) (by omega) (by decide)
    by_cases hb : b = 1
    · have ha : ¬ 0 < a := fun z => hc ⟨hb, z⟩
      simp [getAt, seqOf, g1, p0, p1, p2, eqD_int, hb, ha, e1, e2, setAt, D.bd, left, leave]
      subst hb
      simp [g2, g3, f64, mod_int h0, p2, left, leave, D.bd]
    · simp [getAt, seqOf, g1, p0, p1, p2, eqD_int, hb, e1, e2, setAt, D.bd, g2, g3, f64, mod_int h0, left, leave]
theorem run_drawC (h : P f = drawFn nx) (hn : P nx = nextFn) (d : Nat) {fr : List MO} {m : MH} {l i : Nat} {o : MO} (hl : Lv m l i) (ho : Pen o) {far : Int} (h0 : 0 < far) (h1 : far.natAbs.log2 < 9000) :
    ∃ (k : Int) (o' : MO), 0 ≤ k ∧ k < far ∧ Pen o' ∧ run P (d + 2) f [.ref l i, .int far] (fr :: put m l i o) = .ok (.int k) (fr :: put m l i o') := by
  obtain ⟨k, o', a, b, c, e⟩ := run_draw h hn d (get_under (fr := fr) (lv_get hl o)) ho h0 h1
  rw [put_under (by rw [put_length]; exact lv_lt hl), put_put] at e
  exact ⟨k, o', a, b, c, e⟩
theorem run_pen (h : P f = penFn) (d : Nat) (z : Int) (fr : List MO) (r : MH) : ∃ o, Pen o ∧ run P (d + 1) f [.int z] (fr :: r) = .ok (.ref r.length fr.length) ((fr ++ [o]) :: r) := by
  rw [run_s h rfl]
  have e0 : ∀ m, built .max [.int z, .int (-z)] m = some (.int (if -z > z then -z else z)) := fun _ => rfl
  generalize (if -z > z then -z else z) = w at e0
  have e1 : ∀ m, built .int [.bl (decide (1000000000000000000 ≤ w))] m = some (.int (if decide (1000000000000000000 ≤ w) then 1 else 0)) := fun _ => rfl
  have e2 := fun m : MH => mod_int (i := w) (j := 1000003) (m := m) (by omega)
  refine ⟨_, ⟨w, if decide (1000000000000000000 ≤ w) then 1 else 0, w % 1000003, rfl⟩, ?_⟩
  simp [e0, e1, e2, left, leave, alloc, MO.bd, bdL, D.bd]
end
end Fw

set_option Elab.async false
set_option linter.all false
set_option maxRecDepth 100000
set_option maxHeartbeats 2000000
set_option autoImplicit false
/-! ## Fw28: odd things off a pen; things bent, once and more -/
namespace Fw
open PySem
theorem fine_reprA {l c : Bool} {B : Nat} {x : D} (h : fine l c B x = true) (hB : B ≤ 2 ^ 1000) (h3 : dp x ≤ 60) (h4 : rm x ≤ 16777216) : ∃ s, ∀ m, reprD m x = some s := by
  obtain ⟨p, e, h1, _, _, h5, h6⟩ := fine_nc hB x h
  exact ⟨p.shown, fun m => reprD_of' (pd_dat' e) h1 (by omega) (by omega)⟩
theorem eqD_nil' {m : MH} {xs : List D} : eqD m (.tup xs) (.tup []) = some (decide (xs = [])) := by
  have e0 : strs2 (.tup xs) (.tup []) = none := rfl
  unfold eqD
  rw [e0]
  show orN (eqS m (.tup xs) (.tup [])) (eqN (.tup xs) (.tup [])) = _
  cases h : eqS m (.tup xs) (.tup []) with
  | none => rfl
  | some k =>
    obtain ⟨a, b, e1, e2, s1, s2, rfl⟩ := eqS_some h
    have e1' : pd (.tup xs) = some a := e1
    have := eqD_nil (m := m) e1' s1
    unfold eqD at this
    rw [e0] at this
    have this : orN (eqS m (.tup xs) (.tup [])) (eqN (.tup xs) (.tup [])) = some (decide (xs = [])) := this
    rw [h] at this
    exact this
theorem cut_one {xs : List D} : cut xs (some 1) none = xs.tail := by
  rw [← List.drop_one]
  cases xs with
  | nil => rfl
  | cons x xs => exact cut_from (k := 1) (by simp)
def odds2 : List D := [.non, .bl true, .bl false, .int (-1), .int 99, .int 100000000000, .str "", .str "0", .tup [], .lst [], .dct [] [], .tup [.tup []], .tup [.int 0], .lst [.int 0], .tup [.int 0, .int 0], .str "ab", .dct [0] [.int 1]]
def oddPFn {ι : Type} (dw : ι) : Fn ι := ⟨1, 2, (.cons (.asg (.name 1) (.lst (.cons (.lit .non) (.cons (.lit (.bl true)) (.cons (.lit (.bl false)) (.cons (.neg (.lit (.int 1))) (.cons (.lit (.int 99)) (.cons (.bin .pow (.lit (.int 10)) (.lit (.int 11))) (.cons (.lit (.str "")) (.cons (.lit (.str "0")) (.cons (.tup .nil) (.cons (.lst .nil) (.cons (.dlit [] []) (.cons (.tup (.cons (.tup .nil) .nil)) (.cons (.tup (.cons (.lit (.int 0)) .nil)) (.cons (.lst (.cons (.lit (.int 0)) .nil)) (.cons (.tup (.cons (.lit (.int 0)) (.cons (.lit (.int 0)) .nil))) (.cons (.lit (.str "ab")) (.cons (.dlit [0] [1]) .nil))))))))))))))))))) (.cons (.ret (.idx (.var 1) (.call dw (.cons (.var 0) (.cons (.lit (.int 17)) .nil))))) .nil))⟩
/-- a thing of so many items, so deep, of such room, of such numbers -/
def Bp (n dep room B : Nat) (y : D) : Prop := fine true true B y = true ∧ dp y ≤ dep ∧ rm y ≤ room ∧ lenT y ≤ n
theorem Bp.mono {n dep room B n' dep' room' B' : Nat} {y : D} (h : Bp n dep room B y) (h0 : n ≤ n') (h1 : dep ≤ dep') (h2 : room ≤ room') (h3 : B ≤ B') : Bp n' dep' room' B' y :=
  ⟨fine_mono (fun z => z) (fun z => z) h3 y h.1, Nat.le_trans h.2.1 h1, Nat.le_trans h.2.2.1 h2, Nat.le_trans h.2.2.2 h0⟩
theorem Bp.bd {n dep room B : Nat} {y : D} (h : Bp n dep room B y) (k : Nat) : y.bd k = true := fine_bd k y h.1
theorem Bp.pl {n dep room B : Nat} {y : D} (h : Bp n dep room B y) : pl y = true := fine_pl y h.1
theorem Bp.repr {n dep room B : Nat} {y : D} (h : Bp n dep room B y) (hB : B ≤ 2 ^ 1000) (h1 : dep ≤ 60) (h2 : room ≤ 16777216) : ∃ s, ∀ m, reprD m y = some s := by
  obtain ⟨h0, ha, hb, _⟩ := h
  exact fine_reprA h0 hB (by omega) (by omega)
theorem odd_bp : ∀ x ∈ odds2, Bp 2 3 8000 200000000000 x := by
  intro x hx
  simp only [odds2, List.mem_cons, List.not_mem_nil, or_false] at hx
  rcases hx with rfl | rfl | rfl | rfl | rfl | rfl | rfl | rfl | rfl | rfl | rfl | rfl | rfl | rfl | rfl | rfl | rfl
  all_goals exact ⟨by decide +kernel, by decide +kernel, by decide +kernel, by decide +kernel⟩
section
variable {ι : Type} {P : ι → Fn ι} {f dw nx od : ι} (hd : P dw = drawFn nx) (hn : P nx = nextFn) (ho : P od = oddPFn dw)
include hd hn ho
theorem run_oddP (d : Nat) {m : MH} {l i : Nat} {o : MO} (hg : get m l i = some o) (hp : Pen o) : ∃ x o', x ∈ odds2 ∧ Pen o' ∧ run P (d + 3) od [.ref l i] m = .ok x (put m l i o') := by
  have g1 := get_nil_cons hg
  obtain ⟨k, o', k0, k1, hp', e1⟩ := run_draw hd hn d g1 hp (far := 17) (by omega) (by decide)
  have g2 := put_nil_cons (o' := o') hg
  rw [g2] at e1
  obtain ⟨x, hx, e⟩ := pick (xs := odds2) (i := k) k0 (by show k < ((17 : Nat) : Int); omega)
  refine ⟨x, o', hx, hp', ?_⟩
  rw [run_s ho rfl]
  have e' : ∀ m, getAt m (.lst [.non, .bl true, .bl false, .int (-1), .int 99, .int 100000000000, .str "", .str "0", .tup [], .lst [], .dct [] [], .tup [.tup []], .tup [.int 0], .lst [.int 0], .tup [.int 0, .int 0], .str "ab", .dct [0] [.int 1]]) (.int k) = some x := e
  have hb := (odd_bp x hx).bd m.length
  have hl : ∀ r : MH, leave x ([] :: r) = if x.bd r.length then .ok x r else .fail := fun r => by
    cases x with
    | ref => simp [odds2] at hx
    | _ => rfl
  simp [e1, e', left, hl, put_length, hb]
theorem odd_pc (d : Nat) {fr : List MO} {m : MH} {l i : Nat} (hl : Lv m l i) {o : MO} (hp : Pen o) : ∃ x o', x ∈ odds2 ∧ Pen o' ∧ run P (d + 3) od [.ref l i] (fr :: put m l i o) = .ok x (fr :: put m l i o') := by
  obtain ⟨x, o', hx, hp', e⟩ := run_oddP hd hn ho d (get_under (fr := fr) (lv_get hl o)) hp
  rw [put_under (by rw [put_length]; exact lv_lt hl), put_put] at e
  exact ⟨x, o', hx, hp', e⟩
end
def bentPFn {ι : Type} (dw od self : ι) : Fn ι := ⟨2, 4, (.cons (.asg (.name 2) (.call dw (.cons (.var 0) (.cons (.lit (.int 8)) .nil)))) (.cons (.ifs (.not (.isi (.var 1) .tuple)) (.cons (.ifs (.and (.isi (.var 1) .int) (.cmp .lt (.var 2) (.lit (.int 5)))) (.cons (.ret (.idx (.lst (.cons (.bin .add (.var 1) (.lit (.int 1))) (.cons (.bin .sub (.var 1) (.lit (.int 1))) (.cons (.bin .sub (.lit (.int 0)) (.var 1)) (.cons (.lit (.bl true)) (.cons (.bin .add (.var 1) (.lit (.int 7))) .nil)))))) (.var 2))) .nil) .nil) (.cons (.ret (.call od (.cons (.var 0) .nil))) .nil)) .nil) (.cons (.ifs (.or (.cmp .eq (.var 1) (.tup .nil)) (.cmp .eq (.var 2) (.lit (.int 0)))) (.cons (.ret (.idx (.lst (.cons (.bi .list (.cons (.var 1) .nil)) (.cons (.bin .add (.var 1) (.tup (.cons (.call od (.cons (.var 0) .nil)) .nil))) (.cons (.call od (.cons (.var 0) .nil)) (.cons (.rev (.var 1)) (.cons (.sl (.var 1) (.lit (.int 1)) .nil) .nil)))))) (.call dw (.cons (.var 0) (.cons (.lit (.int 5)) .nil))))) .nil) .nil) (.cons (.asg (.name 3) (.call dw (.cons (.var 0) (.cons (.bi .len (.cons (.var 1) .nil)) .nil)))) (.cons (.ifs (.cmp .eq (.var 2) (.lit (.int 1))) (.cons (.ret (.bin .add (.sl (.var 1) .nil (.var 3)) (.sl (.var 1) (.bin .add (.var 3) (.lit (.int 1))) .nil))) .nil) .nil) (.cons (.ifs (.cmp .eq (.var 2) (.lit (.int 2))) (.cons (.ret (.bin .add (.bin .add (.sl (.var 1) .nil (.var 3)) (.sl (.var 1) (.var 3) (.bin .add (.var 3) (.lit (.int 1))))) (.sl (.var 1) (.var 3) .nil))) .nil) .nil) (.cons (.ret (.bin .add (.bin .add (.sl (.var 1) .nil (.var 3)) (.tup (.cons (.call self (.cons (.var 0) (.cons (.idx (.var 1) (.var 3)) .nil))) .nil))) (.sl (.var 1) (.bin .add (.var 3) (.lit (.int 1))) .nil))) .nil)))))))⟩
theorem addBI (b : Bool) (i : Int) (m : MH) : arith .add (.bl b) (.int i) m = .ok (.int ((if b then 1 else 0) + i)) m := rfl
theorem subBI (b : Bool) (i : Int) (m : MH) : arith .sub (.bl b) (.int i) m = .ok (.int ((if b then 1 else 0) - i)) m := rfl
theorem subIB (b : Bool) (i : Int) (m : MH) : arith .sub (.int i) (.bl b) m = .ok (.int (i - if b then 1 else 0)) m := rfl
theorem five {x : D} {B : Nat} (hx : fine true true B x = true) (hi : (∃ j, x = .int j) ∨ ∃ b, x = .bl b) (k : Int) (k0 : 0 ≤ k) (k1 : k < 5) :
    ∃ a b c e y : D, (∀ m, arith .add x (.int 1) m = .ok a m) ∧ (∀ m, arith .sub x (.int 1) m = .ok b m) ∧ (∀ m, arith .sub (.int 0) x m = .ok c m) ∧ (∀ m, arith .add x (.int 7) m = .ok e m) ∧ (∀ m, getAt m (.lst [a, b, c, .bl true, e]) (.int k) = some y) ∧ Bp 2 4 9000 (B + 200000000000) y := by
  have small : ∀ {y : D}, (∃ j : Int, y = .int j ∧ j.natAbs < B + 200000000000) ∨ (∃ b, y = .bl b) → Bp 2 4 9000 (B + 200000000000) y := by
    rintro y (⟨j, rfl, hj⟩ | ⟨b, rfl⟩)
    · exact ⟨by simpa [fine] using hj, by simp [dp], by simp [rm], by simp [lenT]⟩
    · exact ⟨rfl, by simp [dp], by simp [rm], by simp [lenT]⟩
  rcases hi with ⟨j, rfl⟩ | ⟨b, rfl⟩
  · simp only [fine, decide_eq_true_eq] at hx
    obtain ⟨y, hy, e⟩ := pick (xs := [.int (j + 1), .int (j - 1), .int (0 - j), .bl true, .int (j + 7)]) (i := k) k0 (by show k < ((5 : Nat) : Int); omega)
    refine ⟨_, _, _, _, y, fun m => rfl, fun m => rfl, fun m => rfl, fun m => rfl, e, small ?_⟩
    simp only [List.mem_cons, List.not_mem_nil, or_false] at hy
    rcases hy with rfl | rfl | rfl | rfl | rfl
    · exact .inl ⟨_, rfl, by omega⟩
    · exact .inl ⟨_, rfl, by omega⟩
    · exact .inl ⟨_, rfl, by omega⟩
    · exact .inr ⟨_, rfl⟩
    · exact .inl ⟨_, rfl, by omega⟩
  · obtain ⟨y, hy, e⟩ := pick (xs := [.int ((if b then 1 else 0) + 1), .int ((if b then 1 else 0) - 1), .int (0 - if b then 1 else 0), .bl true, .int ((if b then 1 else 0) + 7)]) (i := k) k0 (by show k < ((5 : Nat) : Int); omega)
    refine ⟨_, _, _, _, y, fun m => rfl, fun m => rfl, fun m => rfl, fun m => rfl, e, small ?_⟩
    simp only [List.mem_cons, List.not_mem_nil, or_false] at hy
    rcases hy with rfl | rfl | rfl | rfl | rfl
    · exact .inl ⟨_, rfl, by split <;> omega⟩
    · exact .inl ⟨_, rfl, by split <;> omega⟩
    · exact .inl ⟨_, rfl, by split <;> omega⟩
    · exact .inr ⟨_, rfl⟩
    · exact .inl ⟨_, rfl, by split <;> omega⟩
section
variable {ι : Type} {P : ι → Fn ι} {f dw nx od : ι} (h : P f = bentPFn dw od f) (hd : P dw = drawFn nx) (hn : P nx = nextFn) (ho : P od = oddPFn dw)
include h hd hn ho
/-- what is no tuple -/
theorem bentP_flat (d : Nat) {m : MH} {l i : Nat} {o : MO} {B : Nat} {x : D} (hx : fine true true B x = true) (hnt : ∀ xs, x ≠ .tup xs) (hg : get m l i = some o) (hp : Pen o) :
    ∃ y o', Pen o' ∧ run P (d + 4) f [.ref l i, x] m = .ok y (put m l i o') ∧ Bp 2 4 9000 (B + 200000000000) y := by
  have hl : Lv m l i := by unfold Lv; rw [hg]; rfl
  have hpl := fine_pl x hx
  rw [run_s h rfl, ← put_self hg]
  have kn := ty_bd hpl
  have ty := notup hpl hnt
  obtain ⟨k, o1, k0, k1, hp1, e8⟩ := run_drawC hd hn (d + 1) (fr := []) hl hp (far := 8) (by omega) (by decide)
  obtain ⟨z, o2, hz, hp2, e9⟩ := odd_pc hd hn ho d (fr := []) hl hp1
  have fin : ∀ {y : D} {o' : MO}, y.bd 0 = true → left (.ok (.rt y) ([] :: put m l i o')) = .ok y (put m l i o') := fun hy => leave_fine hy _
  have hodd : Bp 2 4 9000 (B + 200000000000) z := (odd_bp z hz).mono (by omega) (by omega) (by omega) (by omega)
  have fz := fin (o' := o2) (hodd.bd 0)
  by_cases hi : (∃ j, x = .int j) ∨ ∃ b, x = .bl b
  · have isi : ∀ m, isTy m .int x = true := fun m => by rcases hi with ⟨j, rfl⟩ | ⟨b, rfl⟩ <;> rfl
    by_cases h5 : k < 5
    · obtain ⟨a, b, c, e, y, ea, eb, ec, ee, ey, hy⟩ := five hx hi k k0 h5
      refine ⟨y, o1, hp1, ?_, hy⟩
      have fy := fin (o' := o1) (hy.bd 0)
      simp [e8, kn, ty, isi, h5, ea, eb, ec, ee, ey, fy]
    · refine ⟨z, o2, hp2, ?_, hodd⟩
      simp [e8, kn, ty, isi, h5, e9, fz]
  · have isi : ∀ m, isTy m .int x = false := fun m => by
      cases x <;> first | rfl | exact absurd (.inl ⟨_, rfl⟩) hi | exact absurd (.inr ⟨_, rfl⟩) hi
    refine ⟨z, o2, hp2, ?_, hodd⟩
    simp [e8, kn, ty, isi, e9, fz]
theorem bentP_ok : ∀ (k d : Nat) {m : MH} {l i : Nat} {o : MO} {B : Nat} {x : D}, dp x ≤ k → k ≤ 50 → fine true true B x = true → rm x ≤ 4000000 → get m l i = some o → Pen o →
    ∃ y o', Pen o' ∧ run P (d + k + 4) f [.ref l i, x] m = .ok y (put m l i o') ∧ Bp (lenT x + 2) (dp x + 4) (2 * rm x + 9000) (B + 200000000000) y := by
  intro k
  induction k with
  | zero =>
    intro d m l i o B x hdx _ hx hr hg hp
    obtain ⟨y, o', a, b, c⟩ := bentP_flat h hd hn ho d hx (fun xs e => by subst e; simp only [dp] at hdx; omega) hg hp
    exact ⟨y, o', a, b, c.mono (by omega) (by omega) (by omega) (by omega)⟩
  | succ k ih =>
    intro d m l i o B x hdx hk hx hr hg hp
    by_cases htup : ∃ xs, x = .tup xs
    case neg =>
      obtain ⟨y, o', a, b, c⟩ := bentP_flat h hd hn ho (d + (k + 1)) hx (fun xs e => htup ⟨xs, e⟩) hg hp
      exact ⟨y, o', a, b, c.mono (by omega) (by omega) (by omega) (by omega)⟩
    obtain ⟨xs, rfl⟩ := htup
    have hl : Lv m l i := by unfold Lv; rw [hg]; rfl
    have up : ∀ {zs : List D}, fineL true true B zs = true → fineL true true (B + 200000000000) zs = true := fun {zs} q => fineL_mono (by simp) (by simp) (by omega) zs q
    have hxs : fineL true true B xs = true := by simpa only [fine] using hx
    have hlen := rmL_len xs
    simp only [rm] at hr
    have hdx' : dpL xs ≤ k := by simp only [dp] at hdx; omega
    suffices hsuf : ∃ y o', Pen o' ∧ run P (d + (k + 1) + 4) f [.ref l i, .tup xs] (put m l i o) = .ok y (put m l i o') ∧ Bp (lenT (.tup xs) + 2) (dp (.tup xs) + 4) (2 * rm (.tup xs) + 9000) (B + 200000000000) y by rwa [put_self hg] at hsuf
    rw [show d + (k + 1) + 4 = d + k + 4 + 1 from by omega, run_b h rfl]
    have hbody : (bentPFn dw od f).body = .cons (nth (bentPFn dw od f).body 0) (.cons (nth (bentPFn dw od f).body 1) (.cons (nth (bentPFn dw od f).body 2) (.cons (nth (bentPFn dw od f).body 3) (.cons (nth (bentPFn dw od f).body 4) (.cons (nth (bentPFn dw od f).body 5) (.cons (nth (bentPFn dw od f).body 6) .nil)))))) := rfl
    have fin : ∀ {y : D} {o' : MO}, y.bd 0 = true → left (.ok (.rt y) ([] :: put m l i o')) = .ok y (put m l i o') := fun hy => leave_fine hy _
    obtain ⟨wy, o1, w0, w1, hp1, e8⟩ := run_drawC hd hn (d + k + 2) (fr := []) hl hp (far := 8) (by omega) (by decide)
    have ty : ∀ m, isTy m .tuple (.tup xs) = true := fun _ => rfl
    have kn : ∀ m, tyKnown m (.tup xs) = true := fun _ => rfl
    have en : ∀ m, eqD m (.tup xs) (.tup []) = some (decide (xs = [])) := fun m => eqD_nil'
    have lt : ∀ m, built .list [.tup xs] m = some (.lst xs) := fun _ => rfl
    have ln : ∀ m, built .len [.tup xs] m = some (.int xs.length) := fun _ => rfl
    have rv : ∀ m, revD m (.tup xs) = some (.tup xs.reverse) := fun _ => rfl
    have bdx : bdL 0 xs = true := fineL_bd 0 xs hxs
    have s0 : exec (run P (d + k + 4)) (nth (bentPFn dw od f).body 0) [some (.ref l i), some (.tup xs), none, none] ([] :: put m l i o) = .ok (.nx [some (.ref l i), some (.tup xs), some (.int wy), none]) ([] :: put m l i o1) := by
      simp [nth, bentPFn, e8]
    have s1 : exec (run P (d + k + 4)) (nth (bentPFn dw od f).body 1) [some (.ref l i), some (.tup xs), some (.int wy), none] ([] :: put m l i o1) = .ok (.nx [some (.ref l i), some (.tup xs), some (.int wy), none]) ([] :: put m l i o1) := by
      simp [nth, bentPFn, kn, ty]
    have q2 : xs = [] ∨ wy = 0 → ∃ y o', Pen o' ∧ exec (run P (d + k + 4)) (nth (bentPFn dw od f).body 2) [some (.ref l i), some (.tup xs), some (.int wy), none] ([] :: put m l i o1) = .ok (.rt y) ([] :: put m l i o') ∧ Bp (lenT (.tup xs) + 2) (dp (.tup xs) + 4) (2 * rm (.tup xs) + 9000) (B + 200000000000) y := by
      intro hor
      obtain ⟨x1, o2, hx1, hp2, e1⟩ := odd_pc hd hn ho (d + k + 1) (fr := []) hl hp1
      obtain ⟨x2, o3, hx2, hp3, e2⟩ := odd_pc hd hn ho (d + k + 1) (fr := []) hl hp2
      obtain ⟨j, o4, j0, j1, hp4, e5⟩ := run_drawC hd hn (d + k + 2) (fr := []) hl hp3 (far := 5) (by omega) (by decide)
      have c1 := fun m => tup_cat (m := m) (xs := xs) (ys := [x1]) (by simp; omega)
      obtain ⟨q, hq, e⟩ := pick (xs := [.lst xs, .tup (xs ++ [x1]), x2, .tup xs.reverse, .tup xs.tail]) (i := j) j0 (by show j < ((5 : Nat) : Int); omega)
      have hrev : ∀ zs : List D, fineL true true B zs.reverse = fineL true true B zs ∧ rmL zs.reverse = rmL zs ∧ dpL zs.reverse = dpL zs := by
        intro zs
        induction zs with
        | nil => exact ⟨rfl, rfl, rfl⟩
        | cons z zs ihz =>
          obtain ⟨i1, i2, i3⟩ := ihz
          refine ⟨?_, ?_, ?_⟩
          · simp only [List.reverse_cons, fineL_append, i1, fineL, Bool.and_true]
            exact Bool.and_comm _ _
          · simp only [List.reverse_cons, rmL_append, i2, rmL]; omega
          · simp only [List.reverse_cons, dpL_append, i3, dpL]; omega
      have hb : Bp (lenT (.tup xs) + 2) (dp (.tup xs) + 4) (2 * rm (.tup xs) + 9000) (B + 200000000000) q := by
        simp only [List.mem_cons, List.not_mem_nil, or_false] at hq
        rcases hq with rfl | rfl | rfl | rfl | rfl
        · refine ⟨?_, ?_, ?_, ?_⟩
          · simp only [fine, Bool.true_and]; exact up hxs
          · simp only [dp]; omega
          · simp only [rm]; omega
          · simp [lenT]
        · have hz := odd_bp _ hx1
          refine ⟨?_, ?_, ?_, ?_⟩
          · simp only [fine, fineL_append, fineL, Bool.and_true, Bool.and_eq_true]
            exact ⟨up hxs, fine_mono (by simp) (by simp) (by omega) _ hz.1⟩
          · have := hz.2.1
            simp only [dp, dpL_append, dpL]; omega
          · have := hz.2.2.1
            simp only [rm, rmL_append, rmL]; omega
          · simp [lenT]
        · exact (odd_bp _ hx2).mono (by omega) (by omega) (by omega) (by omega)
        · obtain ⟨i1, i2, i3⟩ := hrev xs
          refine ⟨?_, ?_, ?_, ?_⟩
          · simp only [fine]
            exact up (by rw [i1]; exact hxs)
          · simp only [dp, i3]; omega
          · simp only [rm, i2]; omega
          · simp [lenT]
        · rw [← List.drop_one]
          have hsp := List.take_append_drop 1 xs
          have f2 : fineL true true B (xs.drop 1) = true := by
            have := fineL_append (l := true) (c := true) (B := B) (xs.take 1) (xs.drop 1)
            rw [hsp, hxs] at this
            simp only [Bool.true_eq, Bool.and_eq_true] at this
            exact this.2
          have r2 : rmL (xs.drop 1) ≤ rmL xs := by
            have := rmL_append (xs.take 1) (xs.drop 1)
            rw [hsp] at this
            omega
          have d2 : dpL (xs.drop 1) ≤ dpL xs := by
            have := dpL_append (xs.take 1) (xs.drop 1)
            rw [hsp] at this
            omega
          refine ⟨?_, ?_, ?_, ?_⟩
          · simp only [fine]; exact up f2
          · simp only [dp]; omega
          · simp only [rm]; omega
          · simp [lenT]; omega
      refine ⟨q, o4, hp4, ?_, hb⟩
      by_cases h0 : xs = []
      · have en' : ∀ m, eqD m (.tup xs) (.tup []) = some true := fun m => by rw [en]; simp [h0]
        simp [nth, bentPFn, eqD_int, en', e1, e2, lt, rv, slD_tup, cut_one, c1, e5, e]
      · have h1 := hor.resolve_left h0
        have en' : ∀ m, eqD m (.tup xs) (.tup []) = some false := fun m => by rw [en]; simp [h0]
        subst h1
        simp [nth, bentPFn, eqD_int, en', e1, e2, lt, rv, slD_tup, cut_one, c1, e5, e]
    rw [hbody]
    simp only [x_cons]
    have e0 : (([D.ref l i, D.tup xs].map some ++ List.replicate ((bentPFn dw od f).ns - (bentPFn dw od f).np) none) : Env) = [some (.ref l i), some (.tup xs), none, none] := rfl
    rw [e0, s0]
    simp only [Res.then_nx]
    rw [s1]
    simp only [Res.then_nx]
    by_cases h0 : xs = [] ∨ wy = 0
    · obtain ⟨y, o', hp', e, hy⟩ := q2 h0
      refine ⟨y, o', hp', ?_, hy⟩
      rw [e]
      exact fin (hy.bd 0)
    · simp only [not_or] at h0
      obtain ⟨hne, h0⟩ := h0
      have en' : ∀ m, eqD m (.tup xs) (.tup []) = some false := fun m => by rw [en]; simp [hne]
      have s2 : exec (run P (d + k + 4)) (nth (bentPFn dw od f).body 2) [some (.ref l i), some (.tup xs), some (.int wy), none] ([] :: put m l i o1) = .ok (.nx [some (.ref l i), some (.tup xs), some (.int wy), none]) ([] :: put m l i o1) := by
        simp [nth, bentPFn, h0, eqD_int, en']
      have hpos : 0 < xs.length := List.length_pos_iff.mpr hne
      obtain ⟨a, o2, a0, a1, hp2, el⟩ := run_drawC hd hn (d + k + 2) (fr := []) hl hp1 (far := xs.length) (by omega) (by
        have := log2_lt (n := (xs.length : Int).natAbs) (k := 40) (by simp; omega) (by omega)
        omega)
      obtain ⟨at_, hat⟩ := Int.eq_ofNat_of_zero_le a0
      subst hat
      have hlt : at_ < xs.length := by omega
      have s3 : exec (run P (d + k + 4)) (nth (bentPFn dw od f).body 3) [some (.ref l i), some (.tup xs), some (.int wy), none] ([] :: put m l i o1) = .ok (.nx [some (.ref l i), some (.tup xs), some (.int wy), some (.int (at_ : Int))]) ([] :: put m l i o2) := by
        simp [nth, bentPFn, ln, el]
      have k1 : ((at_ : Int) + 1) = ((at_ + 1 : Nat) : Int) := by omega
      have ct := cut_to (xs := xs) (k := at_) (by omega)
      have cf := cut_from (xs := xs) (k := at_ + 1) (by omega)
      have cf0 := cut_from (xs := xs) (k := at_) (by omega)
      have cm := cut_mid (xs := xs) (j := at_) (k := at_ + 1) (by omega) (by omega)
      have hsp : xs.take at_ ++ [xs[at_]] ++ xs.drop (at_ + 1) = xs := by
        rw [List.append_assoc]
        show xs.take at_ ++ (xs[at_] :: xs.drop (at_ + 1)) = xs
        rw [← List.drop_eq_getElem_cons hlt, List.take_append_drop]
      have one : (xs.drop at_).take (at_ + 1 - at_) = [xs[at_]] := by
        rw [show at_ + 1 - at_ = 1 from by omega, List.drop_eq_getElem_cons hlt]
        rfl
      rw [one] at cm
      have fa := hxs
      rw [← hsp] at fa
      simp only [fineL_append, Bool.and_eq_true, fineL, Bool.and_true] at fa
      obtain ⟨⟨f1, f2⟩, f3⟩ := fa
      have ra : rmL xs = rmL (xs.take at_) + (rm xs[at_] + 2) + rmL (xs.drop (at_ + 1)) := by
        conv => lhs; rw [← hsp]
        simp only [rmL_append, rmL, Nat.add_zero]
      have da : dpL xs = max (max (dpL (xs.take at_)) (dp xs[at_])) (dpL (xs.drop (at_ + 1))) := by
        have q := congrArg dpL hsp
        simp only [dpL_append, dpL] at q
        omega
      have l1 : (xs.take at_).length = at_ := by simp; omega
      have l3 : (xs.drop (at_ + 1)).length = xs.length - (at_ + 1) := by simp
      have l4 : (xs.drop at_).length = xs.length - at_ := by simp
      rw [s2]
      simp only [Res.then_nx]
      rw [s3]
      simp only [Res.then_nx]
      by_cases w1 : wy = 1
      · have hy : Bp (lenT (.tup xs) + 2) (dp (.tup xs) + 4) (2 * rm (.tup xs) + 9000) (B + 200000000000) (.tup (xs.take at_ ++ xs.drop (at_ + 1))) := by
          refine ⟨?_, ?_, ?_, ?_⟩
          · simp only [fine, fineL_append, Bool.and_eq_true]
            exact ⟨up f1, up f3⟩
          · simp only [dp, dpL_append]; omega
          · simp only [rm, rmL_append]; omega
          · simp only [lenT, List.length_append]; omega
        have cc := fun m => tup_cat (m := m) (xs := xs.take at_) (ys := xs.drop (at_ + 1)) (by omega)
        have s4 : exec (run P (d + k + 4)) (nth (bentPFn dw od f).body 4) [some (.ref l i), some (.tup xs), some (.int wy), some (.int (at_ : Int))] ([] :: put m l i o2) = .ok (.rt (.tup (xs.take at_ ++ xs.drop (at_ + 1)))) ([] :: put m l i o2) := by
          simp only [nth, bentPFn, x_ifs, t_cmp, e_var, e_lit, at_succ, at_zero, Res.of_some, Res.bind_ok, lit_int, cmp_eq, eqD_int, w1, decide_true, Res.st_ok, if_true, x_cons, x_ret, e_bin, e_sl, o_nil, o_var, o_bin, add_int, slD_tup, ct, cf, k1, cc, Res.then_rt]
        refine ⟨_, o2, hp2, ?_, hy⟩
        rw [s4]
        exact fin (hy.bd 0)
      · have s4 : exec (run P (d + k + 4)) (nth (bentPFn dw od f).body 4) [some (.ref l i), some (.tup xs), some (.int wy), some (.int (at_ : Int))] ([] :: put m l i o2) = .ok (.nx [some (.ref l i), some (.tup xs), some (.int wy), some (.int (at_ : Int))]) ([] :: put m l i o2) := by
          simp [nth, bentPFn, eqD_int, w1]
        rw [s4]
        simp only [Res.then_nx]
        by_cases w2 : wy = 2
        · have hy : Bp (lenT (.tup xs) + 2) (dp (.tup xs) + 4) (2 * rm (.tup xs) + 9000) (B + 200000000000) (.tup (xs.take at_ ++ [xs[at_]] ++ xs.drop at_)) := by
            have e4 : xs.drop at_ = [xs[at_]] ++ xs.drop (at_ + 1) := List.drop_eq_getElem_cons hlt
            have lt2 : (xs.take at_ ++ [xs[at_]] ++ xs.drop at_).length ≤ xs.length + 2 := by
              simp only [List.length_append, List.length_singleton]; omega
            refine ⟨?_, ?_, ?_, lt2⟩
            · rw [e4]
              simp only [fine, fineL_append, fineL, Bool.and_eq_true, Bool.and_true]
              have g1 := up f1
              have g2 := fine_mono (l' := true) (c' := true) (B' := B + 200000000000) (by simp) (by simp) (by omega) _ f2
              have g3 := up f3
              exact ⟨⟨g1, g2⟩, g2, g3⟩
            · rw [e4]; simp only [dp, dpL_append, dpL]; omega
            · rw [e4]; simp only [rm, rmL_append, rmL]; omega
          have cc := fun m => tup_cat (m := m) (xs := xs.take at_) (ys := [xs[at_]]) (by simp; omega)
          have cc2 := fun m => tup_cat (m := m) (xs := xs.take at_ ++ [xs[at_]]) (ys := xs.drop at_) (by simp; omega)
          have s5 : exec (run P (d + k + 4)) (nth (bentPFn dw od f).body 5) [some (.ref l i), some (.tup xs), some (.int wy), some (.int (at_ : Int))] ([] :: put m l i o2) = .ok (.rt (.tup (xs.take at_ ++ [xs[at_]] ++ xs.drop at_))) ([] :: put m l i o2) := by
            simp only [nth, bentPFn, x_ifs, t_cmp, e_var, e_lit, at_succ, at_zero, Res.of_some, Res.bind_ok, lit_int, cmp_eq, eqD_int, w2, decide_true, Res.st_ok, if_true, x_cons, x_ret, e_bin, e_sl, o_nil, o_var, o_bin, add_int, slD_tup, ct, cm, k1, cf0, cc, cc2, Res.then_rt]
          refine ⟨_, o2, hp2, ?_, hy⟩
          rw [s5]
          exact fin (hy.bd 0)
        · have s5 : exec (run P (d + k + 4)) (nth (bentPFn dw od f).body 5) [some (.ref l i), some (.tup xs), some (.int wy), some (.int (at_ : Int))] ([] :: put m l i o2) = .ok (.nx [some (.ref l i), some (.tup xs), some (.int wy), some (.int (at_ : Int))]) ([] :: put m l i o2) := by
            simp [nth, bentPFn, eqD_int, w2]
          rw [s5]
          simp only [Res.then_nx]
          obtain ⟨y, o3, hp3, e, hy⟩ := ih d (m := [] :: put m l i o2) (o := o2) (x := xs[at_]) (by omega) (by omega) f2 (by omega) (get_under (lv_get hl _)) hp2
          rw [put_under (by rw [put_length]; exact lv_lt hl), put_put] at e
          have hyy : Bp (lenT (.tup xs) + 2) (dp (.tup xs) + 4) (2 * rm (.tup xs) + 9000) (B + 200000000000) (.tup (xs.take at_ ++ [y] ++ xs.drop (at_ + 1))) := by
            obtain ⟨y1, y2, y3, _⟩ := hy
            refine ⟨?_, ?_, ?_, ?_⟩
            · simp only [fine, fineL_append, fineL, Bool.and_eq_true, Bool.and_true]
              exact ⟨⟨up f1, y1⟩, up f3⟩
            · simp only [dp, dpL_append, dpL]; omega
            · simp only [rm, rmL_append, rmL]; omega
            · simp only [lenT, List.length_append, List.length_singleton]; omega
          have ga : ∀ m, getAt m (.tup xs) (.int (at_ : Int)) = some xs[at_] := fun m => by
            simp only [getAt, seqOf, Option.bind_some, place_nat hlt]
            exact List.getElem?_eq_getElem hlt
          have cc := fun m => tup_cat (m := m) (xs := xs.take at_) (ys := [y]) (by simp; omega)
          have cc2 := fun m => tup_cat (m := m) (xs := xs.take at_ ++ [y]) (ys := xs.drop (at_ + 1)) (by simp; omega)
          have s6 : exec (run P (d + k + 4)) (nth (bentPFn dw od f).body 6) [some (.ref l i), some (.tup xs), some (.int wy), some (.int (at_ : Int))] ([] :: put m l i o2) = .ok (.rt (.tup (xs.take at_ ++ [y] ++ xs.drop (at_ + 1)))) ([] :: put m l i o3) := by
            simp only [nth, bentPFn, x_ret, e_bin, e_sl, o_nil, o_var, o_bin, e_var, e_lit, at_succ, at_zero, Res.of_some, Res.bind_ok, lit_int, add_int, slD_tup, ct, k1, cf, e_tup, l_cons, l_nil, e_call, e_idx, ga, e, List.length_cons, List.length_nil, sz1, Nat.zero_add, if_true, cc, cc2, Res.st_ok]
          refine ⟨_, o3, hp3, ?_, hyy⟩
          rw [s6]
          exact fin (hyy.bd 0)
end
end Fw

set_option Elab.async false
set_option linter.all false
set_option maxRecDepth 100000
set_option maxHeartbeats 2000000
set_option autoImplicit false
/-! ## Fw29: rows drawn off a pen -/
namespace Fw
open PySem
def rT (R : List (List Int)) : D := .tup (R.map fun r => .tup (iL r))
/-- rows of so many places, of one sum -/
structure Rws (n : Nat) (w : Int) (R : List (List Int)) : Prop where
  len : R.length = n
  row : ∀ r ∈ R, r.length = n
  nn : ∀ r ∈ R, ∀ z ∈ r, 0 ≤ z
  sum : ∀ r ∈ R, r.sum = w
def rI (n : Nat) : List Int := (List.range n).map fun k : Nat => (k : Int)
theorem range_I (n : Nat) : rangeD 0 (n : Int) = iL (rI n) := by
  rw [range_D, iL, rI, List.map_map]
  rfl
theorem rI_mem {n : Nat} {z : Int} : z ∈ rI n ↔ 0 ≤ z ∧ z < n := by
  unfold rI
  simp only [List.mem_map, List.mem_range]
  constructor
  · rintro ⟨k, hk, rfl⟩; omega
  · rintro ⟨h0, h1⟩
    exact ⟨z.toNat, by omega, by omega⟩
theorem rI_len (n : Nat) : (rI n).length = n := by simp [rI]
theorem sum_set1 : ∀ (r : List Int) (k : Nat) (h : k < r.length), (r.set k (r[k] + 1)).sum = r.sum + 1
  | [], k, h => by simp at h
  | x :: xs, 0, h => by simp; omega
  | x :: xs, k + 1, h => by
    have := sum_set1 xs k (by simpa using h)
    simp only [List.set_cons_succ, List.sum_cons, List.getElem_cons_succ, this]
    omega
/-- places to be led to -/
def Gd (n : Nat) (ks : List Int) : Prop := ks ≠ [] ∧ ks.length ≤ 10000 ∧ ∀ k ∈ ks, 0 ≤ k ∧ k < n
def rowsB {ι : Type} (dw : ι) : S ι := (.cons (.asg (.name 7) (.lrng .lst (.var 4))) (.cons (.ifs (.cmp .eq (.var 6) (.lit (.int 1))) (.cons (.asg (.name 7) (.lst (.cons (.call dw (.cons (.var 0) (.cons (.var 4) .nil))) (.cons (.call dw (.cons (.var 0) (.cons (.var 4) .nil))) .nil)))) .nil) .nil) (.cons (.ifs (.cmp .eq (.var 6) (.lit (.int 2))) (.cons (.asg (.name 7) (.lst (.cons (.bin .mod (.bin .add (.var 3) (.lit (.int 1))) (.var 4)) .nil))) .nil) .nil) (.cons (.ifs (.cmp .eq (.var 6) (.lit (.int 3))) (.cons (.asg (.name 7) (.bin .add (.lc false [("_law_y", 10)] (.name 10) (.rng1 (.var 4)) (.cmp .ne (.bin .mod (.var 10) (.lit (.int 2))) (.bin .mod (.var 3) (.lit (.int 2)))) (.var 10)) (.bin .mul (.lst (.cons (.var 3) .nil)) (.bi .int (.cons (.cmp .eq (.var 4) (.lit (.int 1))) .nil))))) .nil) .nil) (.cons (.ifs (.cmp .eq (.var 6) (.lit (.int 4))) (.cons (.setLc 7 (.lc false [("_law_y", 10)] (.name 10) (.rng1 (.var 4)) (.cmp .eq (.bin .fdiv (.var 10) (.lit (.int 2))) (.bin .fdiv (.var 3) (.lit (.int 2)))) (.var 10))) .nil) .nil) (.cons (.ifs (.cmp .eq (.var 6) (.lit (.int 5))) (.cons (.asg (.name 7) (.lrng .lst (.bin .add (.var 3) (.lit (.int 1))))) .nil) .nil) (.cons (.asg (.name 8) (.nbin .mul (.lst (.cons (.lit (.int 0)) .nil)) (.var 4))) (.cons (.for_ (.name 9) (.rng1 (.var 5)) (.cons (.augS (.var 8) (.idx (.var 7) (.call dw (.cons (.var 0) (.cons (.bi .len (.cons (.var 7) .nil)) .nil)))) .add (.lit (.int 1))) .nil)) (.cons (.exp (.app (.var 2) (.bi .tuple (.cons (.var 8) .nil)))) .nil)))))))))
def rowsFn {ι : Type} (dw : ι) : Fn ι := ⟨2, 11, (.cons (.par3 4 5 6 (.cons (.bin .add (.lit (.int 1)) (.call dw (.cons (.var 0) (.cons (.var 1) .nil)))) (.cons (.idx (.lst (.cons (.lit (.int 1)) (.cons (.lit (.int 2)) (.cons (.lit (.int 3)) (.cons (.lit (.int 4)) (.cons (.lit (.int 6)) (.cons (.lit (.int 12)) .nil))))))) (.call dw (.cons (.var 0) (.cons (.lit (.int 6)) .nil)))) (.cons (.call dw (.cons (.var 0) (.cons (.lit (.int 7)) .nil))) .nil)))) (.cons (.asg (.name 2) (.new .nil)) (.cons (.for_ (.name 3) (.rng1 (.var 4)) (rowsB dw)) (.cons (.ret (.bi .tuple (.cons (.var 2) .nil))) .nil))))⟩
section
variable {ι : Type}
theorem cA {call : ι → List D → MH → Res D} {k x : Nat} (v : Env) (M : MH) (h1 : v.at_ 10 = some (.int (k : Nat))) (h2 : v.at_ 3 = some (.int (x : Nat))) : (sem call (.cmp .eq (.bin .fdiv (.var 10) (.lit (.int 2))) (.bin .fdiv (.var 3) (.lit (.int 2))))).t v M = .ok (decide ((k : Int) / 2 = (x : Int) / 2)) M := by
  have e1 := fun M : MH => fdiv_int (i := (k : Int)) (j := 2) (m := M) (by omega) (by decide)
  have e2 := fun M : MH => fdiv_int (i := (x : Int)) (j := 2) (m := M) (by omega) (by decide)
  simp only [t_cmp, e_bin, e_var, h1, h2, Res.of_some, Res.bind_ok, e_lit, lit_int, e1, e2, cmp_eq, eqD_int]
theorem cC {call : ι → List D → MH → Res D} {k x : Nat} (v : Env) (M : MH) (h1 : v.at_ 10 = some (.int (k : Nat))) (h2 : v.at_ 3 = some (.int (x : Nat))) : (sem call (.cmp .ne (.bin .mod (.var 10) (.lit (.int 2))) (.bin .mod (.var 3) (.lit (.int 2))))).t v M = .ok (!decide ((k : Int) % 2 = (x : Int) % 2)) M := by
  have e1 := fun M : MH => mod_int (i := (k : Int)) (j := 2) (m := M) (by omega)
  have e2 := fun M : MH => mod_int (i := (x : Int)) (j := 2) (m := M) (by omega)
  simp only [t_cmp, e_bin, e_var, h1, h2, Res.of_some, Res.bind_ok, e_lit, lit_int, e1, e2, cmp_ne, eqD_int, Option.map_some]
theorem part_len {n : Nat} (p : Nat → Bool) : (((List.range n).filter p).map fun k : Nat => (k : Int)).length ≤ n := by
  have := List.length_filter_le p (List.range n)
  simpa using this
theorem part_mem {n : Nat} {p : Nat → Bool} {z : Int} (hz : z ∈ ((List.range n).filter p).map fun k : Nat => (k : Int)) : 0 ≤ z ∧ z < n := by
  simp only [List.mem_map, List.mem_filter, List.mem_range] at hz
  obtain ⟨k, ⟨h1, _⟩, rfl⟩ := hz
  omega
theorem part_ne {n : Nat} {p : Nat → Bool} (k : Nat) (h : k < n) (hp : p k = true) : (((List.range n).filter p).map fun k : Nat => (k : Int)) ≠ [] :=
  List.ne_nil_of_mem (List.mem_map.mpr ⟨k, List.mem_filter.mpr ⟨List.mem_range.mpr h, hp⟩, rfl⟩)
theorem one_times (a : D) (M : MH) : arith .mul (.lst [a]) (.int 1) M = .ok (.lst [a]) M := by simp [arith, isInt2, seqOp, lstOf, seqOf]
theorem no_times (a : D) (M : MH) : arith .mul (.lst [a]) (.int 0) M = .ok (.lst []) M := by simp [arith, isInt2, seqOp, lstOf, seqOf]
theorem s3b {call : ι → List D → MH → Res D} {n x : Nat} {K : List Int} {lc : E ι} {x0 x1 x2 x5 x7 x8 x9 x10 : Option D} {M : MH} (hl : K.length ≤ n) (hn : n ≤ 30) (c : (sem call lc).e [x0, x1, x2, some (.int (x : Nat)), some (.int (n : Nat)), x5, some (.int 3), x7, x8, x9, x10] M = .ok (.lst (iL K)) M) (em : ∀ M, arith .mul (.lst [.int (x : Nat)]) (.int (if decide ((n : Int) = 1) then 1 else 0)) M = .ok (.lst (if n = 1 then [.int (x : Nat)] else [])) M) :
   exec call (.ifs (.cmp .eq (.var 6) (.lit (.int 3))) (.cons (.asg (.name 7) (.bin .add lc (.bin .mul (.lst (.cons (.var 3) .nil)) (.bi .int (.cons (.cmp .eq (.var 4) (.lit (.int 1))) .nil))))) .nil) .nil) [x0, x1, x2, some (.int (x : Nat)), some (.int (n : Nat)), x5, some (.int 3), x7, x8, x9, x10] M = .ok (.nx [x0, x1, x2, some (.int (x : Nat)), some (.int (n : Nat)), x5, some (.int 3), some (.lst (iL K ++ if n = 1 then [.int (x : Nat)] else [])), x8, x9, x10]) M := by
  have ei : ∀ (b : Bool) M, built .int [.bl b] M = some (.int (if b then 1 else 0)) := fun _ _ => rfl
  have cc := fun M : MH => lst_cat (m := M) (xs := iL K) (ys := if n = 1 then [.int (x : Nat)] else []) (by
    have : (if n = 1 then [D.int (x : Nat)] else []).length ≤ 1 := by split <;> simp
    simp only [List.length_map]; omega)
  simp only [x_ifs, t_cmp, e_var, at_zero, at_succ, Res.of_some, Res.bind_ok, e_lit, lit_int, cmp_eq, eqD_int, decide_true, Res.st_ok, if_true, x_cons, x_asg, e_bin, c, e_lst, l_cons, l_nil, List.length_cons, List.length_nil, sz1, Nat.zero_add, e_bi, e_cmp, Option.map_some, ei, em, cc, g_name, Res.tg_ok, x_nil, Res.then_nx, Nat.reduceAdd, Nat.reduceLT, List.set_cons_succ, List.set_cons_zero]
theorem s4b {call : ι → List D → MH → Res D} {K : List Int} {lc : E ι} {x0 x1 x2 x3 x4 x5 x7 x8 x9 x10 : Option D} {M : MH} (c : (sem call lc).e [x0, x1, x2, x3, x4, x5, some (.int 4), x7, x8, x9, x10] M = .ok (.lst (iL K)) M) :
   exec call (.ifs (.cmp .eq (.var 6) (.lit (.int 4))) (.cons (.setLc 7 lc) .nil) .nil) [x0, x1, x2, x3, x4, x5, some (.int 4), x7, x8, x9, x10] M = .ok (.nx [x0, x1, x2, x3, x4, x5, some (.int 4), some (.lst (iL K)), x8, x9, x10]) M := by
  simp only [x_ifs, t_cmp, e_var, at_zero, at_succ, Res.of_some, Res.bind_ok, e_lit, lit_int, cmp_eq, eqD_int, decide_true, Res.st_ok, if_true, x_cons, x_setLc, c, List.length_cons, List.length_nil, Nat.zero_add, Nat.reduceAdd, Nat.reduceLT, List.set_cons_succ, List.set_cons_zero, x_nil, Res.then_nx]
theorem part_gd {n x : Nat} (hn2 : n ≤ 30) (hx : x < n) : Gd n (((List.range n).filter fun k : Nat => decide ((k : Int) / 2 = (x : Int) / 2)).map fun k : Nat => (k : Int)) :=
  ⟨part_ne x hx (decide_eq_true rfl), Nat.le_trans (part_len (n := n) (fun k => decide ((k : Int) / 2 = (x : Int) / 2))) (Nat.le_trans hn2 (by decide)), fun z hz => part_mem hz⟩
theorem cB {call : ι → List D → MH → Res D} {n : Nat} (v : Env) (M : MH) (hn2 : n ≤ 30) (h1 : v.at_ 4 = some (.int (n : Nat))) : (sem call (.rng1 (.var 4))).w v M = .ok (.items ((List.range n).map fun k => D.int (k : Nat))) M := by
  rw [w_k1 (k := ((n : Nat) : Int)) (m2 := M) (by rw [e_var, h1]; rfl) (nat_rng (show n ≤ 1000000 by omega)).1 (nat_rng (show n ≤ 1000000 by omega)).2, range_D]
/-- a part of the first numbers -/
theorem part_e {call : ι → List D → MH → Res D} {n : Nat} {c : E ι} (p : Nat → Bool) (hc : isNil c = false) {x0 x1 x2 x3 x5 x6 x7 x8 x9 x10 : Option D} (M : MH) (hn2 : n ≤ 30)
    (h : ∀ k : Nat, (sem call c).t [x0, x1, x2, x3, some (.int (n : Nat)), x5, x6, x7, x8, x9, some (.int (k : Nat))] M = .ok (p k) M) :
    (sem call (.lc false [("_law_y", 10)] (.name 10) (.rng1 (.var 4)) c (.var 10))).e [x0, x1, x2, x3, some (.int (n : Nat)), x5, x6, x7, x8, x9, x10] M = .ok (.lst (iL (((List.range n).filter p).map fun k : Nat => (k : Int)))) M := by
  have q := e_RF (call := call) (v := [x0, x1, x2, x3, some (.int (n : Nat)), x5, x6, x7, x8, x9, x10]) (m := M) (own := [("_law_y", 10)]) (t := .name 10) (it := .rng1 (.var 4)) (c := c) (e := .var 10) (n := n)
    (fun k => D.int (k : Nat)) p (fun k => D.int (k : Nat)) (fun k => [x0, x1, x2, x3, some (.int (n : Nat)), x5, x6, x7, x8, x9, some (.int (k : Nat))]) hc (by omega) (cB _ _ hn2 rfl) (fun k hk => ⟨rfl, h k, fun _ => rfl⟩)
  rw [q, iL, List.map_map]
  rfl
end
section
variable {ι : Type} {P : ι → Fn ι} {f dw nx : ι} (hd : P dw = drawFn nx) (hn : P nx = nextFn)
include hd hn
/-- the balls of a row -/
theorem balls (d : Nat) {m : MH} {l i : Nat} (hl : Lv m l i) {fr : List MO} {n w : Nat} (hw : w ≤ 1000) {ks : List Int} (hk : Gd n ks) {x0 x1 x2 x3 x4 x6 x9 x10 : Option D} {o : MO} (hp : Pen o) :
    ∃ r o' y9, Pen o' ∧ r.length = n ∧ (∀ z ∈ r, (0 : Int) ≤ z) ∧ r.sum = (w : Int) ∧
      exec (run P (d + 2)) (.for_ (.name 9) (.rng1 (.var 5)) (.cons (.augS (.var 8) (.idx (.var 7) (.call dw (.cons (.var 0) (.cons (.bi .len (.cons (.var 7) .nil)) .nil)))) .add (.lit (.int 1))) .nil))
        [some (.ref l i), x1, x2, x3, x4, some (.int (w : Nat)), x6, some (.lst (iL ks)), some (.ref m.length fr.length), x9, x10] ((fr ++ [.lst (iL (List.replicate n 0))]) :: put m l i o) =
        .ok (.nx [some (.ref l i), x1, x2, x3, x4, some (.int (w : Nat)), x6, some (.lst (iL ks)), some (.ref m.length fr.length), y9, x10]) ((fr ++ [.lst (iL r)]) :: put m l i o') := by
  obtain ⟨hne, hk2, hk3⟩ := hk
  have hpos := List.length_pos_iff.mpr hne
  rw [x_k1 (k := (w : Nat)) (m2 := (fr ++ [.lst (iL (List.replicate n 0))]) :: put m l i o) rfl (nat_rng (by omega)).1 (nat_rng (by omega)).2, range_D]
  obtain ⟨v2, m2, e, r, o', y9, hp', q1, q2, q3, rfl, rfl⟩ := loop_R (call := run P (d + 2)) (t := .name 9) (b := (.cons (.augS (.var 8) (.idx (.var 7) (.call dw (.cons (.var 0) (.cons (.bi .len (.cons (.var 7) .nil)) .nil)))) .add (.lit (.int 1))) .nil)) (f := fun k => D.int (k : Nat)) (n := w)
    (P := fun k v M => ∃ r o' y9, Pen o' ∧ r.length = n ∧ (∀ z ∈ r, (0 : Int) ≤ z) ∧ r.sum = (k : Int) ∧ v = [some (.ref l i), x1, x2, x3, x4, some (.int (w : Nat)), x6, some (.lst (iL ks)), some (.ref m.length fr.length), y9, x10] ∧ M = (fr ++ [.lst (iL r)]) :: put m l i o')
    (fun k v M _ hP => by
      obtain ⟨r, o1, y9, hp1, q1, q2, q3, rfl, rfl⟩ := hP
      obtain ⟨a, o2, a0, a1, hp2, ed⟩ := run_drawC hd hn d (fr := fr ++ [.lst (iL r)]) hl hp1 (far := ks.length) (by omega) (by
        have := log2_lt (n := (ks.length : Int).natAbs) (k := 40) (by simp; omega) (by omega)
        omega)
      obtain ⟨j, rfl⟩ := Int.eq_ofNat_of_zero_le a0
      have hj : j < ks.length := by omega
      obtain ⟨g0, g1⟩ := hk3 ks[j] (List.getElem_mem hj)
      obtain ⟨c, hc⟩ := Int.eq_ofNat_of_zero_le g0
      have hcn : c < r.length := by omega
      have ga : ∀ M, getAt M (.lst (iL ks)) (.int (j : Int)) = some (.int (c : Int)) := fun M => by
        have hj' : j < (iL ks).length := by simpa using hj
        simp only [getAt, seqOf, Option.bind_some, place_nat hj']
        rw [List.getElem?_eq_getElem hj']
        simp [hc]
      have ln : ∀ M, built .len [.lst (iL ks)] M = some (.int ks.length) := fun M => by simp [built, lenD, seqOf]
      have hget : ∀ (z : List Int) (oo : MO), get ((fr ++ [MO.lst (iL z)]) :: put m l i oo) m.length fr.length = some (.lst (iL z)) := fun z oo => by
        rw [get_here (by rw [put_length]), top_of]
      have gl : getL ((fr ++ [MO.lst (iL r)]) :: put m l i o2) (.ref m.length fr.length) (.int (c : Int)) = some (.int r[c]) := by
        simp only [getL, lstOf, seqOf, hget, Int.natCast_nonneg, if_true, Option.bind_some, Int.toNat_natCast]
        rw [List.getElem?_map, List.getElem?_eq_getElem hcn]; rfl
      have st : setAt (.ref m.length fr.length) (.int (c : Int)) (.int (r[c] + 1)) ((fr ++ [MO.lst (iL r)]) :: put m l i o2) = .ok () ((fr ++ [MO.lst (iL (r.set c (r[c] + 1)))]) :: put m l i o2) := by
        simp only [setAt, hget]
        rw [place_nat (by simpa using hcn)]
        simp only [D.bd, if_true]
        rw [put_here (by rw [put_length]), List.set_append_right _ _ (by omega), Nat.sub_self, List.set_cons_zero, iL, iL, List.map_set]
      refine ⟨[some (.ref l i), x1, x2, x3, x4, some (.int (w : Nat)), x6, some (.lst (iL ks)), some (.ref m.length fr.length), some (.int (k : Nat)), x10], rfl, _, _, ?_, r.set c (r[c] + 1), o2, some (.int (k : Nat)), hp2, by simpa using q1, ?_, ?_, rfl, rfl⟩
      · simp only [x_cons, x_augS, e_var, at_zero, at_succ, Res.of_some, Res.bind_ok, e_idx, e_call, l_cons, l_nil, e_bi, ln, ed, ga, Res.st_ok, gl, e_lit, lit_int, arithI, st, x_nil, Res.then_nx]
      · intro z hz
        rcases List.mem_or_eq_of_mem_set hz with hz | rfl
        · exact q2 z hz
        · have := q2 _ (List.getElem_mem hcn); omega
      · rw [sum_set1 r c hcn, q3]; omega) (v := [some (.ref l i), x1, x2, x3, x4, some (.int (w : Nat)), x6, some (.lst (iL ks)), some (.ref m.length fr.length), x9, x10]) (m := (fr ++ [.lst (iL (List.replicate n 0))]) :: put m l i o)
    ⟨List.replicate n 0, o, x9, hp, by simp, fun z hz => by rw [(List.mem_replicate.mp hz).2]; omega, by simp, rfl, rfl⟩
  exact ⟨r, o', y9, hp', q1, q2, q3, e⟩
omit hd hn in
theorem lrng_lst {n : Nat} (h : n ≤ 10000) (M : MH) : lrngR .lst (.int (n : Nat)) M = .ok (.lst (iL (rI n))) M := by
  have h1 : (0 : Int) ≤ (n : Nat) ∧ ((n : Nat) : Int) ≤ 10000 := by omega
  simp only [lrngR, h1, and_self, if_true, range_I]
omit hd hn in
theorem gd0 {n : Nat} (h : 0 < n) (h2 : n ≤ 30) : Gd n (rI n) := ⟨fun e => by have := rI_len n; rw [e] at this; simp at this; omega, by rw [rI_len]; omega, fun k hk => rI_mem.mp hk⟩
omit hd hn in
theorem some0 (d : Nat) {m : MH} {l i : Nat} (hl : Lv m l i) {F : List MO} {n x : Nat} (hn2 : n ≤ 30) (hx : x < n) {way : Int} (x1 x2 x5 x7 x8 x9 x10 : Option D) {o : MO} : exec (run P (d + 2)) (nth (rowsB dw) 0) [some (.ref l i), x1, x2, some (.int (x : Nat)), some (.int (n : Nat)), x5, some (.int way), x7, x8, x9, x10] (F :: put m l i o) = .ok (.nx [some (.ref l i), x1, x2, some (.int (x : Nat)), some (.int (n : Nat)), x5, some (.int way), some (.lst (iL (rI n))), x8, x9, x10]) (F :: put m l i o) := by
  have e := fun M => lrng_lst (n := n) (by omega) M
  simp [nth, rowsB, e]
theorem some1 (d : Nat) {m : MH} {l i : Nat} (hl : Lv m l i) {F : List MO} {n x : Nat} (hn2 : n ≤ 30) (hx : x < n) {way : Int} (x1 x2 x5 x7 x8 x9 x10 : Option D) {o : MO} (hp : Pen o) : ∃ ks o', Pen o' ∧ Gd n ks ∧ exec (run P (d + 2)) (nth (rowsB dw) 1) [some (.ref l i), x1, x2, some (.int (x : Nat)), some (.int (n : Nat)), x5, some (.int way), some (.lst (iL (rI n))), x8, x9, x10] (F :: put m l i o) = .ok (.nx [some (.ref l i), x1, x2, some (.int (x : Nat)), some (.int (n : Nat)), x5, some (.int way), some (.lst (iL ks)), x8, x9, x10]) (F :: put m l i o') := by
  by_cases h : way = 1
  · have hf : (n : Int).natAbs.log2 < 9000 := by
      have := log2_lt (n := (n : Int).natAbs) (k := 40) (by simp; omega) (by omega)
      omega
    obtain ⟨a, o1, a0, a1, hp1, e1⟩ := run_drawC hd hn d (fr := F) hl hp (far := n) (by omega) hf
    obtain ⟨b, o2, b0, b1, hp2, e2⟩ := run_drawC hd hn d (fr := F) hl hp1 (far := n) (by omega) hf
    refine ⟨[a, b], o2, hp2, ⟨by simp, by simp, fun k hk => ?_⟩, ?_⟩
    · simp only [List.mem_cons, List.not_mem_nil, or_false] at hk
      rcases hk with rfl | rfl <;> omega
    · simp [nth, rowsB, eqD_int, h, e1, e2]
  · exact ⟨rI n, o, hp, (gd0 (by omega) hn2), by simp [nth, rowsB, eqD_int, h]⟩
omit hd hn in
theorem some2 (d : Nat) {m : MH} {l i : Nat} (hl : Lv m l i) {F : List MO} {n x : Nat} (hn2 : n ≤ 30) (hx : x < n) {way : Int} (x1 x2 x5 x7 x8 x9 x10 : Option D) {o1 : MO} {k1 : List Int} (g1 : Gd n k1) : ∃ ks, Gd n ks ∧ exec (run P (d + 2)) (nth (rowsB dw) 2) [some (.ref l i), x1, x2, some (.int (x : Nat)), some (.int (n : Nat)), x5, some (.int way), some (.lst (iL k1)), x8, x9, x10] (F :: put m l i o1) = .ok (.nx [some (.ref l i), x1, x2, some (.int (x : Nat)), some (.int (n : Nat)), x5, some (.int way), some (.lst (iL ks)), x8, x9, x10]) (F :: put m l i o1) := by
  by_cases h : way = 2
  · have a0 := Int.emod_nonneg ((x : Int) + 1) (b := (n : Int)) (by omega)
    have a1 := Int.emod_lt_of_pos ((x : Int) + 1) (b := (n : Int)) (by omega)
    have e := fun M : MH => mod_int (i := (x : Int) + 1) (j := (n : Int)) (m := M) (by omega)
    refine ⟨[((x : Int) + 1) % n], ⟨by simp, by simp, fun k hk => ?_⟩, ?_⟩
    · simp only [List.mem_cons, List.not_mem_nil, or_false] at hk
      subst hk; exact ⟨a0, a1⟩
    · simp [nth, rowsB, eqD_int, h, e]
  · exact ⟨k1, g1, by simp [nth, rowsB, eqD_int, h]⟩
omit hd hn in
theorem some3 (d : Nat) {m : MH} {l i : Nat} (hl : Lv m l i) {F : List MO} {n x : Nat} (hn2 : n ≤ 30) (hx : x < n) {way : Int} (x1 x2 x5 x7 x8 x9 x10 : Option D) {o1 : MO} {k2 : List Int} (g2 : Gd n k2) : ∃ ks, Gd n ks ∧ exec (run P (d + 2)) (nth (rowsB dw) 3) [some (.ref l i), x1, x2, some (.int (x : Nat)), some (.int (n : Nat)), x5, some (.int way), some (.lst (iL k2)), x8, x9, x10] (F :: put m l i o1) = .ok (.nx [some (.ref l i), x1, x2, some (.int (x : Nat)), some (.int (n : Nat)), x5, some (.int way), some (.lst (iL ks)), x8, x9, x10]) (F :: put m l i o1) := by
  by_cases h : way = 3
  · subst h
    have c := part_e (call := run P (d + 2)) (n := n) (c := .cmp .ne (.bin .mod (.var 10) (.lit (.int 2))) (.bin .mod (.var 3) (.lit (.int 2)))) (fun k => !decide ((k : Int) % 2 = (x : Int) % 2)) rfl (x0 := some (.ref l i)) (x1 := x1) (x2 := x2) (x3 := some (.int (x : Nat))) (x5 := x5) (x6 := some (.int 3)) (x7 := some (.lst (iL k2))) (x8 := x8) (x9 := x9) (x10 := x10) (F :: put m l i o1) hn2 (fun k => cC _ _ rfl rfl)
    have ll := part_len (n := n) (fun k => !decide ((k : Int) % 2 = (x : Int) % 2))
    have lm : ∀ z ∈ (((List.range n).filter fun k : Nat => !decide ((k : Int) % 2 = (x : Int) % 2)).map fun k : Nat => (k : Int)), 0 ≤ z ∧ z < n := fun z hz => part_mem hz
    have lne : n ≠ 1 → (((List.range n).filter fun k : Nat => !decide ((k : Int) % 2 = (x : Int) % 2)).map fun k : Nat => (k : Int)) ≠ [] := fun h1 => part_ne ((x + 1) % 2) (by omega) (by
      simp only [Bool.not_eq_true', decide_eq_false_iff_not]
      omega)
    generalize (((List.range n).filter fun k : Nat => !decide ((k : Int) % 2 = (x : Int) % 2)).map fun k : Nat => (k : Int)) = K at c ll lm lne
    have em : ∀ M, arith .mul (.lst [.int (x : Nat)]) (.int (if decide ((n : Int) = 1) then 1 else 0)) M = .ok (.lst (if n = 1 then [.int (x : Nat)] else [])) M := fun M => by
      by_cases h1 : n = 1
      · subst h1; exact one_times _ M
      · have h1' : ¬ (n : Int) = 1 := by omega
        simp only [h1, h1', decide_false, Bool.false_eq_true, if_false]
        exact no_times _ M
    have e3 := s3b (call := run P (d + 2)) (x0 := some (.ref l i)) (x1 := x1) (x2 := x2) (x5 := x5) (x7 := some (.lst (iL k2))) (x8 := x8) (x9 := x9) (x10 := x10) ll hn2 c em
    have hi : (iL K ++ if n = 1 then [D.int (x : Nat)] else []) = iL (K ++ if n = 1 then [(x : Int)] else []) := by
      split <;> simp [iL]
    rw [hi] at e3
    refine ⟨K ++ if n = 1 then [(x : Int)] else [], ⟨?_, ?_, fun k hk => ?_⟩, e3⟩
    · split
      · simp
      · simpa using lne (by assumption)
    · have : (if n = 1 then [(x : Int)] else []).length ≤ 1 := by split <;> simp
      rw [List.length_append]; omega
    · rcases List.mem_append.mp hk with hk | hk
      · exact lm k hk
      · split at hk
        · cases List.mem_singleton.mp hk; omega
        · cases hk
  · exact ⟨k2, g2, by simp [nth, rowsB, eqD_int, h]⟩
omit hd hn in
theorem some4 (d : Nat) {m : MH} {l i : Nat} (hl : Lv m l i) {F : List MO} {n x : Nat} (hn2 : n ≤ 30) (hx : x < n) {way : Int} (x1 x2 x5 x7 x8 x9 x10 : Option D) {o1 : MO} {k3 : List Int} (g3 : Gd n k3) : ∃ ks, Gd n ks ∧ exec (run P (d + 2)) (nth (rowsB dw) 4) [some (.ref l i), x1, x2, some (.int (x : Nat)), some (.int (n : Nat)), x5, some (.int way), some (.lst (iL k3)), x8, x9, x10] (F :: put m l i o1) = .ok (.nx [some (.ref l i), x1, x2, some (.int (x : Nat)), some (.int (n : Nat)), x5, some (.int way), some (.lst (iL ks)), x8, x9, x10]) (F :: put m l i o1) := by
  by_cases h : way = 4
  · subst h
    have c := part_e (call := run P (d + 2)) (n := n) (c := .cmp .eq (.bin .fdiv (.var 10) (.lit (.int 2))) (.bin .fdiv (.var 3) (.lit (.int 2)))) (fun k => decide ((k : Int) / 2 = (x : Int) / 2)) rfl (x0 := some (.ref l i)) (x1 := x1) (x2 := x2) (x3 := some (.int (x : Nat))) (x5 := x5) (x6 := some (.int 4)) (x7 := some (.lst (iL k3))) (x8 := x8) (x9 := x9) (x10 := x10) (F :: put m l i o1) hn2 (fun k => cA _ _ rfl rfl)
    exact ⟨((List.range n).filter fun k : Nat => decide ((k : Int) / 2 = (x : Int) / 2)).map fun k : Nat => (k : Int), part_gd (n := n) (x := x) hn2 hx, s4b c⟩
  · exact ⟨k3, g3, by simp [nth, rowsB, eqD_int, h]⟩
omit hd hn in
theorem some5 (d : Nat) {m : MH} {l i : Nat} (hl : Lv m l i) {F : List MO} {n x : Nat} (hn2 : n ≤ 30) (hx : x < n) {way : Int} (x1 x2 x5 x7 x8 x9 x10 : Option D) {o1 : MO} {k4 : List Int} (g4 : Gd n k4) : ∃ ks, Gd n ks ∧ exec (run P (d + 2)) (nth (rowsB dw) 5) [some (.ref l i), x1, x2, some (.int (x : Nat)), some (.int (n : Nat)), x5, some (.int way), some (.lst (iL k4)), x8, x9, x10] (F :: put m l i o1) = .ok (.nx [some (.ref l i), x1, x2, some (.int (x : Nat)), some (.int (n : Nat)), x5, some (.int way), some (.lst (iL ks)), x8, x9, x10]) (F :: put m l i o1) := by
  by_cases h : way = 5
  · have e := fun M => lrng_lst (n := x + 1) (by omega) M
    have e' : ∀ M, lrngR .lst (.int ((x : Int) + 1)) M = .ok (.lst (iL (rI (x + 1)))) M := e
    refine ⟨rI (x + 1), ⟨fun z => by have := rI_len (x + 1); rw [z] at this; simp at this, by rw [rI_len]; omega, fun k hk => ?_⟩, ?_⟩
    · have := rI_mem.mp hk; omega
    · simp [nth, rowsB, eqD_int, h, e']
  · exact ⟨k4, g4, by simp [nth, rowsB, eqD_int, h]⟩
/-- the places a row leads to -/
theorem some_ok (d : Nat) {m : MH} {l i : Nat} (hl : Lv m l i) {F : List MO} {n x : Nat} (hn2 : n ≤ 30) (hx : x < n) {way : Int} (x1 x2 x5 x7 x8 x9 x10 : Option D) {o : MO} (hp : Pen o) :
    ∃ ks o', Pen o' ∧ Gd n ks ∧ (∀ s : S ι, exec (run P (d + 2)) (.cons (nth (rowsB dw) 0) (.cons (nth (rowsB dw) 1) (.cons (nth (rowsB dw) 2) (.cons (nth (rowsB dw) 3) (.cons (nth (rowsB dw) 4) (.cons (nth (rowsB dw) 5) s)))))) [some (.ref l i), x1, x2, some (.int (x : Nat)), some (.int (n : Nat)), x5, some (.int way), x7, x8, x9, x10] (F :: put m l i o) =
      exec (run P (d + 2)) s [some (.ref l i), x1, x2, some (.int (x : Nat)), some (.int (n : Nat)), x5, some (.int way), some (.lst (iL ks)), x8, x9, x10] (F :: put m l i o')) := by
  have s0 := some0 (P := P) (dw := dw) d hl (F := F) hn2 hx (way := way) x1 x2 x5 x7 x8 x9 x10 (o := o)
  obtain ⟨k1, o1, hp1, g1, s1⟩ := some1 hd hn d hl (F := F) hn2 hx (way := way) x1 x2 x5 x7 x8 x9 x10 hp
  obtain ⟨k2, g2, s2⟩ := some2 (P := P) (dw := dw) d hl (F := F) hn2 hx (way := way) x1 x2 x5 x7 x8 x9 x10 (o1 := o1) g1
  obtain ⟨k3, g3, s3⟩ := some3 (P := P) (dw := dw) d hl (F := F) hn2 hx (way := way) x1 x2 x5 x7 x8 x9 x10 (o1 := o1) g2
  obtain ⟨k4, g4, s4⟩ := some4 (P := P) (dw := dw) d hl (F := F) hn2 hx (way := way) x1 x2 x5 x7 x8 x9 x10 (o1 := o1) g3
  obtain ⟨k5, g5, s5⟩ := some5 (P := P) (dw := dw) d hl (F := F) hn2 hx (way := way) x1 x2 x5 x7 x8 x9 x10 (o1 := o1) g4
  refine ⟨k5, o1, hp1, g5, fun s => ?_⟩
  simp only [x_cons]
  rw [s0, Res.then_nx, s1, Res.then_nx, s2, Res.then_nx, s3, Res.then_nx, s4, Res.then_nx, s5, Res.then_nx]
end
end Fw

set_option Elab.async false
set_option linter.all false
set_option maxRecDepth 100000
set_option maxHeartbeats 2000000
set_option autoImplicit false
/-! ## Fw30: rows drawn off a pen, all of them -/
namespace Fw
open PySem
abbrev tupL (R : List (List Int)) : List D := R.map fun r => .tup (iL r)
theorem tupL_bd (k : Nat) : ∀ R : List (List Int), bdL k (tupL R) = true
  | [] => rfl
  | r :: R => by
    simp only [tupL, List.map_cons, bdL, D.bd, bdL_iL, Bool.true_and]
    exact tupL_bd k R
section
variable {ι : Type} {P : ι → Fn ι} {f dw nx : ι}
theorem zeros_at {call : ι → List D → MH → Res D} {n : Nat} (hn : n ≤ 30) {F : List MO} {r : MH} {x0 x1 x2 x3 x5 x6 x7 x8 x9 x10 : Option D} :
    exec call (.asg (.name 8) (.nbin .mul (.lst (.cons (.lit (.int 0)) .nil)) (.var 4))) [x0, x1, x2, x3, some (.int (n : Nat)), x5, x6, x7, x8, x9, x10] (F :: r) =
      .ok (.nx [x0, x1, x2, x3, some (.int (n : Nat)), x5, x6, x7, some (.ref r.length F.length), x9, x10]) ((F ++ [.lst (iL (List.replicate n 0))]) :: r) := by
  have al : alloc (F :: r) (.lst (iL (List.replicate n 0))) = .ok (.ref r.length F.length) ((F ++ [.lst (iL (List.replicate n 0))]) :: r) := alloc_ok (bdL_iL _ _)
  have e := e_zeros (call := call) (v := [x0, x1, x2, x3, some (.int (n : Nat)), x5, x6, x7, x8, x9, x10]) (b := .var 4) (M := F :: r) (k := ((n : Nat) : Int)) rfl ((zeros_ok (show n ≤ 1000000 by omega)).trans al)
  rw [x_asg, e]
  rfl
theorem app_row {call : ι → List D → MH → Res D} {acc : List D} {junk : List MO} {r : List Int} {mm : MH} {x0 x1 x3 x4 x5 x6 x7 x9 x10 : Option D} (ha : acc.length ≤ 1000) :
    exec call (.exp (.app (.var 2) (.bi .tuple (.cons (.var 8) .nil)))) [x0, x1, some (.ref mm.length 0), x3, x4, x5, x6, x7, some (.ref mm.length (MO.lst acc :: junk).length), x9, x10] (((MO.lst acc :: junk) ++ [.lst (iL r)]) :: mm) =
      .ok (.nx [x0, x1, some (.ref mm.length 0), x3, x4, x5, x6, x7, some (.ref mm.length (MO.lst acc :: junk).length), x9, x10]) ((MO.lst (acc ++ [.tup (iL r)]) :: (junk ++ [.lst (iL r)])) :: mm) := by
  have g0 : get (((MO.lst acc :: junk) ++ [MO.lst (iL r)]) :: mm) mm.length 0 = some (.lst acc) := by rw [get_here rfl]; rfl
  have g1 : get (((MO.lst acc :: junk) ++ [MO.lst (iL r)]) :: mm) mm.length (MO.lst acc :: junk).length = some (.lst (iL r)) := by rw [get_here rfl, top_of]
  have hs : acc.length < sizeLine := by unfold sizeLine; omega
  have hL : isL (((MO.lst acc :: junk) ++ [MO.lst (iL r)]) :: mm) (.ref mm.length 0) = true := by simp only [isL, g0]
  have ht : built .tuple [.ref mm.length (MO.lst acc :: junk).length] (((MO.lst acc :: junk) ++ [MO.lst (iL r)]) :: mm) = some (.tup (iL r)) := by
    show (seqOf _ (.ref mm.length (MO.lst acc :: junk).length)).map D.tup = _
    simp only [seqOf, g1, Option.map_some]
  have ap : append (.ref mm.length 0) (.tup (iL r)) (((MO.lst acc :: junk) ++ [MO.lst (iL r)]) :: mm) = .ok .non ((MO.lst (acc ++ [.tup (iL r)]) :: (junk ++ [.lst (iL r)])) :: mm) := by
    simp only [append, g0, D.bd, bdL_iL, hs, decide_true, Bool.and_self, if_true]
    rw [put_here rfl]; rfl
  rw [x_exp]
  simp only [e_app, e_var, at_succ, at_zero, Res.of_some, Res.bind_ok, hL, if_true, e_bi, l_cons, l_nil, ht, ap, Res.st_ok]
variable (hd : P dw = drawFn nx) (hn : P nx = nextFn)
include hd hn
/-- a row -/
theorem row_ok (d : Nat) {m : MH} {l i : Nat} (hl : Lv m l i) {acc : List D} {junk : List MO} {n x w : Nat} (ha : acc.length ≤ 1000) (hn2 : n ≤ 30) (hx : x < n) (hw : w ≤ 1000) {way : Int} (x1 x7 x8 x9 x10 : Option D) {o : MO} (hp : Pen o) :
    ∃ r o' junk' y7 y8 y9, Pen o' ∧ r.length = n ∧ (∀ z ∈ r, (0 : Int) ≤ z) ∧ r.sum = (w : Int) ∧
      exec (run P (d + 2)) (rowsB dw) [some (.ref l i), x1, some (.ref m.length 0), some (.int (x : Nat)), some (.int (n : Nat)), some (.int (w : Nat)), some (.int way), x7, x8, x9, x10] ((MO.lst acc :: junk) :: put m l i o) =
        .ok (.nx [some (.ref l i), x1, some (.ref m.length 0), some (.int (x : Nat)), some (.int (n : Nat)), some (.int (w : Nat)), some (.int way), y7, y8, y9, x10]) ((MO.lst (acc ++ [.tup (iL r)]) :: junk') :: put m l i o') := by
  obtain ⟨ks, o1, hp1, g, e1⟩ := some_ok hd hn d hl (F := MO.lst acc :: junk) hn2 hx (way := way) x1 (some (.ref m.length 0)) (some (.int (w : Nat))) x7 x8 x9 x10 hp
  obtain ⟨r, o2, y9, hp2, q1, q2, q3, e2⟩ := balls hd hn d hl (fr := MO.lst acc :: junk) (n := n) hw g (x0 := none) (x1 := x1) (x2 := some (.ref m.length 0)) (x3 := some (.int (x : Nat))) (x4 := some (.int (n : Nat))) (x6 := some (.int way)) (x9 := x9) (x10 := x10) hp1
  have hz := zeros_at (call := run P (d + 2)) hn2 (F := MO.lst acc :: junk) (r := put m l i o1) (x0 := some (.ref l i)) (x1 := x1) (x2 := some (.ref m.length 0)) (x3 := some (.int (x : Nat))) (x5 := some (.int (w : Nat))) (x6 := some (.int way)) (x7 := some (.lst (iL ks))) (x8 := x8) (x9 := x9) (x10 := x10)
  have ha' := app_row (call := run P (d + 2)) (r := r) (junk := junk) (mm := put m l i o2) (x0 := some (.ref l i)) (x1 := x1) (x3 := some (.int (x : Nat))) (x4 := some (.int (n : Nat))) (x5 := some (.int (w : Nat))) (x6 := some (.int way)) (x7 := some (.lst (iL ks))) (x9 := y9) (x10 := x10) ha
  rw [put_length] at hz ha'
  refine ⟨r, o2, junk ++ [.lst (iL r)], some (.lst (iL ks)), some (.ref m.length (MO.lst acc :: junk).length), y9, hp2, q1, q2, q3, ?_⟩
  have hb : rowsB dw = .cons (nth (rowsB dw) 0) (.cons (nth (rowsB dw) 1) (.cons (nth (rowsB dw) 2) (.cons (nth (rowsB dw) 3) (.cons (nth (rowsB dw) 4) (.cons (nth (rowsB dw) 5) (.cons (.asg (.name 8) (.nbin .mul (.lst (.cons (.lit (.int 0)) .nil)) (.var 4))) (.cons (.for_ (.name 9) (.rng1 (.var 5)) (.cons (.augS (.var 8) (.idx (.var 7) (.call dw (.cons (.var 0) (.cons (.bi .len (.cons (.var 7) .nil)) .nil)))) .add (.lit (.int 1))) .nil)) (.cons (.exp (.app (.var 2) (.bi .tuple (.cons (.var 8) .nil)))) .nil)))))))) := rfl
  rw [hb, e1]
  simp only [x_cons]
  rw [hz, Res.then_nx, e2, Res.then_nx, ha', Res.then_nx, x_nil]
/-- rows: of one to most places, of a sum of 1 to 12 -/
theorem run_rows (h : P f = rowsFn dw) (d : Nat) {most : Nat} (h1 : 1 ≤ most) (h2 : most ≤ 30) {m : MH} {l i : Nat} {o : MO} (hg : get m l i = some o) (hp : Pen o) :
    ∃ n w R o', 1 ≤ n ∧ n ≤ most ∧ 1 ≤ w ∧ w ≤ 12 ∧ Rws n (w : Nat) R ∧ Pen o' ∧ run P (d + 3) f [.ref l i, .int (most : Nat)] m = .ok (rT R) (put m l i o') := by
  have hl : Lv m l i := by unfold Lv; rw [hg]; rfl
  have hm : ((most : Nat) : Int).natAbs.log2 < 9000 := by
    have := log2_lt (n := ((most : Nat) : Int).natAbs) (k := 40) (by simp; omega) (by omega)
    omega
  suffices hs : ∃ n w R o', 1 ≤ n ∧ n ≤ most ∧ 1 ≤ w ∧ w ≤ 12 ∧ Rws n (w : Nat) R ∧ Pen o' ∧ run P (d + 3) f [.ref l i, .int (most : Nat)] (put m l i o) = .ok (rT R) (put m l i o') by rwa [put_self hg] at hs
  obtain ⟨a, o1, a0, a1, hp1, e1⟩ := run_drawC hd hn d (fr := []) hl hp (far := most) (by omega) hm
  obtain ⟨b, o2, b0, b1, hp2, e2⟩ := run_drawC hd hn d (fr := []) hl hp1 (far := 6) (by omega) (by decide)
  obtain ⟨way, o3, c0, c1, hp3, e3⟩ := run_drawC hd hn d (fr := []) hl hp2 (far := 7) (by omega) (by decide)
  obtain ⟨q, hq, eq⟩ := pick (xs := [.int 1, .int 2, .int 3, .int 4, .int 6, .int 12]) (i := b) b0 (by show b < ((6 : Nat) : Int); omega)
  obtain ⟨w, rfl, w0, w1⟩ : ∃ w : Nat, q = .int (w : Nat) ∧ 1 ≤ w ∧ w ≤ 12 := by
    simp only [List.mem_cons, List.not_mem_nil, or_false] at hq
    rcases hq with rfl | rfl | rfl | rfl | rfl | rfl
    · exact ⟨1, rfl, by decide, by decide⟩
    · exact ⟨2, rfl, by decide, by decide⟩
    · exact ⟨3, rfl, by decide, by decide⟩
    · exact ⟨4, rfl, by decide, by decide⟩
    · exact ⟨6, rfl, by decide, by decide⟩
    · exact ⟨12, rfl, by decide, by decide⟩
  obtain ⟨a', rfl⟩ := Int.eq_ofNat_of_zero_le a0
  have ha : ((1 : Int) + (a' : Nat)) = ((a' + 1 : Nat) : Int) := by omega
  have s0 : exec (run P (d + 2)) (nth (rowsFn dw).body 0) [some (.ref l i), some (.int (most : Nat)), none, none, none, none, none, none, none, none, none] ([] :: put m l i o) =
      .ok (.nx [some (.ref l i), some (.int (most : Nat)), none, none, some (.int ((a' + 1 : Nat) : Int)), some (.int (w : Nat)), some (.int way), none, none, none, none]) ([] :: put m l i o3) := by
    rw [← ha]
    simp [nth, rowsFn, e1, e2, e3, eq]
  have s1 : exec (run P (d + 2)) (nth (rowsFn dw).body 1) [some (.ref l i), some (.int (most : Nat)), none, none, some (.int ((a' + 1 : Nat) : Int)), some (.int (w : Nat)), some (.int way), none, none, none, none] ([] :: put m l i o3) =
      .ok (.nx [some (.ref l i), some (.int (most : Nat)), some (.ref m.length 0), none, some (.int ((a' + 1 : Nat) : Int)), some (.int (w : Nat)), some (.int way), none, none, none, none]) ([MO.lst (tupL [])] :: put m l i o3) := by
    have al : alloc ([] :: put m l i o3) (.lst []) = .ok (.ref m.length 0) ([MO.lst (tupL [])] :: put m l i o3) := by
      have := alloc_ok (fr := []) (r := put m l i o3) (o := .lst []) rfl
      rw [put_length] at this
      exact this
    have eb : nth (rowsFn dw).body 1 = .asg (.name 2) (.new .nil) := rfl
    rw [eb, x_asg, e_new, l_nil]
    simp only [Res.bind_ok, List.length_nil, Nat.zero_le, if_true, al, Res.st_ok, g_name, List.length_cons, Nat.zero_add, Nat.reduceAdd, Nat.reduceLT, Res.tg_ok, List.set_cons_succ, List.set_cons_zero]
  have hn30 : a' + 1 ≤ 30 := by omega
  obtain ⟨v2, m2, e4, R, o4, junk, y3, y7, y8, y9, hp4, q1, q2, rfl, rfl⟩ := loop_R (call := run P (d + 2)) (t := .name 3) (b := rowsB dw) (f := fun k => D.int (k : Nat)) (n := a' + 1)
    (P := fun k v M => ∃ R o' junk y3 y7 y8 y9, Pen o' ∧ R.length = k ∧ (∀ r ∈ R, r.length = a' + 1 ∧ (∀ z ∈ r, (0 : Int) ≤ z) ∧ r.sum = (w : Int)) ∧ v = [some (.ref l i), some (.int (most : Nat)), some (.ref m.length 0), y3, some (.int ((a' + 1 : Nat) : Int)), some (.int (w : Nat)), some (.int way), y7, y8, y9, none] ∧ M = (MO.lst (tupL R) :: junk) :: put m l i o')
    (fun k v M hk hP => by
      obtain ⟨R, o4, junk, y3, y7, y8, y9, hp4, q1, q2, rfl, rfl⟩ := hP
      obtain ⟨r, o5, junk', z7, z8, z9, hp5, r1, r2, r3, e5⟩ := row_ok hd hn d hl (acc := tupL R) (junk := junk) (n := a' + 1) (x := k) (w := w) (by simp; omega) hn30 hk (by omega) (way := way) (some (.int (most : Nat))) y7 y8 y9 none hp4
      refine ⟨[some (.ref l i), some (.int (most : Nat)), some (.ref m.length 0), some (.int (k : Nat)), some (.int ((a' + 1 : Nat) : Int)), some (.int (w : Nat)), some (.int way), y7, y8, y9, none], rfl, _, _, e5, R ++ [r], o5, junk', _, z7, z8, z9, hp5, by simp [q1], fun s hs => ?_, rfl, ?_⟩
      · rcases List.mem_append.mp hs with hs | hs
        · exact q2 s hs
        · cases List.mem_singleton.mp hs; exact ⟨r1, r2, r3⟩
      · simp [tupL]) (v := [some (.ref l i), some (.int (most : Nat)), some (.ref m.length 0), none, some (.int ((a' + 1 : Nat) : Int)), some (.int (w : Nat)), some (.int way), none, none, none, none]) (m := [MO.lst (tupL [])] :: put m l i o3)
    ⟨[], o3, [], none, none, none, none, hp3, rfl, fun r hr => (by cases hr), rfl, rfl⟩
  refine ⟨a' + 1, w, R, o4, by omega, by omega, w0, w1, ⟨q1, fun r hr => (q2 r hr).1, fun r hr => (q2 r hr).2.1, fun r hr => (q2 r hr).2.2⟩, hp4, ?_⟩
  rw [run_b h rfl]
  have e0 : (([D.ref l i, D.int (most : Nat)].map some ++ List.replicate ((rowsFn dw).ns - (rowsFn dw).np) none) : Env) = [some (.ref l i), some (.int (most : Nat)), none, none, none, none, none, none, none, none, none] := rfl
  have hbody : (rowsFn dw).body = .cons (nth (rowsFn dw).body 0) (.cons (nth (rowsFn dw).body 1) (.cons (.for_ (.name 3) (.rng1 (.var 4)) (rowsB dw)) (.cons (.ret (.bi .tuple (.cons (.var 2) .nil))) .nil))) := rfl
  have tt : built .tuple [.ref m.length 0] ((MO.lst (tupL R) :: junk) :: put m l i o4) = some (rT R) := by
    show (seqOf _ (.ref m.length 0)).map D.tup = _
    simp only [seqOf]
    rw [get_here (by rw [put_length])]
    rfl
  rw [e0, hbody]
  simp only [x_cons]
  rw [s0, Res.then_nx, s1, Res.then_nx, x_k1 (k := ((a' + 1 : Nat) : Int)) (m2 := [MO.lst (tupL [])] :: put m l i o3) rfl (nat_rng (show a' + 1 ≤ 1000000 by omega)).1 (nat_rng (show a' + 1 ≤ 1000000 by omega)).2, range_D, e4, Res.then_nx, x_ret]
  simp only [e_bi, l_cons, l_nil, e_var, at_succ, at_zero, Res.of_some, Res.bind_ok, tt, Res.st_ok, Res.then_rt, left]
  show (if D.bd (put m l i o4).length (rT R) then Res.ok (rT R) (put m l i o4) else Res.fail) = _
  rw [if_pos (show D.bd (put m l i o4).length (rT R) = true from tupL_bd _ R)]
end
end Fw

set_option Elab.async false
set_option linter.all false
set_option maxRecDepth 100000
set_option maxHeartbeats 2000000
set_option autoImplicit false
/-! ## Fw31: walks made of rows -/
namespace Fw
open PySem
def areRowsFn {ι : Type} (aw : ι) : Fn ι := ⟨1, 3, (.cons (.ifs (.or (.not (.isi (.var 0) .tuple)) (.not (.chain .le .le (.lit (.int 1)) (.bi .len (.cons (.var 0) .nil)) (.glob "MOST_PLACES" 25)))) (.cons (.ret (.lit (.bl false))) .nil) .nil) (.cons (.ifs (.not (.bi .all (.cons (.lc false [("row", 2)] (.name 2) (.var 0) .nil (.call aw (.cons (.var 2) (.cons (.bi .len (.cons (.var 0) .nil)) .nil)))) .nil))) (.cons (.ret (.lit (.bl false))) .nil) .nil) (.cons (.setLc 1 (.lc false [("row", 2)] (.name 2) (.var 0) .nil (.bi .sum (.cons (.var 2) .nil)))) (.cons (.ret (.and (.cmp .gt (.idx (.var 1) (.lit (.int 0))) (.lit (.int 0))) (.cmp .eq (.bi .min (.cons (.var 1) .nil)) (.bi .max (.cons (.var 1) .nil))))) .nil))))⟩
def walkFn {ι : Type} (ar : ι) : Fn ι := ⟨1, 2, iniS (.not (.call ar (.cons (.var 1) .nil))) "BadWalk" ["BadWalk", "FadeError", "ValueError"] "Walk" ["rows", "whole"] (.cons (.var 1) (.cons (.bi .sum (.cons (.idx (.var 1) (.lit (.int 0))) .nil)) .nil))⟩
def lenFn {ι : Type} : Fn ι := ⟨1, 1, (.cons (.ret (.bi .len (.cons (.fld "Walk" (.var 0) "rows") .nil))) .nil)⟩
/-- a walk -/
def wlk (R : List (List Int)) (w : Int) : D := .ins "Walk" ["rows", "whole"] [rT R, .int w]
theorem fld_rows (R : List (List Int)) (w : Int) : fldD "Walk" "rows" (wlk R w) = some (rT R) := by
  unfold wlk fldD
  simp only [if_true]
  rfl
theorem fld_whole (R : List (List Int)) (w : Int) : fldD "Walk" "whole" (wlk R w) = some (.int w) := by
  unfold wlk fldD
  simp only [if_true]
  rfl
theorem isIns_w (R : List (List Int)) (w : Int) : isIns "Walk" (wlk R w) = true := by
  show decide (("Walk" : Str) = "Walk") = true
  simp
theorem shrt_row {r : List Int} (h : r.length ≤ 30) : Shrt (.tup (iL r)) := by
  refine ⟨?_, fun xs e => ?_⟩
  · simp only [pl]
    induction r with
    | nil => rfl
    | cons z r ih =>
      simp only [iL, List.map_cons, plL, pl, Bool.true_and]
      exact ih (by simp at h; omega)
  · cases e; simp; omega
theorem len_rT (R : List (List Int)) (m : MH) : built .len [rT R] m = some (.int (R.length : Nat)) := by
  simp [built, lenD, seqOf, rT]
theorem at_rT {R : List (List Int)} {k : Nat} (h : k < R.length) (m : MH) : getAt m (rT R) (.int (k : Nat)) = some (.tup (iL R[k])) := by
  have hk : k < (R.map fun r => D.tup (iL r)).length := by simpa using h
  simp only [rT, getAt, seqOf, Option.bind_some, place_nat hk]
  rw [List.getElem?_eq_getElem hk]
  simp
theorem at_row {r : List Int} {k : Nat} (h : k < r.length) (m : MH) : getAt m (.tup (iL r)) (.int (k : Nat)) = some (.int r[k]) := by
  have hk : k < (iL r).length := by simpa using h
  simp only [getAt, seqOf, Option.bind_some, place_nat hk]
  rw [List.getElem?_eq_getElem hk]
  simp
theorem len_if {k : Int} {m : MH} (h0 : 0 ≤ k) (h1 : k < 4611686018427387904) : (if 0 ≤ k ∧ k < 2 ^ 62 then Res.ok (D.int k) m else .fail) = .ok (.int k) m := by
  simp [h0, h1]
section
variable {ι : Type} {P : ι → Fn ι} {f ar aw wh : ι}
theorem run_areRows (h : P ar = areRowsFn aw) (ha : P aw = weightsFn wh) (hw : P wh = wholeFn) (d : Nat) {n : Nat} {w : Int} {R : List (List Int)} (hR : Rws n w R) (h1 : 1 ≤ n) (h2 : n ≤ 25) (hw0 : 0 < w) (m : MH) : run P (d + 3) ar [rT R] m = .ok (.bl true) m := by
  rw [run_b h rfl]
  have e0 : (([rT R].map some ++ List.replicate ((areRowsFn aw).ns - (areRowsFn aw).np) none) : Env) = [some (rT R), none, none] := rfl
  rw [e0]
  have hl := hR.len
  have ln : ∀ m, built .len [rT R] m = some (.int (n : Nat)) := fun m => by rw [len_rT, hl]
  have ty : ∀ m, isTy m .tuple (rT R) = true := fun _ => rfl
  have kn : ∀ m, tyKnown m (rT R) = true := fun _ => rfl
  have i1 : decide ((1 : Int) ≤ (n : Nat)) = true := decide_eq_true (by omega)
  have i2 : decide (((n : Nat) : Int) ≤ 25) = true := decide_eq_true (by omega)
  have aw' : ∀ r ∈ R, ∀ M, run P (d + 2) aw [.tup (iL r), .int (n : Nat)] M = .ok (.bl true) M := fun r hr M => by
    have e := run_weights ha hw d (shrt_row (r := r) (by rw [hR.row r hr]; omega)) (n : Nat) M
    rw [e]
    have : areW (.tup (iL r)) (n : Nat) = true := by
      simp only [areW, List.length_map, hR.row r hr, decide_true, Bool.true_and]
      exact natD_iL (hR.nn r hr)
    rw [this]
  have c1 := e_map (call := run P (d + 2)) (v := [some (rT R), none, none]) (m := [] :: m) (own := [("row", 2)]) (t := .name 2) (it := .var 0) (c := .call aw (.cons (.var 2) (.cons (.bi .len (.cons (.var 0) .nil)) .nil))) (xs := R.map fun r => D.tup (iL r)) (fun _ => .bl true) (by simp; omega) (by simp [rT, walked]) (fun y hy => by
    obtain ⟨r, hr, rfl⟩ := List.mem_map.mp hy
    refine ⟨[some (rT R), none, some (.tup (iL r))], rfl, ?_⟩
    simp only [e_call, l_cons, l_nil, e_var, at_succ, at_zero, Res.of_some, Res.bind_ok, e_bi, ln, aw' r hr])
  have a1 := all_e (g := fun _ => true) c1
  have c2 := e_map (call := run P (d + 2)) (v := [some (rT R), none, none]) (m := [] :: m) (own := [("row", 2)]) (t := .name 2) (it := .var 0) (c := .bi .sum (.cons (.var 2) .nil)) (xs := R.map fun r => D.tup (iL r)) (fun _ => .int w) (by simp; omega) (by simp [rT, walked]) (fun y hy => by
    obtain ⟨r, hr, rfl⟩ := List.mem_map.mp hy
    refine ⟨[some (rT R), none, some (.tup (iL r))], rfl, ?_⟩
    simp only [e_bi, l_cons, l_nil, e_var, at_succ, at_zero, Res.of_some, Res.bind_ok, sum_tup, hR.sum r hr])
  have hW : ((R.map fun r => D.tup (iL r)).map fun _ => D.int w) = iL (List.replicate n w) := by
    rw [List.map_map, ← hl]
    clear c1 a1 c2 aw' ln hR hl e0 i1 i2 ty kn
    induction R with
    | nil => rfl
    | cons r R ih => simp only [List.map_cons, Function.comp, List.length_cons, List.replicate_succ, iL] at ih ⊢; rw [ih]
  rw [hW] at c2
  have ne : List.replicate n w ≠ [] := by
    intro z
    have := congrArg List.length z
    simp at this; omega
  have hmn : minI (List.replicate n w) = w := (List.mem_replicate.mp (minI_spec ne).1).2
  have hmx : maxI (List.replicate n w) = w := (List.mem_replicate.mp (maxI_spec ne).1).2
  have g0 : ∀ M, getAt M (.lst (iL (List.replicate n w))) (.int 0) = some (.int w) := fun M => by
    have hk : 0 < (iL (List.replicate n w)).length := by simp; omega
    have := place_nat hk
    simp only [getAt, seqOf, Option.bind_some]
    rw [show ((0 : Int)) = ((0 : Nat) : Int) from rfl, place_nat hk]
    show (iL (List.replicate n w))[0]? = _
    rw [List.getElem?_eq_getElem hk]
    simp
  have gt : decide ((0 : Int) < w) = true := decide_eq_true hw0
  have hb : (areRowsFn aw).body = .cons (nth (areRowsFn aw).body 0) (.cons (nth (areRowsFn aw).body 1) (.cons (nth (areRowsFn aw).body 2) (.cons (nth (areRowsFn aw).body 3) .nil))) := rfl
  have s0 : exec (run P (d + 2)) (nth (areRowsFn aw).body 0) [some (rT R), none, none] ([] :: m) = .ok (.nx [some (rT R), none, none]) ([] :: m) := by
    simp only [nth, areRowsFn, x_ifs, t_or, t_not, t_isi, t_chain, e_chain, e_var, at_succ, at_zero, Res.of_some, Res.bind_ok, kn, ty, if_true, Bool.not_true, Bool.false_eq_true, if_false, e_lit, lit_int, e_bi, l_cons, l_nil, ln, le_int, i1, e_glob, i2, Option.map_some, Res.st_ok, x_nil]
  have s1 : exec (run P (d + 2)) (nth (areRowsFn aw).body 1) [some (rT R), none, none] ([] :: m) = .ok (.nx [some (rT R), none, none]) ([] :: m) := by
    have ht : (R.map fun r => D.tup (iL r)).all (fun _ => true) = true := by simp
    rw [ht] at a1
    have eb : nth (areRowsFn aw).body 1 = .ifs (.not (.bi .all (.cons (.lc false [("row", 2)] (.name 2) (.var 0) .nil (.call aw (.cons (.var 2) (.cons (.bi .len (.cons (.var 0) .nil)) .nil)))) .nil))) (.cons (.ret (.lit (.bl false))) .nil) .nil := rfl
    rw [eb, x_ifs, t_not, t_biE a1]
    rfl
  have s2 : exec (run P (d + 2)) (nth (areRowsFn aw).body 2) [some (rT R), none, none] ([] :: m) = .ok (.nx [some (rT R), some (.lst (iL (List.replicate n w))), none]) ([] :: m) := by
    have eb : nth (areRowsFn aw).body 2 = .setLc 1 (.lc false [("row", 2)] (.name 2) (.var 0) .nil (.bi .sum (.cons (.var 2) .nil))) := rfl
    rw [eb, x_setLc, c2]
    rfl
  rw [hb]
  simp only [x_cons]
  rw [s0, Res.then_nx, s1, Res.then_nx, s2, Res.then_nx]
  simp only [nth, areRowsFn, x_ret, e_and, e_cmp, e_idx, e_var, at_succ, at_zero, Res.of_some, Res.bind_ok, e_lit, lit_int, g0, gt_int, gt, Option.map_some, e_bi, l_cons, l_nil, min_lst _ ne, max_lst _ ne, hmn, hmx, cmp_eq, eqD_int, decide_true, Res.st_ok, Res.then_rt, left, leave, D.bd, if_true]
theorem run_walk (h : P f = walkFn ar) (h' : P ar = areRowsFn aw) (ha : P aw = weightsFn wh) (hw : P wh = wholeFn) (d : Nat) {n : Nat} {w : Int} {R : List (List Int)} (hR : Rws n w R) (h1 : 1 ≤ n) (h2 : n ≤ 25) (hw0 : 0 < w) (m : MH) : run P (d + 4) f [rT R] m = .ok (wlk R w) m := by
  rw [run_ini P (d + 3) f h]
  have e1 := run_areRows h' ha hw d hR h1 h2 hw0 ([] :: m)
  have hl := hR.len
  have hn : 0 < R.length := by omega
  have g0 : ∀ M, getAt M (rT R) (.int 0) = some (.tup (iL R[0])) := fun M => at_rT (k := 0) hn M
  have sm : R[0].sum = w := hR.sum _ (List.getElem_mem hn)
  have et : tst (run P (d + 3)) (.not (.call ar (.cons (.var 1) .nil))) [some .any, some (rT R)] ([] :: m) = .ok false ([] :: m) := by
    show (sem _ _).t _ _ = _
    simp only [t_not, t_call, l_cons, l_nil, e_var, at_succ, at_zero, Res.of_some, Res.bind_ok, e1, truth, Bool.not_true]
  have ee : evs (run P (d + 3)) (.cons (.var 1) (.cons (.bi .sum (.cons (.idx (.var 1) (.lit (.int 0))) .nil)) .nil)) [some .any, some (rT R)] ([] :: m) = .ok [rT R, .int w] ([] :: m) := by
    show (sem _ _).l _ _ = _
    simp only [l_cons, l_nil, e_var, at_succ, at_zero, Res.of_some, Res.bind_ok, e_bi, e_idx, e_lit, lit_int, g0, sum_tup, sm]
  rw [et, Res.st_ok, if_neg (by decide), ee, Res.st_ok]
  show left (.ok (.rt (wlk R w)) ([] :: m)) = _
  have hb : D.bd m.length (wlk R w) = true := by
    show bdL m.length [rT R, .int w] = true
    simp only [bdL, rT, D.bd, Bool.and_true]
    exact tupL_bd _ R
  show (if D.bd m.length (wlk R w) then Res.ok (wlk R w) m else Res.fail) = _
  rw [if_pos hb]
theorem run_lenW (h : P f = lenFn) (d : Nat) {n : Nat} {w : Int} {R : List (List Int)} (hl : R.length = n) (m : MH) : run P (d + 1) f [wlk R w] m = .ok (.int (n : Nat)) m := by
  rw [run_s h rfl]
  have ln : ∀ m, built .len [rT R] m = some (.int (n : Nat)) := fun m => by rw [len_rT, hl]
  simp [fld_rows, ln, left, leave, D.bd]
/-- len(walk) -/
theorem len_w {call : ι → List D → MH → Res D} {a : E ι} {v : Env} {m : MH} {n : Nat} {w : Int} {R : List (List Int)} (hn : n ≤ 1000000) (e : (sem call a).e v m = .ok (wlk R w) m) (hc : call f [wlk R w] m = .ok (.int (n : Nat)) m) : (sem call (.lenI "Walk" f a)).e v m = .ok (.int (n : Nat)) m := by
  rw [e_lenI, e]
  rw [Res.bind_ok, if_pos (isIns_w R w), hc, Res.nox_ok, Res.bind_ok]
  exact len_if (Int.natCast_nonneg n) (nat_rng hn).2
end
end Fw

set_option Elab.async false
set_option linter.all false
set_option maxRecDepth 100000
set_option maxHeartbeats 2000000
set_option autoImplicit false
/-! ## Fw32: comprehensions whose turns change what lies, what is told of each -/
namespace Fw
open PySem
section
variable {ι : Type} {call : ι → List D → MH → Res D}
theorem lc_SX {tg : D → Env → Option Env} {c : Env → MH → Res Bool} {e : Env → MH → Res D} {v : Env} (all : List D) (Q : MH → Prop) (G : D → Prop) (u : Nat → Env)
    (h : ∀ i (hi : i < all.length) M, Q M → tg all[i] v = some (u i) ∧ c (u i) M = .ok true M ∧ ∃ x M', e (u i) M = .ok x M' ∧ Q M' ∧ G x) : ∀ k i M, i ≤ all.length → k = all.length - i + 1 → Q M → ∃ xs M', lcW tg c e v (.items all) k i M = .ok xs M' ∧ xs.length = all.length - i ∧ (∀ x ∈ xs, G x) ∧ Q M' := by
  intro k
  induction k with
  | zero => intro i _ _ hk; omega
  | succ k ih =>
    intro i M hi hk hQ
    by_cases hlt : i < all.length
    · obtain ⟨e1, e2, x, M1, e3, q1, g1⟩ := h i hlt M hQ
      obtain ⟨xs, M2, e4, l4, g4, q4⟩ := ih (i + 1) M1 (by omega) (by omega) q1
      refine ⟨x :: xs, M2, ?_, by simp; omega, fun y hy => ?_, q4⟩
      · simp only [lcW, stepW, List.getElem?_eq_getElem hlt, e1, e2, Res.bind_ok, if_true, e3, e4]
      · rcases List.mem_cons.mp hy with rfl | hy
        · exact g1
        · exact g4 y hy
    · have h0 : all[i]? = none := List.getElem?_eq_none (by omega)
      refine ⟨[], M, ?_, by simp; omega, by simp, hQ⟩
      simp only [lcW, stepW, h0]
theorem e_SX {own : List (Str × Nat)} {t : Pt} {it e : E ι} {v : Env} {m0 : MH} {all : List D} (Q : MH → Prop) (G : D → Prop) (u : Nat → Env) (h0 : Q m0) (hl : all.length ≤ 16777216) (h : (sem call it).w v m0 = .ok (.items all) m0)
    (hx : ∀ i (hi : i < all.length) M, Q M → (ptg t).1 all[i] (wipeE v (own.map (·.2))) = some (u i) ∧ ∃ x M', (sem call e).e (u i) M = .ok x M' ∧ Q M' ∧ G x) : ∃ xs M', (sem call (.lc false own t it .nil e)).e v m0 = .ok (.lst xs) M' ∧ xs.length = all.length ∧ (∀ x ∈ xs, G x) ∧ Q M' := by
  have hz : all.length ≤ sizeLine := by unfold sizeLine; omega
  obtain ⟨xs, M', e1, l1, g1, q1⟩ := lc_SX (tg := (ptg t).1) (c := (sem call .nil).t) (e := (sem call e).e) (v := wipeE v (own.map (·.2))) all Q G u (fun i hi M hM => by
    obtain ⟨a, x, M', b⟩ := hx i hi M hM
    exact ⟨a, rfl, x, M', b⟩) (all.length + 1) 0 m0 (by omega) (by omega) h0
  refine ⟨xs, M', ?_, by omega, g1, q1⟩
  rw [e_lc, h]
  simp only [Res.bind_ok, lenW, hz, if_true, e1, Res.nox_ok, if_false, Bool.false_eq_true]
end
/-! ### a law's turns: a pen of each cell, so many turns each -/
def penB {ι : Type} (cell pen : ι) (K T : Int) (B : S ι) : S ι := .cons (.for_ (.name 1) (.bin .add (.lst (.cons (.call cell (.cons (.var 0) (.cons (.lit (.int 0)) .nil))) .nil)) (.sl (.var 0) (.lit (.int 1)) (.lit (.int K)))) (.cons (.asg (.name 2) (.call pen (.cons (.var 1) .nil))) (.cons (.for_ (.name 3) (.rng1 (.lit (.int T))) B) .nil))) (.cons (.ret (.lit (.bl true))) .nil)
theorem cut_map (ns : List Int) (a b : Option Int) : ∃ zs : List Int, cut (ns.map D.int) a b = zs.map D.int ∧ zs.length ≤ ns.length := by
  refine ⟨(ns.drop (HT.sIx ns.length 0 a)).take (HT.sIx ns.length ns.length b - HT.sIx ns.length 0 a), ?_, ?_⟩
  · simp only [cut, List.length_map, List.map_take, List.map_drop]
  · simp; omega
section
variable {ι : Type} {P : ι → Fn ι} {f cell pen : ι}
theorem pens_of {K T : Int} {sl : Nat} {B : S ι} (h : P f = ⟨1, sl + 4, penB cell pen K T B⟩) (hc : P cell = cellFn) (hp : P pen = penFn) (hT : 0 ≤ T ∧ T ≤ 1000) (d : Nat) (ns : List Int) (hl : ns.length ≤ 63)
    (turn : ∀ (c : Int) (y3 : D) (v : Env) (m : MH) (l i : Nat) (o : MO), Lv m l i → Pen o → v.length = sl → ∃ v' o', v'.length = sl ∧ Pen o' ∧ exec (run P (d + 1)) B (some (.scr (ns.map .int)) :: some (.int c) :: some (.ref l i) :: some y3 :: v) (put m l i o) = .ok (.nx (some (.scr (ns.map .int)) :: some (.int c) :: some (.ref l i) :: some y3 :: v')) (put m l i o')) :
    run P (d + 2) f [.scr (ns.map .int)] [] = .ok (.bl true) [] := by
  obtain ⟨z, ez⟩ := run_cell hc d ns 0 [[]]
  obtain ⟨zs, e1, l1⟩ := cut_map ns (some 1) (some K)
  have ca := lst_cat (m := [[]]) (xs := [.int z]) (ys := zs.map D.int) (by simp; omega)
  have Tn : ∃ t : Nat, T = (t : Int) ∧ t ≤ 1000 := ⟨T.toNat, by omega, by omega⟩
  obtain ⟨t, rfl, ht⟩ := Tn
  obtain ⟨v2, m2, e2, ⟨y1, y2, y3, v', rfl, hv'⟩, fr', rfl⟩ := loop_L (call := run P (d + 1)) (t := .name 1) (b := (.cons (.asg (.name 2) (.call pen (.cons (.var 1) .nil))) (.cons (.for_ (.name 3) (.rng1 (.lit (.int t))) B) .nil))) (f := D.int)
    (P := fun _ v M => (∃ y1 y2 y3 v', v = some (.scr (ns.map .int)) :: y1 :: y2 :: y3 :: v' ∧ v'.length = sl) ∧ ∃ fr, M = [fr])
    (fun c cs v M hP => by
      obtain ⟨⟨y1, y2, y3, v', rfl, hv'⟩, fr, rfl⟩ := hP
      obtain ⟨o, ho, eo⟩ := run_pen hp d c fr []
      have hg : get [fr ++ [o]] 0 fr.length = some o := get_of top_of
      have hlv : Lv [fr ++ [o]] 0 fr.length := by unfold Lv; rw [hg]; rfl
      obtain ⟨v2, m2, e2, y3', v2', o', hv2, ho', rfl, rfl⟩ := loop_R (call := run P (d + 1)) (t := .name 3) (b := B) (f := fun k => D.int (k : Nat)) (n := t)
        (P := fun _ v M => ∃ y3 v' o', v'.length = sl ∧ Pen o' ∧ v = some (.scr (ns.map .int)) :: some (.int c) :: some (.ref 0 fr.length) :: y3 :: v' ∧ M = put [fr ++ [o]] 0 fr.length o')
        (fun k v M hk hP => by
          obtain ⟨y3, v', o', hv', ho', rfl, rfl⟩ := hP
          obtain ⟨v2, o2, hv2, ho2, e2⟩ := turn c (.int (k : Nat)) v' [fr ++ [o]] 0 fr.length o' hlv ho' hv'
          exact ⟨_, rfl, _, _, e2, _, _, _, hv2, ho2, rfl, rfl⟩) (v := some (.scr (ns.map .int)) :: some (.int c) :: some (.ref 0 fr.length) :: y3 :: v') (m := [fr ++ [o]])
        ⟨y3, v', o, hv', ho, rfl, (put_self hg).symm⟩
      refine ⟨some (.scr (ns.map .int)) :: some (.int c) :: y2 :: y3 :: v', rfl, some (.scr (ns.map .int)) :: some (.int c) :: some (.ref 0 fr.length) :: y3' :: v2', put [fr ++ [o]] 0 fr.length o', ?_, ⟨some (.int c), some (.ref 0 fr.length), y3', v2', rfl, hv2⟩, (fr ++ [o]).set fr.length o', put_of⟩
      have s0 : exec (run P (d + 1)) (.asg (.name 2) (.call pen (.cons (.var 1) .nil))) (some (.scr (ns.map .int)) :: some (.int c) :: y2 :: y3 :: v') [fr] = .ok (.nx (some (.scr (ns.map .int)) :: some (.int c) :: some (.ref 0 fr.length) :: y3 :: v')) [fr ++ [o]] := by
        have eo' : run P (d + 1) pen [.int c] [fr] = .ok (.ref 0 fr.length) [fr ++ [o]] := eo
        simp only [x_asg, e_call, l_cons, l_nil, e_var, at_succ, at_zero, Res.of_some, Res.bind_ok, eo', Res.st_ok, g_name, List.length_cons, List.set_cons_succ, List.set_cons_zero]
        rw [if_pos (by omega)]
        rfl
      simp only [x_cons]
      rw [s0, Res.then_nx, x_k1 (k := ((t : Nat) : Int)) (m2 := [fr ++ [o]]) rfl (nat_rng (show t ≤ 1000000 by omega)).1 (nat_rng (show t ≤ 1000000 by omega)).2, range_D, e2, Res.then_nx, x_nil]) (z :: zs) (some (.scr (ns.map .int)) :: none :: none :: none :: List.replicate sl none) [[]] ⟨⟨none, none, none, _, rfl, by simp⟩, [], rfl⟩
  rw [run_b h rfl]
  have e0 : (([D.scr (ns.map .int)].map some ++ List.replicate (sl + 4 - 1) none) : Env) = some (.scr (ns.map .int)) :: none :: none :: none :: List.replicate sl none := by
    rw [show sl + 4 - 1 = sl + 3 from rfl]
    rfl
  have ez' : run P (d + 1) cell [.scr (ns.map .int), .int 0] [[]] = .ok (.int z) [[]] := ez
  have hw : (sem (run P (d + 1)) (.bin .add (.lst (.cons (.call cell (.cons (.var 0) (.cons (.lit (.int 0)) .nil))) .nil)) (.sl (.var 0) (.lit (.int 1)) (.lit (.int K))))).w (some (.scr (ns.map .int)) :: none :: none :: none :: List.replicate sl none) [[]] = .ok (.items ((z :: zs).map D.int)) [[]] := by
    have sd : slD [[]] (.scr (ns.map .int)) (some 1) (some K) = some (.lst (zs.map D.int)) := by
      show some (D.lst (cut (ns.map .int) (some 1) (some K))) = _
      rw [e1]
    simp only [w_bin, e_bin, e_lst, l_cons, l_nil, e_call, e_var, e_lit, lit_int, at_succ, at_zero, Res.of_some, Res.bind_ok, ez', List.length_cons, List.length_nil, sz1, Nat.zero_add, if_true, e_sl, o_lit, sd, ca, walked]
    rfl
  show left (exec (run P (d + 1)) (penB cell pen K t B) _ [[]]) = _
  rw [e0]
  simp only [penB, x_cons]
  rw [x_for, hw, Res.st_ok, e2, Res.then_nx, x_ret]
  rfl
end
end Fw

set_option Elab.async false
set_option linter.all false
set_option maxRecDepth 100000
set_option maxHeartbeats 0
set_option autoImplicit false
namespace Law
open PySem PySem.Spec PyProof.Rows L2 Fw

inductive Id where
  | wall | is_whole | is_from_to | are_weights | are_rows | round_weight | is_slip | law_cell_at | law_next | law_pen_of | law_draw | law_rows | law_odd | law_bent | law_whole | law_product | law_is_slip | law_round | law_ | Walk_ini | Walk_len
  deriving DecidableEq
def b_wall : S Id := (.cons (.whl (.lit (.bl true)) (.cons (.pass) .nil)) .nil)
def c_wall : Fn Id := ⟨1, 1, b_wall⟩
def b_is_whole : S Id := (.cons (.ret (.and (.isi (.var 0) .int) (.not (.isi (.var 0) .bool)))) .nil)
def c_is_whole : Fn Id := ⟨1, 1, b_is_whole⟩
def b_is_from_to : S Id := (.cons (.ret (.and (.call .is_whole (.cons (.var 0) .nil)) (.chain .le .le (.var 1) (.var 0) (.var 2)))) .nil)
def c_is_from_to : Fn Id := ⟨3, 3, b_is_from_to⟩
def b_are_weights : S Id := (.cons (.ret (.and (.isi (.var 0) .tuple) (.and (.cmp .eq (.bi .len (.cons (.var 0) .nil)) (.var 1)) (.bi .all (.cons (.lc false [("one", 2)] (.name 2) (.var 0) .nil (.and (.call .is_whole (.cons (.var 2) .nil)) (.cmp .ge (.var 2) (.lit (.int 0))))) .nil))))) .nil)
def c_are_weights : Fn Id := ⟨2, 3, b_are_weights⟩
def b_are_rows : S Id := (.cons (.ifs (.or (.not (.isi (.var 0) .tuple)) (.not (.chain .le .le (.lit (.int 1)) (.bi .len (.cons (.var 0) .nil)) (.glob "MOST_PLACES" 25)))) (.cons (.ret (.lit (.bl false))) .nil) .nil) (.cons (.ifs (.not (.bi .all (.cons (.lc false [("row", 2)] (.name 2) (.var 0) .nil (.call .are_weights (.cons (.var 2) (.cons (.bi .len (.cons (.var 0) .nil)) .nil)))) .nil))) (.cons (.ret (.lit (.bl false))) .nil) .nil) (.cons (.setLc 1 (.lc false [("row", 2)] (.name 2) (.var 0) .nil (.bi .sum (.cons (.var 2) .nil)))) (.cons (.ret (.and (.cmp .gt (.idx (.var 1) (.lit (.int 0))) (.lit (.int 0))) (.cmp .eq (.bi .min (.cons (.var 1) .nil)) (.bi .max (.cons (.var 1) .nil))))) .nil))))
def c_are_rows : Fn Id := ⟨1, 3, b_are_rows⟩
def b_round_weight : S Id := (.cons (.asg (.name 2) (.lit (.int 1))) (.cons (.for_ (.tup 2 (.cons (.name 3) (.cons (.name 4) .nil))) (.zip (.var 1) (.bin .add (.sl (.var 1) (.lit (.int 1)) .nil) (.sl (.var 1) .nil (.lit (.int 1))))) (.cons (.asg (.name 2) (.bin .mul (.var 2) (.idx (.idx (.fld "Walk" (.var 0) "rows") (.var 3)) (.var 4)))) .nil)) (.cons (.ret (.var 2)) .nil)))
def c_round_weight : Fn Id := ⟨2, 5, b_round_weight⟩
def b_is_slip : S Id := (.cons (.ifs (.or (.not (.isi (.var 1) .tuple)) (.cmp .lt (.bi .len (.cons (.var 1) .nil)) (.glob "LEAST_ROUND" 3))) (.cons (.ret (.lit (.bl false))) .nil) .nil) (.cons (.ifs (.or (.not (.bi .all (.cons (.lc false [("place", 2)] (.name 2) (.var 1) .nil (.call .is_from_to (.cons (.var 2) (.cons (.lit (.int 0)) (.cons (.bin .sub (.lenI "Walk" .Walk_len (.var 0)) (.lit (.int 1))) .nil))))) .nil))) (.cmp .ne (.setLen (.var 1)) (.bi .len (.cons (.var 1) .nil)))) (.cons (.ret (.lit (.bl false))) .nil) .nil) (.cons (.ret (.cmp .ne (.call .round_weight (.cons (.var 0) (.cons (.var 1) .nil))) (.call .round_weight (.cons (.var 0) (.cons (.rev (.var 1)) .nil))))) .nil)))
def c_is_slip : Fn Id := ⟨2, 3, b_is_slip⟩
def b_law_cell_at : S Id := (.cons (.ifs (.cmp .lt (.var 1) (.bi .len (.cons (.var 0) .nil))) (.cons (.ret (.idx (.var 0) (.var 1))) .nil) .nil) (.cons (.ret (.lit (.int 0))) .nil))
def c_law_cell_at : Fn Id := ⟨2, 2, b_law_cell_at⟩
def b_law_next : S Id := (.cons (.asg (.name 0) (.bin .mod (.bin .add (.var 0) (.lit (.int 7919))) (.lit (.int 2147483647)))) (.cons (.ret (.bin .mod (.bin .add (.bin .add (.bin .mul (.var 0) (.var 0)) (.bin .mul (.lit (.int 48271)) (.var 0))) (.lit (.int 12345))) (.lit (.int 2147483629)))) .nil))
def c_law_next : Fn Id := ⟨1, 1, b_law_next⟩
def b_law_pen_of : S Id := (.cons (.asg (.name 1) (.bi .max (.cons (.var 0) (.cons (.bin .sub (.lit (.int 0)) (.var 0)) .nil)))) (.cons (.ret (.new (.cons (.var 1) (.cons (.bi .int (.cons (.cmp .ge (.var 1) (.bin .pow (.lit (.int 10)) (.lit (.int 18)))) .nil)) (.cons (.bin .mod (.var 1) (.lit (.int 1000003))) .nil))))) .nil))
def c_law_pen_of : Fn Id := ⟨1, 2, b_law_pen_of⟩
def b_law_draw : S Id := (.cons (.ifs (.and (.cmp .eq (.idx (.var 0) (.lit (.int 1))) (.lit (.int 1))) (.cmp .gt (.idx (.var 0) (.lit (.int 0))) (.lit (.int 0)))) (.cons (.asg (.name 2) (.bin .mod (.idx (.var 0) (.lit (.int 0))) (.var 1))) (.cons (.asg (.sub (.var 0) (.lit (.int 0))) (.bin .fdiv (.idx (.var 0) (.lit (.int 0))) (.var 1))) (.cons (.ret (.var 2)) .nil))) .nil) (.cons (.asg (.sub (.var 0) (.lit (.int 2))) (.call .law_next (.cons (.bin .add (.call .law_next (.cons (.idx (.var 0) (.lit (.int 2))) .nil)) (.lit (.int 7))) .nil))) (.cons (.ret (.bin .mod (.bin .fdiv (.idx (.var 0) (.lit (.int 2))) (.lit (.int 64))) (.var 1))) .nil)))
def c_law_draw : Fn Id := ⟨2, 3, b_law_draw⟩
def b_law_rows : S Id := (.cons (.par3 4 5 6 (.cons (.bin .add (.lit (.int 1)) (.call .law_draw (.cons (.var 0) (.cons (.var 1) .nil)))) (.cons (.idx (.lst (.cons (.lit (.int 1)) (.cons (.lit (.int 2)) (.cons (.lit (.int 3)) (.cons (.lit (.int 4)) (.cons (.lit (.int 6)) (.cons (.lit (.int 12)) .nil))))))) (.call .law_draw (.cons (.var 0) (.cons (.lit (.int 6)) .nil)))) (.cons (.call .law_draw (.cons (.var 0) (.cons (.lit (.int 7)) .nil))) .nil)))) (.cons (.asg (.name 2) (.new .nil)) (.cons (.for_ (.name 3) (.rng1 (.var 4)) (.cons (.asg (.name 7) (.lrng .lst (.var 4))) (.cons (.ifs (.cmp .eq (.var 6) (.lit (.int 1))) (.cons (.asg (.name 7) (.lst (.cons (.call .law_draw (.cons (.var 0) (.cons (.var 4) .nil))) (.cons (.call .law_draw (.cons (.var 0) (.cons (.var 4) .nil))) .nil)))) .nil) .nil) (.cons (.ifs (.cmp .eq (.var 6) (.lit (.int 2))) (.cons (.asg (.name 7) (.lst (.cons (.bin .mod (.bin .add (.var 3) (.lit (.int 1))) (.var 4)) .nil))) .nil) .nil) (.cons (.ifs (.cmp .eq (.var 6) (.lit (.int 3))) (.cons (.asg (.name 7) (.bin .add (.lc false [("_law_y", 10)] (.name 10) (.rng1 (.var 4)) (.cmp .ne (.bin .mod (.var 10) (.lit (.int 2))) (.bin .mod (.var 3) (.lit (.int 2)))) (.var 10)) (.bin .mul (.lst (.cons (.var 3) .nil)) (.bi .int (.cons (.cmp .eq (.var 4) (.lit (.int 1))) .nil))))) .nil) .nil) (.cons (.ifs (.cmp .eq (.var 6) (.lit (.int 4))) (.cons (.setLc 7 (.lc false [("_law_y", 10)] (.name 10) (.rng1 (.var 4)) (.cmp .eq (.bin .fdiv (.var 10) (.lit (.int 2))) (.bin .fdiv (.var 3) (.lit (.int 2)))) (.var 10))) .nil) .nil) (.cons (.ifs (.cmp .eq (.var 6) (.lit (.int 5))) (.cons (.asg (.name 7) (.lrng .lst (.bin .add (.var 3) (.lit (.int 1))))) .nil) .nil) (.cons (.asg (.name 8) (.nbin .mul (.lst (.cons (.lit (.int 0)) .nil)) (.var 4))) (.cons (.for_ (.name 9) (.rng1 (.var 5)) (.cons (.augS (.var 8) (.idx (.var 7) (.call .law_draw (.cons (.var 0) (.cons (.bi .len (.cons (.var 7) .nil)) .nil)))) .add (.lit (.int 1))) .nil)) (.cons (.exp (.app (.var 2) (.bi .tuple (.cons (.var 8) .nil)))) .nil)))))))))) (.cons (.ret (.bi .tuple (.cons (.var 2) .nil))) .nil))))
def c_law_rows : Fn Id := ⟨2, 11, b_law_rows⟩
def b_law_odd : S Id := (.cons (.asg (.name 1) (.lst (.cons (.lit .non) (.cons (.lit (.bl true)) (.cons (.lit (.bl false)) (.cons (.neg (.lit (.int 1))) (.cons (.lit (.int 99)) (.cons (.bin .pow (.lit (.int 10)) (.lit (.int 11))) (.cons (.lit (.str "")) (.cons (.lit (.str "0")) (.cons (.tup .nil) (.cons (.lst .nil) (.cons (.dlit [] []) (.cons (.tup (.cons (.tup .nil) .nil)) (.cons (.tup (.cons (.lit (.int 0)) .nil)) (.cons (.lst (.cons (.lit (.int 0)) .nil)) (.cons (.tup (.cons (.lit (.int 0)) (.cons (.lit (.int 0)) .nil))) (.cons (.lit (.str "ab")) (.cons (.dlit [0] [1]) .nil))))))))))))))))))) (.cons (.ret (.idx (.var 1) (.call .law_draw (.cons (.var 0) (.cons (.lit (.int 17)) .nil))))) .nil))
def c_law_odd : Fn Id := ⟨1, 2, b_law_odd⟩
def b_law_bent : S Id := (.cons (.asg (.name 2) (.call .law_draw (.cons (.var 0) (.cons (.lit (.int 8)) .nil)))) (.cons (.ifs (.not (.isi (.var 1) .tuple)) (.cons (.ifs (.and (.isi (.var 1) .int) (.cmp .lt (.var 2) (.lit (.int 5)))) (.cons (.ret (.idx (.lst (.cons (.bin .add (.var 1) (.lit (.int 1))) (.cons (.bin .sub (.var 1) (.lit (.int 1))) (.cons (.bin .sub (.lit (.int 0)) (.var 1)) (.cons (.lit (.bl true)) (.cons (.bin .add (.var 1) (.lit (.int 7))) .nil)))))) (.var 2))) .nil) .nil) (.cons (.ret (.call .law_odd (.cons (.var 0) .nil))) .nil)) .nil) (.cons (.ifs (.or (.cmp .eq (.var 1) (.tup .nil)) (.cmp .eq (.var 2) (.lit (.int 0)))) (.cons (.ret (.idx (.lst (.cons (.bi .list (.cons (.var 1) .nil)) (.cons (.bin .add (.var 1) (.tup (.cons (.call .law_odd (.cons (.var 0) .nil)) .nil))) (.cons (.call .law_odd (.cons (.var 0) .nil)) (.cons (.rev (.var 1)) (.cons (.sl (.var 1) (.lit (.int 1)) .nil) .nil)))))) (.call .law_draw (.cons (.var 0) (.cons (.lit (.int 5)) .nil))))) .nil) .nil) (.cons (.asg (.name 3) (.call .law_draw (.cons (.var 0) (.cons (.bi .len (.cons (.var 1) .nil)) .nil)))) (.cons (.ifs (.cmp .eq (.var 2) (.lit (.int 1))) (.cons (.ret (.bin .add (.sl (.var 1) .nil (.var 3)) (.sl (.var 1) (.bin .add (.var 3) (.lit (.int 1))) .nil))) .nil) .nil) (.cons (.ifs (.cmp .eq (.var 2) (.lit (.int 2))) (.cons (.ret (.bin .add (.bin .add (.sl (.var 1) .nil (.var 3)) (.sl (.var 1) (.var 3) (.bin .add (.var 3) (.lit (.int 1))))) (.sl (.var 1) (.var 3) .nil))) .nil) .nil) (.cons (.ret (.bin .add (.bin .add (.sl (.var 1) .nil (.var 3)) (.tup (.cons (.call .law_bent (.cons (.var 0) (.cons (.idx (.var 1) (.var 3)) .nil))) .nil))) (.sl (.var 1) (.bin .add (.var 3) (.lit (.int 1))) .nil))) .nil)))))))
def c_law_bent : Fn Id := ⟨2, 4, b_law_bent⟩
def b_law_whole : S Id := (.cons (.ret (.and (.isi (.var 0) .int) (.not (.isi (.var 0) .bool)))) .nil)
def c_law_whole : Fn Id := ⟨1, 1, b_law_whole⟩
def b_law_product : S Id := (.cons (.asg (.name 2) (.lit (.int 1))) (.cons (.for_ (.tup 2 (.cons (.name 3) (.cons (.name 4) .nil))) (.enum (.var 1)) (.cons (.asg (.name 2) (.bin .mul (.var 2) (.idx (.idx (.var 0) (.var 4)) (.idx (.var 1) (.bin .mod (.bin .add (.var 3) (.lit (.int 1))) (.bi .len (.cons (.var 1) .nil))))))) .nil)) (.cons (.ret (.var 2)) .nil)))
def c_law_product : Fn Id := ⟨2, 5, b_law_product⟩
def b_law_is_slip : S Id := (.cons (.ifs (.or (.not (.isi (.var 1) .tuple)) (.cmp .lt (.bi .len (.cons (.var 1) .nil)) (.lit (.int 3)))) (.cons (.ret (.lit (.bl false))) .nil) .nil) (.cons (.ifs (.or (.cmp .ne (.lc false [("_law_one", 2)] (.name 2) (.var 1) (.or (.not (.call .law_whole (.cons (.var 2) .nil))) (.not (.chain .le .lt (.lit (.int 0)) (.var 2) (.bi .len (.cons (.var 0) .nil))))) (.lit (.int 1))) (.lst .nil)) (.cmp .ne (.setLen (.var 1)) (.bi .len (.cons (.var 1) .nil)))) (.cons (.ret (.lit (.bl false))) .nil) .nil) (.cons (.ret (.cmp .ne (.call .law_product (.cons (.var 0) (.cons (.var 1) .nil))) (.call .law_product (.cons (.var 0) (.cons (.rev (.var 1)) .nil))))) .nil)))
def c_law_is_slip : Fn Id := ⟨2, 3, b_law_is_slip⟩
def b_law_round : S Id := (.cons (.par 3 4 (.cons (.lrng .new (.var 1)) (.cons (.tup .nil) .nil))) (.cons (.for_ (.name 2) (.rng1 (.call .law_draw (.cons (.var 0) (.cons (.bin .add (.var 1) (.lit (.int 1))) .nil)))) (.cons (.asg (.name 4) (.bin .add (.var 4) (.tup (.cons (.pop (.var 3) (.call .law_draw (.cons (.var 0) (.cons (.bi .len (.cons (.var 3) .nil)) .nil)))) .nil)))) .nil)) (.cons (.ret (.var 4)) .nil)))
def c_law_round : Fn Id := ⟨2, 5, b_law_round⟩
def b_law_ : S Id := (.cons (.for_ (.name 1) (.bin .add (.lst (.cons (.call .law_cell_at (.cons (.var 0) (.cons (.lit (.int 0)) .nil))) .nil)) (.sl (.var 0) (.lit (.int 1)) (.lit (.int 4)))) (.cons (.asg (.name 2) (.call .law_pen_of (.cons (.var 1) .nil))) (.cons (.for_ (.name 3) (.rng1 (.lit (.int 4))) (.cons (.asg (.name 4) (.call .law_rows (.cons (.var 2) (.cons (.lit (.int 6)) .nil)))) (.cons (.asg (.name 5) (.mk .Walk_ini (.var 4))) (.cons (.asg (.name 6) (.bin .add (.lc false [("_law_lap", 12)] (.name 12) (.rng1 (.lit (.int 6))) .nil (.call .law_round (.cons (.var 2) (.cons (.bi .len (.cons (.var 4) .nil)) .nil)))) (.lst (.cons (.lrng .tup (.bi .len (.cons (.var 4) .nil))) .nil)))) (.cons (.asg (.name 7) (.bin .add (.var 6) (.lst (.cons (.lit .non) (.cons (.tup .nil) (.cons (.tup (.cons (.lit (.int 0)) (.cons (.lit (.int 0)) (.cons (.lit (.int 0)) .nil)))) (.cons (.tup (.cons (.lit (.int 0)) (.cons (.lit (.int 1)) .nil))) (.cons (.call .law_odd (.cons (.var 2) .nil)) (.cons (.bi .list (.cons (.idx (.var 6) (.neg (.lit (.int 1)))) .nil)) .nil))))))))) (.cons (.for_ (.name 8) (.var 6) (.cons (.asg (.name 9) (.call .law_bent (.cons (.var 2) (.cons (.var 8) .nil)))) (.cons (.asg (.name 7) (.bin .add (.var 7) (.lst (.cons (.rev (.var 8)) (.cons (.bin .add (.sl (.var 8) (.lit (.int 1)) .nil) (.sl (.var 8) .nil (.lit (.int 1)))) (.cons (.bin .add (.var 8) (.sl (.var 8) .nil (.lit (.int 1)))) (.cons (.var 9) (.cons (.call .law_bent (.cons (.var 2) (.cons (.var 9) .nil))) .nil)))))))) .nil))) (.cons (.for_ (.name 8) (.var 7) (.cons (.par 10 11 (.cons (.bi .repr (.cons (.var 8) .nil)) (.cons (.call .law_is_slip (.cons (.var 4) (.cons (.var 8) .nil))) .nil))) (.cons (.ifs (.cmp .ne (.bi .repr (.cons (.lst (.cons (.call .is_slip (.cons (.var 5) (.cons (.var 8) .nil))) (.cons (.call .is_slip (.cons (.var 5) (.cons (.var 8) .nil))) .nil))) .nil)) (.bi .repr (.cons (.lst (.cons (.var 11) (.cons (.var 11) .nil))) .nil))) (.cons (.ret (.lit (.bl false))) .nil) .nil) (.cons (.ifs (.cmp .ne (.bi .repr (.cons (.var 8) .nil)) (.var 10)) (.cons (.ret (.lit (.bl false))) .nil) .nil) .nil)))) .nil))))))) .nil))) (.cons (.ret (.lit (.bl true))) .nil))
def c_law_ : Fn Id := ⟨1, 13, b_law_⟩
def t_Walk_ini : E Id := (.not (.call .are_rows (.cons (.var 1) .nil)))
def e_Walk_ini : E Id := (.cons (.var 1) (.cons (.bi .sum (.cons (.idx (.var 1) (.lit (.int 0))) .nil)) .nil))
def c_Walk_ini : Fn Id := ⟨1, 2, iniS t_Walk_ini "BadWalk" ["BadWalk", "FadeError", "ValueError"] "Walk" ["rows", "whole"] e_Walk_ini⟩
def b_Walk_len : S Id := (.cons (.ret (.bi .len (.cons (.fld "Walk" (.var 0) "rows") .nil))) .nil)
def c_Walk_len : Fn Id := ⟨1, 1, b_Walk_len⟩
def Pr : Id → Fn Id
  | .wall => c_wall
  | .is_whole => c_is_whole
  | .is_from_to => c_is_from_to
  | .are_weights => c_are_weights
  | .are_rows => c_are_rows
  | .round_weight => c_round_weight
  | .is_slip => c_is_slip
  | .law_cell_at => c_law_cell_at
  | .law_next => c_law_next
  | .law_pen_of => c_law_pen_of
  | .law_draw => c_law_draw
  | .law_rows => c_law_rows
  | .law_odd => c_law_odd
  | .law_bent => c_law_bent
  | .law_whole => c_law_whole
  | .law_product => c_law_product
  | .law_is_slip => c_law_is_slip
  | .law_round => c_law_round
  | .law_ => c_law_
  | .Walk_ini => c_Walk_ini
  | .Walk_len => c_Walk_len
theorem R_wall (d : Nat) (x0 : D) (m : MH) : run Pr (d + 1) .wall [x0] m = left (exec (run Pr d) b_wall [some x0] ([] :: m)) := rfl
theorem R_is_whole (d : Nat) (x0 : D) (m : MH) : run Pr (d + 1) .is_whole [x0] m = left (exec (run Pr d) b_is_whole [some x0] ([] :: m)) := rfl
theorem R_is_from_to (d : Nat) (x0 x1 x2 : D) (m : MH) : run Pr (d + 1) .is_from_to [x0, x1, x2] m = left (exec (run Pr d) b_is_from_to [some x0, some x1, some x2] ([] :: m)) := rfl
theorem R_are_weights (d : Nat) (x0 x1 : D) (m : MH) : run Pr (d + 1) .are_weights [x0, x1] m = left (exec (run Pr d) b_are_weights [some x0, some x1, none] ([] :: m)) := rfl
theorem R_are_rows (d : Nat) (x0 : D) (m : MH) : run Pr (d + 1) .are_rows [x0] m = left (exec (run Pr d) b_are_rows [some x0, none, none] ([] :: m)) := rfl
theorem R_round_weight (d : Nat) (x0 x1 : D) (m : MH) : run Pr (d + 1) .round_weight [x0, x1] m = left (exec (run Pr d) b_round_weight [some x0, some x1, none, none, none] ([] :: m)) := rfl
theorem R_is_slip (d : Nat) (x0 x1 : D) (m : MH) : run Pr (d + 1) .is_slip [x0, x1] m = left (exec (run Pr d) b_is_slip [some x0, some x1, none] ([] :: m)) := rfl
theorem R_law_cell_at (d : Nat) (x0 x1 : D) (m : MH) : run Pr (d + 1) .law_cell_at [x0, x1] m = left (exec (run Pr d) b_law_cell_at [some x0, some x1] ([] :: m)) := rfl
theorem R_law_next (d : Nat) (x0 : D) (m : MH) : run Pr (d + 1) .law_next [x0] m = left (exec (run Pr d) b_law_next [some x0] ([] :: m)) := rfl
theorem R_law_pen_of (d : Nat) (x0 : D) (m : MH) : run Pr (d + 1) .law_pen_of [x0] m = left (exec (run Pr d) b_law_pen_of [some x0, none] ([] :: m)) := rfl
theorem R_law_draw (d : Nat) (x0 x1 : D) (m : MH) : run Pr (d + 1) .law_draw [x0, x1] m = left (exec (run Pr d) b_law_draw [some x0, some x1, none] ([] :: m)) := rfl
theorem R_law_rows (d : Nat) (x0 x1 : D) (m : MH) : run Pr (d + 1) .law_rows [x0, x1] m = left (exec (run Pr d) b_law_rows [some x0, some x1, none, none, none, none, none, none, none, none, none] ([] :: m)) := rfl
theorem R_law_odd (d : Nat) (x0 : D) (m : MH) : run Pr (d + 1) .law_odd [x0] m = left (exec (run Pr d) b_law_odd [some x0, none] ([] :: m)) := rfl
theorem R_law_bent (d : Nat) (x0 x1 : D) (m : MH) : run Pr (d + 1) .law_bent [x0, x1] m = left (exec (run Pr d) b_law_bent [some x0, some x1, none, none] ([] :: m)) := rfl
theorem R_law_whole (d : Nat) (x0 : D) (m : MH) : run Pr (d + 1) .law_whole [x0] m = left (exec (run Pr d) b_law_whole [some x0] ([] :: m)) := rfl
theorem R_law_product (d : Nat) (x0 x1 : D) (m : MH) : run Pr (d + 1) .law_product [x0, x1] m = left (exec (run Pr d) b_law_product [some x0, some x1, none, none, none] ([] :: m)) := rfl
theorem R_law_is_slip (d : Nat) (x0 x1 : D) (m : MH) : run Pr (d + 1) .law_is_slip [x0, x1] m = left (exec (run Pr d) b_law_is_slip [some x0, some x1, none] ([] :: m)) := rfl
theorem R_law_round (d : Nat) (x0 x1 : D) (m : MH) : run Pr (d + 1) .law_round [x0, x1] m = left (exec (run Pr d) b_law_round [some x0, some x1, none, none, none] ([] :: m)) := rfl
theorem R_law_ (d : Nat) (x0 : D) (m : MH) : run Pr (d + 1) .law_ [x0] m = left (exec (run Pr d) b_law_ [some x0, none, none, none, none, none, none, none, none, none, none, none, none] ([] :: m)) := rfl
theorem R_Walk_ini (d : Nat) (x : D) (m : MH) : run Pr (d + 1) .Walk_ini [x] m = left ((tst (run Pr d) t_Walk_ini [some .any, some x] ([] :: m)).st [some .any, some x] fun b m => if b then .ok (.ex ⟨"BadWalk", ["BadWalk", "FadeError", "ValueError"], []⟩ [some .any, some x]) m else (evs (run Pr d) e_Walk_ini [some .any, some x] m).st [some .any, some x] fun xs m => if xs.length = 2 then .ok (.rt (.ins "Walk" ["rows", "whole"] xs)) m else .fail) := run_ini Pr d .Walk_ini (t := t_Walk_ini) rfl x m
theorem R_Walk_len (d : Nat) (x0 : D) (m : MH) : run Pr (d + 1) .Walk_len [x0] m = left (exec (run Pr d) b_Walk_len [some x0] ([] :: m)) := rfl
def top (i : Nat) : PySem.Stmt := PySem.Challenge.pw_fadewalk_k43_slips_looked_at.main.body.getD i (.Pass ⟨0, 0, 0, 0⟩)
def inC (i j : Nat) : PySem.Stmt := match top i with
  | .ClassDef _ _ _ b _ _ _ _ _ _ _ => b.getD j (.Pass ⟨0, 0, 0, 0⟩)
  | _ => .Pass ⟨0, 0, 0, 0⟩
def nmOf : Id → PySem.Str
  | .wall => "_wall"
  | .is_whole => "is_whole"
  | .is_from_to => "is_from_to"
  | .are_weights => "are_weights"
  | .are_rows => "are_rows"
  | .round_weight => "round_weight"
  | .is_slip => "is_slip"
  | .law_cell_at => "_law_cell_at"
  | .law_next => "_law_next"
  | .law_pen_of => "_law_pen_of"
  | .law_draw => "_law_draw"
  | .law_rows => "_law_rows"
  | .law_odd => "_law_odd"
  | .law_bent => "_law_bent"
  | .law_whole => "_law_whole"
  | .law_product => "_law_product"
  | .law_is_slip => "_law_is_slip"
  | .law_round => "_law_round"
  | .law_ => "law"
  | .Walk_ini => "__init__"
  | .Walk_len => "__len__"
def quOf : Id → PySem.Str
  | .wall => "_wall"
  | .is_whole => "is_whole"
  | .is_from_to => "is_from_to"
  | .are_weights => "are_weights"
  | .are_rows => "are_rows"
  | .round_weight => "round_weight"
  | .is_slip => "is_slip"
  | .law_cell_at => "_law_cell_at"
  | .law_next => "_law_next"
  | .law_pen_of => "_law_pen_of"
  | .law_draw => "_law_draw"
  | .law_rows => "_law_rows"
  | .law_odd => "_law_odd"
  | .law_bent => "_law_bent"
  | .law_whole => "_law_whole"
  | .law_product => "_law_product"
  | .law_is_slip => "_law_is_slip"
  | .law_round => "_law_round"
  | .law_ => "law"
  | .Walk_ini => "Walk.__init__"
  | .Walk_len => "Walk.__len__"
def kdOf : Id → Kd
  | .wall => .fn
  | .is_whole => .fn
  | .is_from_to => .fn
  | .are_weights => .fn
  | .are_rows => .fn
  | .round_weight => .fn
  | .is_slip => .fn
  | .law_cell_at => .fn
  | .law_next => .fn
  | .law_pen_of => .fn
  | .law_draw => .fn
  | .law_rows => .fn
  | .law_odd => .fn
  | .law_bent => .fn
  | .law_whole => .fn
  | .law_product => .fn
  | .law_is_slip => .fn
  | .law_round => .fn
  | .law_ => .fn
  | .Walk_ini => .ini "Walk"
  | .Walk_len => .meth "Walk" "__len__"
def namesOf : Id → List PySem.Str
  | .wall => ["k"]
  | .is_whole => ["thing"]
  | .is_from_to => ["thing", "low", "high"]
  | .are_weights => ["thing", "many", "one"]
  | .are_rows => ["thing", "sums", "row"]
  | .round_weight => ["walk", "places", "found", "place", "later"]
  | .is_slip => ["walk", "thing", "place"]
  | .law_cell_at => ["_law_script", "_law_k"]
  | .law_next => ["_law_seed"]
  | .law_pen_of => ["_law_cell", "_law_left"]
  | .law_draw => ["_law_pen", "_law_many", "_law_found"]
  | .law_rows => ["_law_pen", "_law_most", "_law_rows_here", "_law_x", "_law_many", "_law_whole_here", "_law_way", "_law_some", "_law_row", "_law_ball", "_law_y"]
  | .law_odd => ["_law_pen", "_law_some"]
  | .law_bent => ["_law_pen", "_law_thing", "_law_way", "_law_at"]
  | .law_whole => ["_law_thing"]
  | .law_product => ["_law_rows_here", "_law_places", "_law_found", "_law_at", "_law_place"]
  | .law_is_slip => ["_law_rows_here", "_law_thing", "_law_one"]
  | .law_round => ["_law_pen", "_law_many", "_law_turn", "_law_left", "_law_found"]
  | .law_ => ["_law_script", "_law_cell", "_law_pen", "_law_turn", "_law_rows_here", "_law_walk", "_law_some", "_law_things", "_law_thing", "_law_bent_here", "_law_kept", "_law_due", "_law_lap"]
  | .Walk_ini => ["self", "rows"]
  | .Walk_len => ["self"]
def parsOf : Id → List PySem.Str
  | .wall => ["k"]
  | .is_whole => ["thing"]
  | .is_from_to => ["thing", "low", "high"]
  | .are_weights => ["thing", "many"]
  | .are_rows => ["thing"]
  | .round_weight => ["walk", "places"]
  | .is_slip => ["walk", "thing"]
  | .law_cell_at => ["_law_script", "_law_k"]
  | .law_next => ["_law_seed"]
  | .law_pen_of => ["_law_cell"]
  | .law_draw => ["_law_pen", "_law_many"]
  | .law_rows => ["_law_pen", "_law_most"]
  | .law_odd => ["_law_pen"]
  | .law_bent => ["_law_pen", "_law_thing"]
  | .law_whole => ["_law_thing"]
  | .law_product => ["_law_rows_here", "_law_places"]
  | .law_is_slip => ["_law_rows_here", "_law_thing"]
  | .law_round => ["_law_pen", "_law_many"]
  | .law_ => ["_law_script"]
  | .Walk_ini => ["self", "rows"]
  | .Walk_len => ["self"]
def topOf : Id → PySem.Stmt
  | .wall => top 0
  | .is_whole => top 5
  | .is_from_to => top 6
  | .are_weights => top 9
  | .are_rows => top 11
  | .round_weight => top 15
  | .is_slip => top 16
  | .law_cell_at => top 18
  | .law_next => top 19
  | .law_pen_of => top 20
  | .law_draw => top 21
  | .law_rows => top 22
  | .law_odd => top 23
  | .law_bent => top 24
  | .law_whole => top 25
  | .law_product => top 26
  | .law_is_slip => top 27
  | .law_round => top 28
  | .law_ => top 29
  | .Walk_ini => inC 12 0
  | .Walk_len => inC 12 1
def prg : Prg Id := ⟨Pr, nmOf, namesOf, parsOf, fun i => ⟨kdAt (nmOf i) (kdOf i), nmOf i, quOf i, L2.defArgs (topOf i), L2.defBody (topOf i), L2.defScope (topOf i), [], []⟩, [("FadeError", ["FadeError", "ValueError"]), ("BadWalk", ["BadWalk", "FadeError", "ValueError"])], [("MOST_PLACES", 25), ("LEAST_ROUND", 3)], kdOf, [("Walk", ["rows", "whole"])]⟩
theorem cl_ok : prg.cl = clsOf PySem.Challenge.pw_fadewalk_k43_slips_looked_at := by decide +kernel
theorem prg_ok : ∀ f, prg.ok f = true := by intro f; cases f <;> decide +kernel
def fas : List He.Fa := [.glo "_wall", .glo "is_whole", .glo "is_from_to", .glo "are_weights", .glo "are_rows", .glo "round_weight", .glo "is_slip", .glo "_law_cell_at", .glo "_law_next", .glo "_law_pen_of", .glo "_law_draw", .glo "_law_rows", .glo "_law_odd", .glo "_law_bent", .glo "_law_whole", .glo "_law_product", .glo "_law_is_slip", .glo "_law_round", .glo "law", .glo "Walk", .cls "Walk", .mkr "Walk", .noat "Walk" "rows", .noat "Walk" "whole", .meth "Walk" "__init__", .meth "Walk" "__len__", .free "len", .free "abs", .free "min", .free "max", .free "repr", .free "sum", .free "all", .free "any", .free "tuple", .free "list", .free "sorted", .free "isinstance", .free "range", .free "int", .free "bool", .free "str", .free "enumerate", .free "zip", .free "ValueError", .free "set", .int "MOST_PLACES" 25, .int "LEAST_ROUND" 3]
def fns : List He.DefD := [prg.dd .wall, prg.dd .is_whole, prg.dd .is_from_to, prg.dd .are_weights, prg.dd .are_rows, prg.dd .round_weight, prg.dd .is_slip, prg.dd .law_cell_at, prg.dd .law_next, prg.dd .law_pen_of, prg.dd .law_draw, prg.dd .law_rows, prg.dd .law_odd, prg.dd .law_bent, prg.dd .law_whole, prg.dd .law_product, prg.dd .law_is_slip, prg.dd .law_round, prg.dd .law_, prg.dd .Walk_ini, prg.dd .Walk_len]
def ixOf : Id → Nat
  | .wall => 0
  | .is_whole => 1
  | .is_from_to => 2
  | .are_weights => 3
  | .are_rows => 4
  | .round_weight => 5
  | .is_slip => 6
  | .law_cell_at => 7
  | .law_next => 8
  | .law_pen_of => 9
  | .law_draw => 10
  | .law_rows => 11
  | .law_odd => 12
  | .law_bent => 13
  | .law_whole => 14
  | .law_product => 15
  | .law_is_slip => 16
  | .law_round => 17
  | .law_ => 18
  | .Walk_ini => 19
  | .Walk_len => 20
abbrev R : PySem.W.OpenRow := PySem.W.OpenLaw.row PySem.Challenge.rw_fadewalk_k43_slips_looked_at
abbrev hk : PySem.W.Hook := hookF 4 fas fns prg.cl
def ob (s : PySem.W.SharedT) : AlF := obsF 4 fas fns prg.cl (HandSHeadRun.getT s)
theorem ob_eq (s : PySem.W.SharedT) : ob s = hk.obs s.abs := obsF_eq (HandSHeadRun.getT_eq s)
theorem run_eq (w : World) : HandSHeadRun.RunEq R (PySem.W.view R.prog [29]) hk ob 4000 ["_wall", "FadeError", "BadWalk", "is_whole", "is_from_to", "MOST_PLACES", "are_weights", "are_rows", "Walk", "LEAST_ROUND", "round_weight", "is_slip", "_law_cell_at", "_law_next", "_law_pen_of", "_law_draw", "_law_rows", "_law_odd", "_law_bent", "_law_whole", "_law_product", "_law_is_slip", "_law_round"] w := by
  intro os
  kernel_rfl
theorem bind_ok {K : PySem.W.Frag} : ∀ f fd a, FunD K (prg.dd f).name (prg.dd f).qual (prg.dd f).params (prg.dd f).body (prg.dd f).scope [] [] a fd → Binds K fd (prg.ps f) []
  | .wall, fd, a, F => FunD.bindsN (ps := ["k"]) F fun _ _ _ _ _ _ us hl => match us, hl with | [_], _ => rfl
  | .is_whole, fd, a, F => FunD.bindsN (ps := ["thing"]) F fun _ _ _ _ _ _ us hl => match us, hl with | [_], _ => rfl
  | .is_from_to, fd, a, F => FunD.bindsN (ps := ["thing", "low", "high"]) F fun _ _ _ _ _ _ us hl => match us, hl with | [_, _, _], _ => rfl
  | .are_weights, fd, a, F => FunD.bindsN (ps := ["thing", "many"]) F fun _ _ _ _ _ _ us hl => match us, hl with | [_, _], _ => rfl
  | .are_rows, fd, a, F => FunD.bindsN (ps := ["thing"]) F fun _ _ _ _ _ _ us hl => match us, hl with | [_], _ => rfl
  | .round_weight, fd, a, F => FunD.bindsN (ps := ["walk", "places"]) F fun _ _ _ _ _ _ us hl => match us, hl with | [_, _], _ => rfl
  | .is_slip, fd, a, F => FunD.bindsN (ps := ["walk", "thing"]) F fun _ _ _ _ _ _ us hl => match us, hl with | [_, _], _ => rfl
  | .law_cell_at, fd, a, F => FunD.bindsN (ps := ["_law_script", "_law_k"]) F fun _ _ _ _ _ _ us hl => match us, hl with | [_, _], _ => rfl
  | .law_next, fd, a, F => FunD.bindsN (ps := ["_law_seed"]) F fun _ _ _ _ _ _ us hl => match us, hl with | [_], _ => rfl
  | .law_pen_of, fd, a, F => FunD.bindsN (ps := ["_law_cell"]) F fun _ _ _ _ _ _ us hl => match us, hl with | [_], _ => rfl
  | .law_draw, fd, a, F => FunD.bindsN (ps := ["_law_pen", "_law_many"]) F fun _ _ _ _ _ _ us hl => match us, hl with | [_, _], _ => rfl
  | .law_rows, fd, a, F => FunD.bindsN (ps := ["_law_pen", "_law_most"]) F fun _ _ _ _ _ _ us hl => match us, hl with | [_, _], _ => rfl
  | .law_odd, fd, a, F => FunD.bindsN (ps := ["_law_pen"]) F fun _ _ _ _ _ _ us hl => match us, hl with | [_], _ => rfl
  | .law_bent, fd, a, F => FunD.bindsN (ps := ["_law_pen", "_law_thing"]) F fun _ _ _ _ _ _ us hl => match us, hl with | [_, _], _ => rfl
  | .law_whole, fd, a, F => FunD.bindsN (ps := ["_law_thing"]) F fun _ _ _ _ _ _ us hl => match us, hl with | [_], _ => rfl
  | .law_product, fd, a, F => FunD.bindsN (ps := ["_law_rows_here", "_law_places"]) F fun _ _ _ _ _ _ us hl => match us, hl with | [_, _], _ => rfl
  | .law_is_slip, fd, a, F => FunD.bindsN (ps := ["_law_rows_here", "_law_thing"]) F fun _ _ _ _ _ _ us hl => match us, hl with | [_, _], _ => rfl
  | .law_round, fd, a, F => FunD.bindsN (ps := ["_law_pen", "_law_many"]) F fun _ _ _ _ _ _ us hl => match us, hl with | [_, _], _ => rfl
  | .law_, fd, a, F => FunD.bindsN (ps := ["_law_script"]) F fun _ _ _ _ _ _ us hl => match us, hl with | [_], _ => rfl
  | .Walk_ini, fd, a, F => FunD.bindsN (ps := ["self", "rows"]) F fun _ _ _ _ _ _ us hl => match us, hl with | [_, _], _ => rfl
  | .Walk_len, fd, a, F => FunD.bindsN (ps := ["self"]) F fun _ _ _ _ _ _ us hl => match us, hl with | [_], _ => rfl
theorem at_ok : ∀ f, (prg.dd f).at_ = kdAt (prg.nm f) (prg.kd f) := by intro f; cases f <;> rfl
noncomputable def laid {K : PySem.W.Frag} {h : Heap} {mg : Str → Option Value} (X : K.In h) (G : h.Ns mainGlobals mg) (c : He.SaysD fas fns K) (cx : (clsChk prg.cl K && smB K) = true) : Laid prg K mg :=
  laid_of X G c ixOf (by intro f; cases f <;> rfl) (by intro f h; cases f <;> first | (simp [fas, prg, nmOf]; done) | cases h) at_ok (by intro q hq; simp [prg] at hq; rcases hq with rfl; exact ⟨by simp [fas], by intro f hf; simp at hf; rcases hf with rfl | rfl <;> simp [fas]⟩) (by intro f c h; cases f <;> first | (cases h; exact ⟨by simp [fas], by simp [fas]⟩) | cases h) (by intro f c m h; cases f <;> first | (cases h; simp [fas]) | cases h) (by intro f; exact ⟨rfl, rfl⟩) (by intro x hx; simp only [freeNames, List.mem_cons, List.not_mem_nil, or_false] at hx; rcases hx with rfl | rfl | rfl | rfl | rfl | rfl | rfl | rfl | rfl | rfl | rfl | rfl | rfl | rfl | rfl | rfl | rfl | rfl | rfl | rfl <;> simp [fas]) (by intro q hq; simp [prg] at hq; rcases hq with rfl | rfl <;> simp [fas]) cx bind_ok
end Law

set_option Elab.async false
set_option linter.all false
set_option maxRecDepth 100000
set_option maxHeartbeats 2000000
set_option autoImplicit false
namespace Law
open PySem Fw
/-! ## weights of rounds -/
def wt (R : List (List Int)) (a b : Nat) : Int := gI (gR R a) b
def stp (R : List (List Int)) (ks : List Nat) (i : Nat) : Int := wt R (ks.getD i 0) (ks.getD ((i + 1) % ks.length) 0)
def prW (R : List (List Int)) (ks : List Nat) : Nat → Int
  | 0 => 1
  | k + 1 => prW R ks k * stp R ks k
theorem wt_bd {n : Nat} {w : Int} {R : List (List Int)} (hR : Rws n w R) (hw : w ≤ 12) {a : Nat} (ha : a < n) (b : Nat) : 0 ≤ wt R a b ∧ wt R a b ≤ 12 := by
  have hm : gR R a ∈ R := gR_mem (by rw [hR.len]; exact ha)
  have := gI_le (hR.nn _ hm) b
  rw [hR.sum _ hm] at this
  exact ⟨this.1, by unfold wt; omega⟩
theorem getD_mem {ks : List Nat} {i : Nat} (h : i < ks.length) : ks.getD i 0 ∈ ks := by
  rw [List.getD_eq_getElem?_getD, List.getElem?_eq_getElem h]
  exact List.getElem_mem h
theorem prW_bd {n : Nat} {w : Int} {R : List (List Int)} (hR : Rws n w R) (hw : w ≤ 12) {ks : List Nat} (hk : ∀ k ∈ ks, k < n) : ∀ i, i ≤ ks.length → (prW R ks i).natAbs < 2 ^ (4 * i + 1)
  | 0, _ => by simp [prW]
  | i + 1, h => by
    have ih := prW_bd hR hw hk i (by omega)
    have hb := wt_bd hR hw (hk _ (getD_mem (show i < ks.length by omega))) (ks.getD ((i + 1) % ks.length) 0)
    have hs : (stp R ks i).natAbs ≤ 16 := by unfold stp; omega
    rw [prW, Int.natAbs_mul]
    have h1 := Nat.mul_le_mul_left (prW R ks i).natAbs hs
    rw [show 4 * (i + 1) + 1 = (4 * i + 1) + 4 from by omega, Nat.pow_add]
    omega
theorem mul_prW {n : Nat} {w : Int} {R : List (List Int)} (hR : Rws n w R) (hw : w ≤ 12) {ks : List Nat} (hk : ∀ k ∈ ks, k < n) (hl : ks.length ≤ 900) {i : Nat} (hi : i < ks.length) (m : MH) : arith .mul (.int (prW R ks i)) (.int (stp R ks i)) m = .ok (.int (prW R ks (i + 1))) m := by
  have h1 := log2_lt (prW_bd hR hw hk i (by omega)) (by omega)
  have hb := wt_bd hR hw (hk _ (getD_mem hi)) (ks.getD ((i + 1) % ks.length) 0)
  have h2 := log2_lt (n := (stp R ks i).natAbs) (k := 5) (by unfold stp; omega) (by omega)
  exact mul_int (by omega)
theorem rT_at {R : List (List Int)} {k : Nat} (h : k < R.length) (m : MH) : getAt m (rT R) (.int (k : Nat)) = some (.tup (iL (gR R k))) := by
  rw [at_rT h, gR_get h]
theorem row_at {r : List Int} {k : Nat} (h : k < r.length) (m : MH) : getAt m (.tup (iL r)) (.int (k : Nat)) = some (.int (gI r k)) := by
  rw [at_row h, gI_get h]
theorem plc_at {ks : List Nat} {i : Nat} (h : i < ks.length) (m : MH) : getAt m (plcD ks) (.int (i : Nat)) = some (.int ((ks.getD i 0 : Nat) : Int)) := by
  have hk : i < (ks.map fun p => D.int (p : Nat)).length := by simpa using h
  simp only [plcD, getAt, seqOf, Option.bind_some, place_nat hk]
  rw [List.getElem?_eq_getElem hk]
  simp [List.getD_eq_getElem?_getD, h]
theorem rot_zip (ks : List Nat) : ((ks.map fun p => D.int (p : Nat)).zip ((ks.map fun p => D.int (p : Nat)).drop 1 ++ (ks.map fun p => D.int (p : Nat)).take 1)).map (fun p => D.tup [p.1, p.2]) = (List.range ks.length).map fun i => .tup [.int ((ks.getD i 0 : Nat) : Int), .int ((ks.getD ((i + 1) % ks.length) 0 : Nat) : Int)] := by
  cases ks with
  | nil => rfl
  | cons x t =>
    refine List.ext_getElem (by simp) fun i h1 h2 => ?_
    have hi : i < t.length + 1 := by simpa using h2
    simp only [List.getElem_map, List.getElem_zip, List.getElem_range]
    congr 2
    · simp [List.getD_eq_getElem?_getD, hi]
    · congr 1
      simp only [List.map_cons, List.drop_succ_cons, List.drop_zero, List.take_succ_cons, List.take_zero, List.length_cons]
      by_cases hlt : i < t.length
      · rw [List.getElem_append_left (by simpa using hlt), Nat.mod_eq_of_lt (by omega)]
        simp [List.getD_eq_getElem?_getD, hlt]
      · have : i = t.length := by omega
        subst this
        rw [List.getElem_append_right (by simp)]
        simp
theorem q_round {n : Nat} {w w' : Int} {R : List (List Int)} (hR : Rws n w R) (hw : w ≤ 12) {ks : List Nat} (hk : ∀ k ∈ ks, k < n) (hl : ks.length ≤ 900) (d : Nat) (m : MH) : run Pr (d + 1) .round_weight [wlk R w', plcD ks] m = .ok (.int (prW R ks ks.length)) m := by
  rw [R_round_weight]
  have eb' : b_round_weight = .cons (.asg (.name 2) (.lit (.int 1))) (.cons (.for_ (.tup 2 (.cons (.name 3) (.cons (.name 4) .nil))) (.zip (.var 1) (.bin .add (.sl (.var 1) (.lit (.int 1)) .nil) (.sl (.var 1) .nil (.lit (.int 1))))) (.cons (.asg (.name 2) (.bin .mul (.var 2) (.idx (.idx (.fld "Walk" (.var 0) "rows") (.var 3)) (.var 4)))) .nil)) (.cons (.ret (.var 2)) .nil)) := rfl
  have c1 : cut (ks.map fun p => D.int (p : Nat)) (some 1) none = (ks.map fun p => D.int (p : Nat)).drop 1 := by rw [cut_one, List.drop_one]
  have c2 : cut (ks.map fun p => D.int (p : Nat)) none (some 1) = (ks.map fun p => D.int (p : Nat)).take 1 := by
    cases ks with
    | nil => rfl
    | cons x t => exact cut_to (k := 1) (by simp)
  have ca := fun m => tup_cat (m := m) (xs := (ks.map fun p => D.int (p : Nat)).drop 1) (ys := (ks.map fun p => D.int (p : Nat)).take 1) (by simp; omega)
  have sl1 : ∀ m, slD m (plcD ks) (some 1) none = some (.tup ((ks.map fun p => D.int (p : Nat)).drop 1)) := fun m => by rw [← c1]; rfl
  have sl2 : ∀ m, slD m (plcD ks) none (some 1) = some (.tup ((ks.map fun p => D.int (p : Nat)).take 1)) := fun m => by rw [← c2]; rfl
  have z : zipD (plcD ks) (.tup ((ks.map fun p => D.int (p : Nat)).drop 1 ++ (ks.map fun p => D.int (p : Nat)).take 1)) = some ((List.range ks.length).map fun i => .tup [.int ((ks.getD i 0 : Nat) : Int), .int ((ks.getD ((i + 1) % ks.length) 0 : Nat) : Int)]) := by
    rw [← rot_zip]; rfl
  obtain ⟨v2, m2, e, ⟨y3, y4, rfl⟩, rfl⟩ := loop_R (call := run Pr d) (t := .tup 2 (.cons (.name 3) (.cons (.name 4) .nil))) (b := (.cons (.asg (.name 2) (.bin .mul (.var 2) (.idx (.idx (.fld "Walk" (.var 0) "rows") (.var 3)) (.var 4)))) .nil)) (f := fun i => .tup [.int ((ks.getD i 0 : Nat) : Int), .int ((ks.getD ((i + 1) % ks.length) 0 : Nat) : Int)]) (n := ks.length)
    (P := fun k v M => (∃ y3 y4, v = [some (wlk R w'), some (plcD ks), some (.int (prW R ks k)), y3, y4]) ∧ M = [] :: m)
    (fun k v M hi hP => by
      obtain ⟨⟨y3, y4, rfl⟩, rfl⟩ := hP
      have h1 := hk _ (getD_mem hi)
      have h2 := hk _ (getD_mem (ks := ks) (i := (k + 1) % ks.length) (Nat.mod_lt _ (by omega)))
      have a1 := fun m => rT_at (R := R) (k := ks.getD k 0) (by rw [hR.len]; exact h1) m
      have a2 := fun m => row_at (r := gR R (ks.getD k 0)) (k := ks.getD ((k + 1) % ks.length) 0) (by rw [hR.row _ (gR_mem (by rw [hR.len]; exact h1))]; exact h2) m
      have a3 := fun m => mul_prW hR hw hk hl hi m
      simp only [stp, wt] at a3
      refine ⟨_, rfl, [some (wlk R w'), some (plcD ks), some (.int (prW R ks (k + 1))), some (.int ((ks.getD k 0 : Nat) : Int)), some (.int ((ks.getD ((k + 1) % ks.length) 0 : Nat) : Int))], [] :: m, ?_, ⟨_, _, rfl⟩, rfl⟩
      simp only [x_cons, x_asg, x_nil, e_bin, e_idx, e_fld, e_var, at_succ, at_zero, Res.of_some, Res.bind_ok, List.set_cons_succ, List.set_cons_zero, fld_rows, a1, a2, a3, Res.st_ok, g_name, Res.tg_ok, Res.then_nx, List.length_cons, List.length_nil, Nat.reduceAdd, Nat.reduceLT, if_true]) (v := [some (wlk R w'), some (plcD ks), some (.int 1), none, none]) (m := [] :: m) ⟨⟨none, none, rfl⟩, rfl⟩
  rw [eb']
  simp only [x_cons, x_asg, x_for, x_ret, e_lit, lit_int, Res.st_ok, g_name, Res.tg_ok, Res.then_nx, List.length_cons, List.length_nil, Nat.reduceAdd, Nat.reduceLT, if_true, List.set_cons_succ, List.set_cons_zero, w_zip, e_bin, e_sl, o_nil, o_lit, e_var, at_succ, at_zero, Res.of_some, Res.bind_ok, sl1, sl2, ca, z, Option.map_some, e, Res.then_rt]
  rfl
theorem plc_enum (ks : List Nat) : enumD (plcD ks) = some ((List.range ks.length).map fun i => .tup [.int ((i : Nat) : Int), .int ((ks.getD i 0 : Nat) : Int)]) := by
  simp only [enumD, plcD, seqC, Option.map_some]
  congr 1
  refine List.ext_getElem (by simp) fun i h1 h2 => ?_
  have hi : i < ks.length := by simpa using h2
  simp [List.getD_eq_getElem?_getD, hi]
theorem plc_len (ks : List Nat) (m : MH) : built .len [plcD ks] m = some (.int ((ks.length : Nat) : Int)) := by
  simp [built, lenD, seqOf, plcD]
theorem q_product {n : Nat} {w : Int} {R : List (List Int)} (hR : Rws n w R) (hw : w ≤ 12) {ks : List Nat} (hk : ∀ k ∈ ks, k < n) (hl : ks.length ≤ 900) (d : Nat) (m : MH) : run Pr (d + 1) .law_product [rT R, plcD ks] m = .ok (.int (prW R ks ks.length)) m := by
  rw [R_law_product]
  have eb' : b_law_product = (.cons (.asg (.name 2) (.lit (.int 1))) (.cons (.for_ (.tup 2 (.cons (.name 3) (.cons (.name 4) .nil))) (.enum (.var 1)) (.cons (.asg (.name 2) (.bin .mul (.var 2) (.idx (.idx (.var 0) (.var 4)) (.idx (.var 1) (.bin .mod (.bin .add (.var 3) (.lit (.int 1))) (.bi .len (.cons (.var 1) .nil))))))) .nil)) (.cons (.ret (.var 2)) .nil))) := rfl
  obtain ⟨v2, m2, e, ⟨y3, y4, rfl⟩, rfl⟩ := loop_R (call := run Pr d) (t := .tup 2 (.cons (.name 3) (.cons (.name 4) .nil))) (b := (.cons (.asg (.name 2) (.bin .mul (.var 2) (.idx (.idx (.var 0) (.var 4)) (.idx (.var 1) (.bin .mod (.bin .add (.var 3) (.lit (.int 1))) (.bi .len (.cons (.var 1) .nil))))))) .nil)) (f := fun i => .tup [.int ((i : Nat) : Int), .int ((ks.getD i 0 : Nat) : Int)]) (n := ks.length)
    (P := fun k v M => (∃ y3 y4, v = [some (rT R), some (plcD ks), some (.int (prW R ks k)), y3, y4]) ∧ M = [] :: m)
    (fun k v M hi hP => by
      obtain ⟨⟨y3, y4, rfl⟩, rfl⟩ := hP
      have h1 := hk _ (getD_mem hi)
      have hm : (k + 1) % ks.length < ks.length := Nat.mod_lt _ (by omega)
      have h2 := hk _ (getD_mem hm)
      have a1 := fun m => rT_at (R := R) (k := ks.getD k 0) (by rw [hR.len]; exact h1) m
      have a2 := fun m => row_at (r := gR R (ks.getD k 0)) (k := ks.getD ((k + 1) % ks.length) 0) (by rw [hR.row _ (gR_mem (by rw [hR.len]; exact h1))]; exact h2) m
      have a3 := fun m => mul_prW hR hw hk hl hi m
      simp only [stp, wt] at a3
      have a4 := fun m => plc_at hm m
      have a5 : ∀ m : MH, arith .mod (.int ((k : Int) + 1)) (.int ((ks.length : Nat) : Int)) m = .ok (.int (((k + 1) % ks.length : Nat) : Int)) m := fun m => by
        rw [mod_int (by omega)]
        congr 2
      refine ⟨_, rfl, [some (rT R), some (plcD ks), some (.int (prW R ks (k + 1))), some (.int ((k : Nat) : Int)), some (.int ((ks.getD k 0 : Nat) : Int))], [] :: m, ?_, ⟨_, _, rfl⟩, rfl⟩
      simp only [x_cons, x_asg, x_nil, e_bin, e_idx, e_bi, l_cons, l_nil, e_var, e_lit, lit_int, at_succ, at_zero, Res.of_some, Res.bind_ok, List.set_cons_succ, List.set_cons_zero, add_int, plc_len, a5, a4, a1, a2, a3, Res.st_ok, g_name, Res.tg_ok, Res.then_nx, List.length_cons, List.length_nil, Nat.reduceAdd, Nat.reduceLT, if_true]) (v := [some (rT R), some (plcD ks), some (.int 1), none, none]) (m := [] :: m) ⟨⟨none, none, rfl⟩, rfl⟩
  rw [eb']
  simp only [x_cons, x_asg, x_for, x_ret, e_lit, lit_int, Res.st_ok, g_name, Res.tg_ok, Res.then_nx, List.length_cons, List.length_nil, Nat.reduceAdd, Nat.reduceLT, if_true, List.set_cons_succ, List.set_cons_zero, w_enum, e_var, at_succ, at_zero, Res.of_some, Res.bind_ok, plc_enum, Option.map_some, e, Res.then_rt]
  rfl
end Law

set_option Elab.async false
set_option linter.all false
set_option maxRecDepth 100000
set_option maxHeartbeats 2000000
set_option autoImplicit false
namespace Law
open PySem Fw
/-! ## looked at: slips -/
def inR (n : Nat) : D → Bool
  | .int k => decide (0 ≤ k) && decide (k < n)
  | _ => false
theorem q_from_to {n : Nat} {x : D} (hx : pl x = true) (d : Nat) (m : MH) : run Pr (d + 2) .is_from_to [x, .int 0, .int ((n : Int) - 1)] m = .ok (.bl (inR n x)) m := by
  have hw := whole_k (P := Pr) (f := .is_whole) rfl d hx ([] :: m)
  rw [R_is_from_to]
  cases e : isInt x with
  | false =>
    have : inR n x = false := by cases x <;> first | rfl | cases e
    rw [this]
    rw [e] at hw
    simp [b_is_from_to, hw, left, leave, D.bd]
  | true =>
    obtain ⟨i, rfl⟩ := isInt_eq e
    rw [e] at hw
    have e1 : decide (i ≤ (n : Int) - 1) = decide (i < (n : Int)) := by
      by_cases h : i < (n : Int)
      · rw [decide_eq_true h, decide_eq_true (by omega)]
      · rw [decide_eq_false h, decide_eq_false (by omega)]
    by_cases h0 : (0 : Int) ≤ i
    · simp [b_is_from_to, hw, left, leave, D.bd, inR, h0, e1]
    · simp [b_is_from_to, hw, left, leave, D.bd, inR, h0]
theorem own_cond {n : Nat} {w : Int} {R : List (List Int)} (hl : R.length = n) {x : D} (hx : pl x = true) (d : Nat) (m : MH) {v : Fw.Env} (h0 : v.at_ 0 = some (rT R)) (h2 : v.at_ 2 = some x) : (sem (run Pr (d + 1)) (.or (.not (.call .law_whole (.cons (.var 2) .nil))) (.not (.chain .le .lt (.lit (.int 0)) (.var 2) (.bi .len (.cons (.var 0) .nil)))))).t v m = .ok (!inR n x) m := by
  have hw := whole_k (P := Pr) (f := .law_whole) rfl d hx m
  have ln := len_rT R m
  rw [hl] at ln
  cases e : isInt x with
  | false =>
    have : inR n x = false := by cases x <;> first | rfl | cases e
    rw [this]
    rw [e] at hw
    simp [hw, h2]
  | true =>
    obtain ⟨i, rfl⟩ := isInt_eq e
    rw [e] at hw
    by_cases hh : (0 : Int) ≤ i
    · simp [hw, h2, h0, ln, inR, hh]
    · simp [hw, h2, h0, ln, inR, hh]
theorem eqD_intsL {m : MH} (ns ms : List Int) : eqD m (.lst (iL ns)) (.lst (iL ms)) = some (decide (ns = ms)) := by
  have sh : ∀ ns : List Int, SeqAt.shaped (.list (ns.map PyData.int)) = true := fun ns => by
    simp only [SeqAt.shaped, PyData.canLay0, PyData.depth, (lay_iL ns).1, (lay_iL ns).2]
    rfl
  rw [eqD_lst (a := .list (ns.map .int)) (b := .list (ms.map .int)) (by simp only [pd, pd_iL, Option.map_some]) (by simp only [pd, pd_iL, Option.map_some]) (sh ns) (sh ms)]
  simp only [PyData.eqv, eqv_iL]
theorem ones_ne {m : MH} (xs : List Nat) : compare m .ne (.lst (xs.map fun _ => .int 1)) (.lst []) = some (!xs.isEmpty) := by
  have e : (xs.map fun _ => D.int 1) = iL (List.replicate xs.length 1) := by
    induction xs with
    | nil => rfl
    | cons x xs ih => simp only [List.map_cons, ih, List.length_cons, List.replicate_succ, iL]
  have := eqD_intsL (m := m) (List.replicate xs.length 1) []
  rw [cmp_ne, e]
  show (eqD m (.lst (iL (List.replicate xs.length 1))) (.lst (iL []))).map (!·) = _
  rw [this]
  cases xs <;> simp
theorem setLen_iL {ks : List Int} (h : ks.length ≤ 1000) : setLenD (.tup (iL ks)) = some (.int (dcnt ks : Nat)) := by
  show (intsOf (iL ks)).bind _ = _
  rw [ints_of, Option.bind_some, if_pos h]
theorem pl_mem : ∀ {xs : List D}, plL xs = true → ∀ y ∈ xs, pl y = true
  | [], _, y, hy => by cases hy
  | z :: zs, h, y, hy => by
    simp only [plL, Bool.and_eq_true] at h
    rcases List.mem_cons.mp hy with rfl | hy
    · exact h.1
    · exact pl_mem h.2 y hy
theorem ints_in {n : Nat} : ∀ {xs : List D}, xs.all (inR n) = true → ∃ ks : List Nat, xs = ks.map (fun p => D.int (p : Nat)) ∧ ∀ k ∈ ks, k < n
  | [], _ => ⟨[], rfl, by simp⟩
  | x :: xs, h => by
    simp only [List.all_cons, Bool.and_eq_true] at h
    obtain ⟨ks, rfl, hk⟩ := ints_in h.2
    cases x with
    | int i =>
      simp only [inR, Bool.and_eq_true, decide_eq_true_eq] at h
      refine ⟨i.toNat :: ks, ?_, ?_⟩
      · simp only [List.map_cons]
        congr 2
        omega
      · intro k hk'
        rcases List.mem_cons.mp hk' with rfl | hk'
        · omega
        · exact hk k hk'
    | _ => simp [inR] at h
def castL (ks : List Nat) : List Int := ks.map fun k : Nat => (k : Int)
theorem plc_iL (ks : List Nat) : plcD ks = .tup (iL (castL ks)) := by
  simp only [plcD, castL, iL, List.map_map]
  rfl
theorem plc_rev (ks : List Nat) (m : MH) : revD m (plcD ks) = some (plcD ks.reverse) := by
  show some (D.tup (ks.map fun p => D.int (p : Nat)).reverse) = _
  rw [← List.map_reverse]
  rfl
end Law

set_option Elab.async false
set_option linter.all false
set_option maxRecDepth 100000
set_option maxHeartbeats 2000000
set_option autoImplicit false
namespace Law
open PySem Fw
section
variable {n : Nat} {w w' : Int} {R : List (List Int)}
theorem real_one (y : D) (xs : List D) (call : Id → List D → MH → Res D) (m : MH) (lw : (sem call (.lenI "Walk" .Walk_len (.var 0))).e [some (wlk R w'), some (.tup xs), some y] ([] :: m) = .ok (.int (n : Nat)) ([] :: m)) (b : Bool) (q : call .is_from_to [y, .int 0, .int ((n : Int) - 1)] ([] :: m) = .ok (.bl b) ([] :: m)) : (sem call (.call .is_from_to (.cons (.var 2) (.cons (.lit (.int 0)) (.cons (.bin .sub (.lenI "Walk" .Walk_len (.var 0)) (.lit (.int 1))) .nil))))).e [some (wlk R w'), some (.tup xs), some y] ([] :: m) = .ok (.bl b) ([] :: m) := by
    simp only [e_call, l_cons, l_nil, e_var, e_lit, lit_int, e_bin, lw, at_succ, at_zero, Res.of_some, Res.bind_ok, sub_int, q]
theorem real_all (hR : Rws n w R) (hn : n ≤ 25) {xs : List D} (hp : plL xs = true) (hl : xs.length ≤ 900) (d : Nat) (m : MH) :
    (sem (run Pr (d + 2)) (.lc false [("place", 2)] (.name 2) (.var 1) .nil (.call .is_from_to (.cons (.var 2) (.cons (.lit (.int 0)) (.cons (.bin .sub (.lenI "Walk" .Walk_len (.var 0)) (.lit (.int 1))) .nil)))))).e [some (wlk R w'), some (.tup xs), none] ([] :: m) = .ok (.lst (xs.map fun x => .bl (inR n x))) ([] :: m) := by
  have lw := fun (v : Fw.Env) (h : v.at_ 0 = some (wlk R w')) => len_w (call := run Pr (d + 2)) (a := .var 0) (v := v) (m := [] :: m) (n := n) (w := w') (R := R) (f := .Walk_len) (by omega) (by rw [e_var, h]; rfl) (run_lenW rfl (d + 1) hR.len ([] :: m))
  exact e_map (call := run Pr (d + 2)) (v := [some (wlk R w'), some (.tup xs), none]) (m := [] :: m) (own := [("place", 2)]) (t := .name 2) (it := .var 1) (c := .call .is_from_to (.cons (.var 2) (.cons (.lit (.int 0)) (.cons (.bin .sub (.lenI "Walk" .Walk_len (.var 0)) (.lit (.int 1))) .nil)))) (xs := xs) (fun x => .bl (inR n x)) (by omega) rfl (fun y hy => by
    refine ⟨[some (wlk R w'), some (.tup xs), some y], rfl, ?_⟩
    have q := q_from_to (n := n) (pl_mem hp y hy) d ([] :: m)
    exact real_one y xs (run Pr (d + 2)) m (lw [some (wlk R w'), some (.tup xs), some y] rfl) (inR n y) q)
theorem slip_real (hR : Rws n w R) (hn : n ≤ 25) (hw : w ≤ 12) {xs : List D} (hp : plL xs = true) (hl : xs.length ≤ 900) (d : Nat) (m : MH) (b1 : Bool) (e1 : b1 = decide (xs.length < 3)) (ks : List Nat) (hks : xs.all (inR n) = true → xs = (ks.map fun p => D.int (p : Nat)) ∧ ∀ k ∈ ks, k < n) :
    run Pr (d + 3) .is_slip [wlk R w', .tup xs] m = .ok (.bl (!b1 && (xs.all (inR n) && (decide (dcnt (castL ks) = ks.length) && decide (prW R ks ks.length ≠ prW R ks.reverse ks.length))))) m := by
  rw [R_is_slip]
  have eb : b_is_slip = .cons (nth b_is_slip 0) (.cons (nth b_is_slip 1) (.cons (nth b_is_slip 2) .nil)) := rfl
  have ty : ∀ m, isTy m .tuple (.tup xs) = true := fun _ => rfl
  have kn : ∀ m, tyKnown m (.tup xs) = true := fun _ => rfl
  have ln : ∀ m, built .len [.tup xs] m = some (.int ((xs.length : Nat) : Int)) := fun _ => rfl
  have hc := real_all (w' := w') hR hn hp hl d m
  have ha := all_e hc
  rw [eb]
  simp only [x_cons]
  by_cases h3 : xs.length < 3
  · have e2 : decide (((xs.length : Nat) : Int) < 3) = true := decide_eq_true (by omega)
    have s0 : exec (run Pr (d + 2)) (nth b_is_slip 0) [some (wlk R w'), some (.tup xs), none] ([] :: m) = .ok (.rt (.bl false)) ([] :: m) := by
      simp only [nth, b_is_slip, x_ifs, t_or, t_not, t_isi, e_var, at_succ, at_zero, Res.of_some, Res.bind_ok, kn, ty, if_true, Bool.not_true, Bool.false_eq_true, if_false, t_cmp, e_bi, l_cons, l_nil, ln, e_glob, lt_int, e2, Res.st_ok, x_cons, x_ret, e_lit, lit_bl, Res.then_rt]
    rw [s0, e1, decide_eq_true h3]
    rfl
  have e2 : decide (((xs.length : Nat) : Int) < 3) = false := decide_eq_false (by omega)
  have s0 : exec (run Pr (d + 2)) (nth b_is_slip 0) [some (wlk R w'), some (.tup xs), none] ([] :: m) = .ok (.nx [some (wlk R w'), some (.tup xs), none]) ([] :: m) := by
    simp only [nth, b_is_slip, x_ifs, t_or, t_not, t_isi, e_var, at_succ, at_zero, Res.of_some, Res.bind_ok, kn, ty, if_true, Bool.not_true, Bool.false_eq_true, if_false, t_cmp, e_bi, l_cons, l_nil, ln, e_glob, lt_int, e2, Res.st_ok, x_nil]
  rw [s0, Res.then_nx, e1, decide_eq_false h3, Bool.not_false, Bool.true_and]
  have eb1 : nth b_is_slip 1 = .ifs (.or (.not (.bi .all (.cons (.lc false [("place", 2)] (.name 2) (.var 1) .nil (.call .is_from_to (.cons (.var 2) (.cons (.lit (.int 0)) (.cons (.bin .sub (.lenI "Walk" .Walk_len (.var 0)) (.lit (.int 1))) .nil))))) .nil))) (.cmp .ne (.setLen (.var 1)) (.bi .len (.cons (.var 1) .nil)))) (.cons (.ret (.lit (.bl false))) .nil) .nil := rfl
  cases hal : xs.all (inR n) with
  | false =>
    rw [hal] at ha
    have s1 : exec (run Pr (d + 2)) (nth b_is_slip 1) [some (wlk R w'), some (.tup xs), none] ([] :: m) = .ok (.rt (.bl false)) ([] :: m) := by
      rw [eb1, x_ifs, t_or, t_not, t_biE ha]
      rfl
    rw [s1]
    rfl
  | true =>
    obtain ⟨rfl, hk⟩ := hks hal
    rw [hal] at ha
    have hl' : ks.length ≤ 900 := by simpa using hl
    have sl : setLenD (plcD ks) = some (.int ((dcnt (castL ks) : Nat) : Int)) := by
      rw [plc_iL]; exact setLen_iL (by simp [castL]; omega)
    have c1 : ∀ m, compare m .ne (.int ((dcnt (castL ks) : Nat) : Int)) (.int ((ks.length : Nat) : Int)) = some (!decide (dcnt (castL ks) = ks.length)) := fun m => by
      rw [cmp_ne, eqD_int]
      by_cases h : dcnt (castL ks) = ks.length
      · rw [decide_eq_true h, decide_eq_true (by omega)]; rfl
      · rw [decide_eq_false h, decide_eq_false (by omega)]; rfl
    have s1 : exec (run Pr (d + 2)) (nth b_is_slip 1) [some (wlk R w'), some (plcD ks), none] ([] :: m) = if decide (dcnt (castL ks) = ks.length) then .ok (.nx [some (wlk R w'), some (plcD ks), none]) ([] :: m) else .ok (.rt (.bl false)) ([] :: m) := by
      rw [show (D.tup (ks.map fun p => D.int (p : Nat))) = plcD ks from rfl] at ha
      rw [eb1, x_ifs, t_or, t_not, t_biE ha]
      simp only [Res.bind_ok, Bool.not_true, Bool.false_eq_true, if_false, t_cmp, e_setLen, e_var, at_succ, at_zero, Res.of_some, sl, e_bi, l_cons, l_nil, plc_len, c1, Res.st_ok]
      cases decide (dcnt (castL ks) = ks.length) <;> rfl
    show left ((exec (run Pr (d + 2)) (nth b_is_slip 1) [some (wlk R w'), some (plcD ks), none] ([] :: m)).then_ _) = _
    rw [s1]
    cases hd : decide (dcnt (castL ks) = ks.length) with
    | false => rfl
    | true =>
      have r1 := fun m => q_round (w' := w') hR hw hk hl' (d + 1) m
      have r2 := fun m => q_round (w' := w') hR hw (ks := ks.reverse) (fun k h => hk k (List.mem_reverse.mp h)) (by simpa using hl') (d + 1) m
      rw [List.length_reverse] at r2
      simp only [if_true, Res.then_nx, nth, b_is_slip, x_ret, e_cmp, e_call, e_rev, l_cons, l_nil, e_var, at_succ, at_zero, Res.of_some, Res.bind_ok, plc_rev, r1, r2, cmp_ne, eqD_int, Option.map_some, Res.st_ok, Res.then_rt, left, leave, D.bd, Bool.true_and]
      congr 2
      simp
end
end Law

set_option Elab.async false
set_option linter.all false
set_option maxRecDepth 100000
set_option maxHeartbeats 2000000
set_option autoImplicit false
namespace Law
open PySem Fw
section
variable {n : Nat} {w w' : Int} {R : List (List Int)}
theorem slip_own (hR : Rws n w R) (hn : n ≤ 25) (hw : w ≤ 12) {xs : List D} (hp : plL xs = true) (hl : xs.length ≤ 900) (d : Nat) (m : MH) (b1 : Bool) (e1 : b1 = decide (xs.length < 3)) (ks : List Nat) (hks : xs.all (inR n) = true → xs = (ks.map fun p => D.int (p : Nat)) ∧ ∀ k ∈ ks, k < n) :
    run Pr (d + 3) .law_is_slip [rT R, .tup xs] m = .ok (.bl (!b1 && (xs.all (inR n) && (decide (dcnt (castL ks) = ks.length) && decide (prW R ks ks.length ≠ prW R ks.reverse ks.length))))) m := by
  rw [R_law_is_slip]
  have eb : b_law_is_slip = .cons (nth b_law_is_slip 0) (.cons (nth b_law_is_slip 1) (.cons (nth b_law_is_slip 2) .nil)) := rfl
  have ty : ∀ m, isTy m .tuple (.tup xs) = true := fun _ => rfl
  have kn : ∀ m, tyKnown m (.tup xs) = true := fun _ => rfl
  have ln : ∀ m, built .len [.tup xs] m = some (.int ((xs.length : Nat) : Int)) := fun _ => rfl
  have hxs : xs = (List.range xs.length).map fun i => xs.getD i .non := by
    refine List.ext_getElem (by simp) fun i h1 h2 => ?_
    simp [List.getD_eq_getElem?_getD, h1]
  have hc := e_RF (call := run Pr (d + 2)) (v := [some (rT R), some (.tup xs), none]) (m := [] :: m) (own := [("_law_one", 2)]) (t := .name 2) (it := .var 1) (c := .or (.not (.call .law_whole (.cons (.var 2) .nil))) (.not (.chain .le .lt (.lit (.int 0)) (.var 2) (.bi .len (.cons (.var 0) .nil))))) (e := .lit (.int 1)) (n := xs.length) (fun i => xs.getD i .non) (fun i => !inR n (xs.getD i .non)) (fun _ => .int 1) (fun i => [some (rT R), some (.tup xs), some (xs.getD i .non)]) rfl (by omega) (by
      rw [← hxs]; rfl) (fun i hi => ⟨rfl, own_cond (w := w) hR.len (pl_mem hp _ (by
        rw [List.getD_eq_getElem?_getD, List.getElem?_eq_getElem hi]
        exact List.getElem_mem hi)) (d + 1) ([] :: m) rfl rfl, fun _ => rfl⟩)
  have hem : ((List.range xs.length).filter fun i => !inR n (xs.getD i .non)).isEmpty = xs.all (inR n) := by
    rw [Bool.eq_iff_iff, List.isEmpty_iff, List.filter_eq_nil_iff, List.all_eq_true]
    constructor
    · intro h x hx
      obtain ⟨i, hi, rfl⟩ := List.getElem_of_mem hx
      have := h i (List.mem_range.mpr hi)
      simpa [List.getD_eq_getElem?_getD, hi] using this
    · intro h i hi
      have hi' := List.mem_range.mp hi
      have := h _ (List.getElem_mem hi')
      simp [List.getD_eq_getElem?_getD, hi', this]
  have on := fun m => ones_ne (m := m) ((List.range xs.length).filter fun i => !inR n (xs.getD i .non))
  rw [hem] at on
  rw [eb]
  simp only [x_cons]
  by_cases h3 : xs.length < 3
  · have e2 : decide (((xs.length : Nat) : Int) < 3) = true := decide_eq_true (by omega)
    have s0 : exec (run Pr (d + 2)) (nth b_law_is_slip 0) [some (rT R), some (.tup xs), none] ([] :: m) = .ok (.rt (.bl false)) ([] :: m) := by
      simp only [nth, b_law_is_slip, x_ifs, t_or, t_not, t_isi, e_var, at_succ, at_zero, Res.of_some, Res.bind_ok, kn, ty, if_true, Bool.not_true, Bool.false_eq_true, if_false, t_cmp, e_bi, l_cons, l_nil, ln, e_lit, lit_int, lt_int, e2, Res.st_ok, x_cons, x_ret, lit_bl, Res.then_rt]
    rw [s0, e1, decide_eq_true h3]
    rfl
  have e2 : decide (((xs.length : Nat) : Int) < 3) = false := decide_eq_false (by omega)
  have s0 : exec (run Pr (d + 2)) (nth b_law_is_slip 0) [some (rT R), some (.tup xs), none] ([] :: m) = .ok (.nx [some (rT R), some (.tup xs), none]) ([] :: m) := by
    simp only [nth, b_law_is_slip, x_ifs, t_or, t_not, t_isi, e_var, at_succ, at_zero, Res.of_some, Res.bind_ok, kn, ty, if_true, Bool.not_true, Bool.false_eq_true, if_false, t_cmp, e_bi, l_cons, l_nil, ln, e_lit, lit_int, lt_int, e2, Res.st_ok, x_nil]
  rw [s0, Res.then_nx, e1, decide_eq_false h3, Bool.not_false, Bool.true_and]
  have eb1 : nth b_law_is_slip 1 = .ifs (.or (.cmp .ne (.lc false [("_law_one", 2)] (.name 2) (.var 1) (.or (.not (.call .law_whole (.cons (.var 2) .nil))) (.not (.chain .le .lt (.lit (.int 0)) (.var 2) (.bi .len (.cons (.var 0) .nil))))) (.lit (.int 1))) (.lst .nil)) (.cmp .ne (.setLen (.var 1)) (.bi .len (.cons (.var 1) .nil)))) (.cons (.ret (.lit (.bl false))) .nil) .nil := rfl
  have t1 : (sem (run Pr (d + 2)) (.cmp .ne (.lc false [("_law_one", 2)] (.name 2) (.var 1) (.or (.not (.call .law_whole (.cons (.var 2) .nil))) (.not (.chain .le .lt (.lit (.int 0)) (.var 2) (.bi .len (.cons (.var 0) .nil))))) (.lit (.int 1))) (.lst .nil))).t [some (rT R), some (.tup xs), none] ([] :: m) = .ok (!xs.all (inR n)) ([] :: m) := by
    rw [t_cmp, hc]
    simp only [Res.bind_ok, e_lst, l_nil, List.length_nil, Nat.zero_le, if_true, on, Res.of_some]
  cases hal : xs.all (inR n) with
  | false =>
    rw [hal] at t1
    have s1 : exec (run Pr (d + 2)) (nth b_law_is_slip 1) [some (rT R), some (.tup xs), none] ([] :: m) = .ok (.rt (.bl false)) ([] :: m) := by
      rw [eb1, x_ifs, t_or, t1]
      rfl
    rw [s1]
    rfl
  | true =>
    obtain ⟨rfl, hk⟩ := hks hal
    rw [hal] at t1
    have hl' : ks.length ≤ 900 := by simpa using hl
    have sl : setLenD (plcD ks) = some (.int ((dcnt (castL ks) : Nat) : Int)) := by
      rw [plc_iL]; exact setLen_iL (by simp [castL]; omega)
    have c1 : ∀ m, compare m .ne (.int ((dcnt (castL ks) : Nat) : Int)) (.int ((ks.length : Nat) : Int)) = some (!decide (dcnt (castL ks) = ks.length)) := fun m => by
      rw [cmp_ne, eqD_int]
      by_cases h : dcnt (castL ks) = ks.length
      · rw [decide_eq_true h, decide_eq_true (by omega)]; rfl
      · rw [decide_eq_false h, decide_eq_false (by omega)]; rfl
    have s1 : exec (run Pr (d + 2)) (nth b_law_is_slip 1) [some (rT R), some (plcD ks), none] ([] :: m) = if decide (dcnt (castL ks) = ks.length) then .ok (.nx [some (rT R), some (plcD ks), none]) ([] :: m) else .ok (.rt (.bl false)) ([] :: m) := by
      rw [eb1, x_ifs, t_or]
      show (((sem (run Pr (d + 2)) _).t [some (rT R), some (D.tup (ks.map fun p => D.int (p : Nat))), none] ([] :: m)).bind _).st _ _ = _
      rw [t1]
      simp only [Res.bind_ok, Bool.not_true, Bool.false_eq_true, if_false, t_cmp, e_setLen, e_var, at_succ, at_zero, Res.of_some]
      show (((Res.of (setLenD (plcD ks)) ([] :: m)).bind _).st _ _ : Res Fl) = _
      rw [sl]
      have pll : ∀ m, built .len [D.tup (ks.map fun p => D.int (p : Nat))] m = some (.int ((ks.length : Nat) : Int)) := fun m => plc_len ks m
      simp only [Res.of_some, Res.bind_ok, e_bi, l_cons, l_nil, e_var, at_succ, at_zero, plc_len, pll, c1, Res.st_ok]
      cases decide (dcnt (castL ks) = ks.length) <;> rfl
    show left ((exec (run Pr (d + 2)) (nth b_law_is_slip 1) [some (rT R), some (plcD ks), none] ([] :: m)).then_ _) = _
    rw [s1]
    cases hd : decide (dcnt (castL ks) = ks.length) with
    | false => rfl
    | true =>
      have r1 := fun m => q_product hR hw hk hl' (d + 1) m
      have r2 := fun m => q_product hR hw (ks := ks.reverse) (fun k h => hk k (List.mem_reverse.mp h)) (by simpa using hl') (d + 1) m
      rw [List.length_reverse] at r2
      simp only [if_true, Res.then_nx, nth, b_law_is_slip, x_ret, e_cmp, e_call, e_rev, l_cons, l_nil, e_var, at_succ, at_zero, Res.of_some, Res.bind_ok, plc_rev, r1, r2, cmp_ne, eqD_int, Option.map_some, Res.st_ok, Res.then_rt, left, leave, D.bd, Bool.true_and]
      congr 2
      simp
end
end Law

set_option Elab.async false
set_option linter.all false
set_option maxRecDepth 100000
set_option maxHeartbeats 2000000
set_option autoImplicit false
namespace Law
open PySem Fw
section
variable {n : Nat} {w w' : Int} {R : List (List Int)}
theorem slips (hR : Rws n w R) (hn : n ≤ 25) (hw : w ≤ 12) {y : D} (hp : pl y = true) (hl : lenT y ≤ 900) (d : Nat) :
    ∃ b, (∀ m, run Pr (d + 3) .is_slip [wlk R w', y] m = .ok (.bl b) m) ∧ ∀ m, run Pr (d + 3) .law_is_slip [rT R, y] m = .ok (.bl b) m := by
  by_cases ht : ∃ xs, y = .tup xs
  · obtain ⟨xs, rfl⟩ := ht
    have hp' : plL xs = true := by simpa [pl] using hp
    have hks : ∃ ks : List Nat, xs.all (inR n) = true → xs = (ks.map fun p => D.int (p : Nat)) ∧ ∀ k ∈ ks, k < n := by
      by_cases h : xs.all (inR n) = true
      · obtain ⟨ks, e, hk⟩ := ints_in h
        exact ⟨ks, fun _ => ⟨e, hk⟩⟩
      · exact ⟨[], fun q => absurd q h⟩
    obtain ⟨ks, hks⟩ := hks
    exact ⟨_, fun m => slip_real hR hn hw hp' hl d m _ rfl ks hks, fun m => slip_own hR hn hw hp' hl d m _ rfl ks hks⟩
  · have ht' : ∀ xs, y ≠ .tup xs := fun xs e => ht ⟨xs, e⟩
    have nt := notup hp ht'
    have kn := ty_bd hp
    refine ⟨false, fun m => ?_, fun m => ?_⟩
    · rw [R_is_slip]
      simp [b_is_slip, nt, kn, left, leave, D.bd]
    · rw [R_law_is_slip]
      simp [b_law_is_slip, nt, kn, left, leave, D.bd]
end
end Law

set_option Elab.async false
set_option linter.all false
set_option maxRecDepth 100000
set_option maxHeartbeats 2000000
set_option autoImplicit false
namespace Law
open PySem Fw
/-! ## drawn rounds -/
def Rd (n : Nat) (x : D) : Prop := ∃ ks : List Nat, x = plcD ks ∧ ks.length ≤ n ∧ ∀ k ∈ ks, k < n
theorem erase_map {α β : Type} (f : α → β) : ∀ (l : List α) (k : Nat), (l.map f).eraseIdx k = (l.eraseIdx k).map f
  | [], _ => rfl
  | _ :: _, 0 => rfl
  | x :: l, k + 1 => by simp only [List.map_cons, List.eraseIdx_cons_succ, erase_map f l k]
theorem q_popD {fr : List MO} {r : MH} {q : Nat} (hq : q = r.length) {ls : List Nat} {k : Nat} (hk : k < ls.length) : popD (.ref q 0) (.int ((k : Nat) : Int)) ((.lst (ls.map fun p => D.int (p : Nat)) :: fr) :: r) = .ok (.int ((ls[k] : Nat) : Int)) ((.lst ((ls.eraseIdx k).map fun p => D.int (p : Nat)) :: fr) :: r) := by
  simp only [popD, get_here hq, List.getElem?_cons_zero]
  rw [if_pos (by simp; omega)]
  simp only [Int.toNat_natCast]
  rw [List.getElem?_eq_getElem (by simpa using hk)]
  simp only [put_here hq, List.set_cons_zero, List.getElem_map, erase_map]
theorem q_drw (d : Nat) {fr : List MO} {m : MH} {l i : Nat} {o : MO} (hl : Lv m l i) (ho : Pen o) {far : Nat} (h0 : 0 < far) (h1 : far ≤ 1000000) :
    ∃ (k : Nat) (o' : MO), k < far ∧ Pen o' ∧ run Pr (d + 2) .law_draw [.ref l i, .int ((far : Nat) : Int)] (fr :: put m l i o) = .ok (.int ((k : Nat) : Int)) (fr :: put m l i o') := by
  obtain ⟨k, o', a, b, c, e⟩ := run_drawC (P := Pr) (f := .law_draw) (nx := .law_next) rfl rfl d (fr := fr) hl ho (far := ((far : Nat) : Int)) (by omega) (by
    have := log2_lt (n := ((far : Nat) : Int).natAbs) (k := 40) (by simp; omega) (by omega)
    omega)
  obtain ⟨j, rfl⟩ := Int.eq_ofNat_of_zero_le a
  exact ⟨j, o', by omega, c, e⟩
theorem q_law_round {n : Nat} (hn : n ≤ 1000) (d : Nat) {m : MH} {l i : Nat} {o : MO} (hl : Lv m l i) (hp : Pen o) :
    ∃ x o', Rd n x ∧ Pen o' ∧ run Pr (d + 3) .law_round [.ref l i, .int ((n : Nat) : Int)] (put m l i o) = .ok x (put m l i o') := by
  have al : ∀ xs : List D, bdL (m.length + 1) xs = true → alloc ([] :: put m l i o) (.lst xs) = .ok (.ref m.length 0) ([MO.lst xs] :: put m l i o) := fun xs hb => by
    have := alloc_ok (fr := []) (r := put m l i o) (o := .lst xs) (by rw [put_length]; exact hb)
    rw [put_length] at this
    exact this
  have rg : rangeD 0 ((n : Nat) : Int) = (List.range n).map fun p => D.int (p : Nat) := range_D n
  have bdn : ∀ (q : Nat) (ls : List Nat), bdL q (ls.map fun p => D.int (p : Nat)) = true := fun q ls => by
    have := plc_bd ls q
    simpa only [plcD, D.bd] using this
  have lr : lrngR .new (.int ((n : Nat) : Int)) ([] :: put m l i o) = .ok (.ref m.length 0) ([MO.lst ((List.range n).map fun p => D.int (p : Nat))] :: put m l i o) := by
    show (if 0 ≤ ((n : Nat) : Int) ∧ ((n : Nat) : Int) ≤ 10000 then alloc ([] :: put m l i o) (.lst (rangeD 0 ((n : Nat) : Int))) else .fail) = _
    rw [if_pos (by omega), rg, al _ (bdn _ _)]
  obtain ⟨t, o1, ht, hp1, e1⟩ := q_drw d (fr := [MO.lst ((List.range n).map fun p => D.int (p : Nat))]) hl hp (far := n + 1) (by omega) (by omega)
  obtain ⟨v2, m2, e, ls, ks, o2, y2, hp2, q1, q2, q3, q4, rfl, rfl⟩ := loop_R (call := run Pr (d + 2)) (t := .name 2) (b := (.cons (.asg (.name 4) (.bin .add (.var 4) (.tup (.cons (.pop (.var 3) (.call .law_draw (.cons (.var 0) (.cons (.bi .len (.cons (.var 3) .nil)) .nil)))) .nil)))) .nil)) (f := fun k => D.int (k : Nat)) (n := t)
    (P := fun k v M => ∃ (ls ks : List Nat) (o' : MO) (y2 : Option D), Pen o' ∧ ls.length + k = n ∧ ks.length = k ∧ (∀ p ∈ ls, p < n) ∧ (∀ p ∈ ks, p < n) ∧ v = [some (.ref l i), some (.int ((n : Nat) : Int)), y2, some (.ref m.length 0), some (plcD ks)] ∧ M = [MO.lst (ls.map fun p => D.int (p : Nat))] :: put m l i o')
    (fun k v M hk hP => by
      obtain ⟨ls, ks, o2, y2, hp2, q1, q2, q3, q4, rfl, rfl⟩ := hP
      obtain ⟨j, o3, hj, hp3, e3⟩ := q_drw d (fr := [MO.lst (ls.map fun p => D.int (p : Nat))]) hl hp2 (far := ls.length) (by omega) (by omega)
      have pp := q_popD (fr := []) (r := put m l i o3) (q := m.length) (by rw [put_length]) hj
      have isl : ∀ o, isL ([MO.lst (ls.map fun p => D.int (p : Nat))] :: put m l i o) (.ref m.length 0) = true := fun o => by
        simp only [isL, get_here (show m.length = (put m l i o).length by rw [put_length]), List.getElem?_cons_zero]
      have ln : built .len [.ref m.length 0] ([MO.lst (ls.map fun p => D.int (p : Nat))] :: put m l i o2) = some (.int ((ls.length : Nat) : Int)) := by
        simp only [built, lenD, seqOf, get_here (show m.length = (put m l i o2).length by rw [put_length]), List.getElem?_cons_zero]
        simp
      have ca := fun m : MH => tup_cat (m := m) (xs := ks.map fun p => D.int (p : Nat)) (ys := [.int ((ls[j] : Nat) : Int)]) (by simp; omega)
      refine ⟨[some (.ref l i), some (.int ((n : Nat) : Int)), some (.int ((k : Nat) : Int)), some (.ref m.length 0), some (plcD ks)], rfl, [some (.ref l i), some (.int ((n : Nat) : Int)), some (.int ((k : Nat) : Int)), some (.ref m.length 0), some (plcD (ks ++ [ls[j]]))], _, ?_, ls.eraseIdx j, ks ++ [ls[j]], o3, _, hp3, ?_, ?_, ?_, ?_, rfl, rfl⟩
      · have ca' : ∀ m, arith .add (plcD ks) (.tup [.int ((ls[j] : Nat) : Int)]) m = .ok (plcD (ks ++ [ls[j]])) m := fun m => by
          rw [plcD, ca]; simp [plcD]
        simp only [x_cons, x_asg, x_nil, e_bin, e_tup, e_pop, e_call, e_bi, l_cons, l_nil, e_var, at_succ, at_zero, Res.of_some, Res.bind_ok, isl, if_true, ln, e3, pp, List.length_cons, List.length_nil, sz1, Nat.zero_add, ca', Res.st_ok, g_name, Res.tg_ok, Res.then_nx, Nat.reduceAdd, Nat.reduceLT, List.set_cons_succ, List.set_cons_zero]
      · rw [List.length_eraseIdx_of_lt hj]; omega
      · simp [q2]
      · intro p hp'
        exact q3 p (List.mem_of_mem_eraseIdx hp')
      · intro p hp'
        rcases List.mem_append.mp hp' with h | h
        · exact q4 p h
        · cases List.mem_singleton.mp h
          exact q3 _ (List.getElem_mem hj)) (v := [some (.ref l i), some (.int ((n : Nat) : Int)), none, some (.ref m.length 0), some (plcD [])]) (m := [MO.lst ((List.range n).map fun p => D.int (p : Nat))] :: put m l i o1)
    ⟨List.range n, [], o1, none, hp1, by simp, rfl, by simp, by simp, rfl, rfl⟩
  refine ⟨plcD ks, o2, ⟨ks, rfl, by omega, q4⟩, hp2, ?_⟩
  rw [R_law_round]
  have eb : b_law_round = (.cons (.par 3 4 (.cons (.lrng .new (.var 1)) (.cons (.tup .nil) .nil))) (.cons (.for_ (.name 2) (.rng1 (.call .law_draw (.cons (.var 0) (.cons (.bin .add (.var 1) (.lit (.int 1))) .nil)))) (.cons (.asg (.name 4) (.bin .add (.var 4) (.tup (.cons (.pop (.var 3) (.call .law_draw (.cons (.var 0) (.cons (.bi .len (.cons (.var 3) .nil)) .nil)))) .nil)))) .nil)) (.cons (.ret (.var 4)) .nil))) := rfl
  have s0 : exec (run Pr (d + 2)) (.par 3 4 (.cons (.lrng .new (.var 1)) (.cons (.tup .nil) .nil))) [some (.ref l i), some (.int ((n : Nat) : Int)), none, none, none] ([] :: put m l i o) = .ok (.nx [some (.ref l i), some (.int ((n : Nat) : Int)), none, some (.ref m.length 0), some (plcD [])]) ([MO.lst ((List.range n).map fun p => D.int (p : Nat))] :: put m l i o) := by
    simp only [x_par, e_lrng, e_tup, l_cons, l_nil, e_var, at_succ, at_zero, Res.of_some, Res.bind_ok, lr, List.length_nil, Nat.zero_le, if_true, Res.st_ok]
    rfl
  have hw : (sem (run Pr (d + 2)) (.call .law_draw (.cons (.var 0) (.cons (.bin .add (.var 1) (.lit (.int 1))) .nil)))).e [some (.ref l i), some (.int ((n : Nat) : Int)), none, some (.ref m.length 0), some (plcD [])] ([MO.lst ((List.range n).map fun p => D.int (p : Nat))] :: put m l i o) = .ok (.int ((t : Nat) : Int)) ([MO.lst ((List.range n).map fun p => D.int (p : Nat))] :: put m l i o1) := by
    simp only [e_call, l_cons, l_nil, e_bin, e_var, e_lit, lit_int, at_succ, at_zero, Res.of_some, Res.bind_ok, add_int]
    exact e1
  rw [eb]
  simp only [x_cons]
  rw [s0, Res.then_nx, x_k1 hw (nat_rng (show t ≤ 1000000 by omega)).1 (nat_rng (show t ≤ 1000000 by omega)).2, range_D, e, Res.then_nx, x_ret]
  simp only [e_var, at_succ, at_zero, Res.of_some, Res.st_ok, Res.then_rt, left]
  show (if D.bd (put m l i o2).length (plcD ks) then Res.ok (plcD ks) (put m l i o2) else Res.fail) = _
  rw [if_pos (plc_bd ks _)]
end Law

set_option Elab.async false
set_option linter.all false
set_option maxRecDepth 100000
set_option maxHeartbeats 2000000
set_option autoImplicit false
namespace Law
open PySem Fw
/-! ## k43: the law's turn -/
def Tg (y : D) : Prop := Bp 900 12 400000 1000000000000 y
theorem tg_plc {ks : List Nat} (hl : ks.length ≤ 20) (hk : ∀ k ∈ ks, k < 1000) : Bp 20 1 50000 2000 (plcD ks) := by
  rw [plc_iL]
  have hf : fineL true true 2000 (iL (castL ks)) = true := fineL_iL fun z hz => by
    obtain ⟨k, hk', rfl⟩ := List.mem_map.mp hz
    have := hk k hk'
    simp; omega
  have hr := rmL_iL (castL ks)
  have hd := dpL_iL (castL ks)
  have hlen : (castL ks).length = ks.length := by simp [castL]
  refine ⟨hf, ?_, ?_, ?_⟩
  · simp only [dp]; omega
  · simp only [rm]; omega
  · show (iL (castL ks)).length ≤ 20
    simp [hlen]; exact hl
theorem Tg.of {n dep room B : Nat} {y : D} (h : Bp n dep room B y) (h0 : n ≤ 900) (h1 : dep ≤ 12) (h2 : room ≤ 400000) (h3 : B ≤ 1000000000000) : Tg y := h.mono h0 h1 h2 h3
theorem rd_tg {n : Nat} (hn : n ≤ 6) {x : D} (h : Rd n x) : Bp 20 1 50000 2000 x := by
  obtain ⟨ks, rfl, hl, hk⟩ := h
  exact tg_plc (by omega) fun k q => by have := hk k q; omega
theorem sl_from (ks : List Nat) (m : MH) : slD m (plcD ks) (some 1) none = some (plcD (ks.drop 1)) := by
  show some (D.tup (cut _ _ _)) = _
  rw [cut_one]
  simp [plcD]
theorem sl_to (ks : List Nat) (m : MH) : slD m (plcD ks) none (some 1) = some (plcD (ks.take 1)) := by
  show some (D.tup (cut _ _ _)) = _
  cases ks with
  | nil => rfl
  | cons k ks =>
    rw [show (some (1 : Int)) = some (((1 : Nat) : Int)) from rfl, cut_to (by simp)]
    simp [plcD]
theorem plc_cat {a b : List Nat} (h : a.length + b.length ≤ 16777216) (m : MH) : arith .add (plcD a) (plcD b) m = .ok (plcD (a ++ b)) m := by
  rw [plcD, plcD, tup_cat (by simpa using h)]
  simp [plcD]
theorem place_neg {n : Nat} : place (n + 1) (-1) = some n := by
  unfold place L2.ixN
  rw [if_neg (by omega), if_pos (by omega)]
  congr 1
  omega
theorem at_neg {xs : List D} {z : D} (m : MH) : getAt m (.lst (xs ++ [z])) (.int (-1)) = some z := by
  have e : place ((xs ++ [z]).length) (-1) = some xs.length := by rw [List.length_append]; exact place_neg
  simp only [getAt, seqOf, Option.bind_some, e]
  simp
def z4b : S Id := (.cons (.asg (.name 9) (.call .law_bent (.cons (.var 2) (.cons (.var 8) .nil)))) (.cons (.asg (.name 7) (.bin .add (.var 7) (.lst (.cons (.rev (.var 8)) (.cons (.bin .add (.sl (.var 8) (.lit (.int 1)) .nil) (.sl (.var 8) .nil (.lit (.int 1)))) (.cons (.bin .add (.var 8) (.sl (.var 8) .nil (.lit (.int 1)))) (.cons (.var 9) (.cons (.call .law_bent (.cons (.var 2) (.cons (.var 9) .nil))) .nil)))))))) .nil))
def z5b : S Id := (.cons (.par 10 11 (.cons (.bi .repr (.cons (.var 8) .nil)) (.cons (.call .law_is_slip (.cons (.var 4) (.cons (.var 8) .nil))) .nil))) (.cons (.ifs (.cmp .ne (.bi .repr (.cons (.lst (.cons (.call .is_slip (.cons (.var 5) (.cons (.var 8) .nil))) (.cons (.call .is_slip (.cons (.var 5) (.cons (.var 8) .nil))) .nil))) .nil)) (.bi .repr (.cons (.lst (.cons (.var 11) (.cons (.var 11) .nil))) .nil))) (.cons (.ret (.lit (.bl false))) .nil) .nil) (.cons (.ifs (.cmp .ne (.bi .repr (.cons (.var 8) .nil)) (.var 10)) (.cons (.ret (.lit (.bl false))) .nil) .nil) .nil)))
def B2 : S Id := (.cons (.asg (.name 4) (.call .law_rows (.cons (.var 2) (.cons (.lit (.int 6)) .nil)))) (.cons (.asg (.name 5) (.mk .Walk_ini (.var 4))) (.cons (.asg (.name 6) (.bin .add (.lc false [("_law_lap", 12)] (.name 12) (.rng1 (.lit (.int 6))) .nil (.call .law_round (.cons (.var 2) (.cons (.bi .len (.cons (.var 4) .nil)) .nil)))) (.lst (.cons (.lrng .tup (.bi .len (.cons (.var 4) .nil))) .nil)))) (.cons (.asg (.name 7) (.bin .add (.var 6) (.lst (.cons (.lit .non) (.cons (.tup .nil) (.cons (.tup (.cons (.lit (.int 0)) (.cons (.lit (.int 0)) (.cons (.lit (.int 0)) .nil)))) (.cons (.tup (.cons (.lit (.int 0)) (.cons (.lit (.int 1)) .nil))) (.cons (.call .law_odd (.cons (.var 2) .nil)) (.cons (.bi .list (.cons (.idx (.var 6) (.neg (.lit (.int 1)))) .nil)) .nil))))))))) (.cons (.for_ (.name 8) (.var 6) (.cons (.asg (.name 9) (.call .law_bent (.cons (.var 2) (.cons (.var 8) .nil)))) (.cons (.asg (.name 7) (.bin .add (.var 7) (.lst (.cons (.rev (.var 8)) (.cons (.bin .add (.sl (.var 8) (.lit (.int 1)) .nil) (.sl (.var 8) .nil (.lit (.int 1)))) (.cons (.bin .add (.var 8) (.sl (.var 8) .nil (.lit (.int 1)))) (.cons (.var 9) (.cons (.call .law_bent (.cons (.var 2) (.cons (.var 9) .nil))) .nil)))))))) .nil))) (.cons (.for_ (.name 8) (.var 7) (.cons (.par 10 11 (.cons (.bi .repr (.cons (.var 8) .nil)) (.cons (.call .law_is_slip (.cons (.var 4) (.cons (.var 8) .nil))) .nil))) (.cons (.ifs (.cmp .ne (.bi .repr (.cons (.lst (.cons (.call .is_slip (.cons (.var 5) (.cons (.var 8) .nil))) (.cons (.call .is_slip (.cons (.var 5) (.cons (.var 8) .nil))) .nil))) .nil)) (.bi .repr (.cons (.lst (.cons (.var 11) (.cons (.var 11) .nil))) .nil))) (.cons (.ret (.lit (.bl false))) .nil) .nil) (.cons (.ifs (.cmp .ne (.bi .repr (.cons (.var 8) .nil)) (.var 10)) (.cons (.ret (.lit (.bl false))) .nil) .nil) .nil)))) .nil))))))
theorem law_body : Pr .law_ = ⟨1, 9 + 4, penB .law_cell_at .law_pen_of 4 4 B2⟩ := rfl
section
variable {n w : Nat} {R : List (List Int)} {m : MH} {l i : Nat} {s c : Option D}
/-- the rounds drawn -/
theorem t_some (hl : Lv m l i) (hR : R.length = n) (hn : n ≤ 6) {o : MO} (hp : Pen o) {y3 y5 y6 y7 y8 y9 y10 y11 y12 : Option D} : ∃ xs o', (∀ x ∈ xs, Rd n x) ∧ xs.length = 6 ∧ Pen o' ∧
    exec (run Pr 9) (.asg (.name 6) (.bin .add (.lc false [("_law_lap", 12)] (.name 12) (.rng1 (.lit (.int 6))) .nil (.call .law_round (.cons (.var 2) (.cons (.bi .len (.cons (.var 4) .nil)) .nil)))) (.lst (.cons (.lrng .tup (.bi .len (.cons (.var 4) .nil))) .nil)))) [s, c, some (.ref l i), y3, some (rT R), y5, y6, y7, y8, y9, y10, y11, y12] (put m l i o) = .ok (.nx [s, c, some (.ref l i), y3, some (rT R), y5, some (.lst (xs ++ [plcD (List.range n)])), y7, y8, y9, y10, y11, y12]) (put m l i o') := by
  have ln : ∀ m, built .len [rT R] m = some (.int ((n : Nat) : Int)) := fun m => by rw [len_rT, hR]
  obtain ⟨xs, M', e, q1, q2, o', hp', rfl⟩ := e_SX (call := run Pr 9) (own := [("_law_lap", 12)]) (t := .name 12) (it := .rng1 (.lit (.int 6))) (e := .call .law_round (.cons (.var 2) (.cons (.bi .len (.cons (.var 4) .nil)) .nil))) (v := [s, c, some (.ref l i), y3, some (rT R), y5, y6, y7, y8, y9, y10, y11, y12]) (m0 := put m l i o) (all := (List.range 6).map fun k => D.int (k : Nat))
    (fun M => ∃ o', Pen o' ∧ M = put m l i o') (Rd n) (fun k => [s, c, some (.ref l i), y3, some (rT R), y5, y6, y7, y8, y9, y10, y11, some (.int (k : Nat))]) ⟨o, hp, rfl⟩ (by simp) rfl (fun k hk M hM => by
      obtain ⟨o1, hp1, rfl⟩ := hM
      obtain ⟨x, o2, hx, hp2, e2⟩ := q_law_round (show n ≤ 1000 by omega) 6 hl hp1
      refine ⟨?_, x, _, ?_, ⟨o2, hp2, rfl⟩, hx⟩
      · rw [List.getElem_map, List.getElem_range]; rfl
      · simp only [e_call, l_cons, l_nil, e_bi, e_var, at_succ, at_zero, Res.of_some, Res.bind_ok, ln]
        exact e2)
  refine ⟨xs, o', q2, by rw [q1]; rfl, hp', ?_⟩
  have lr : ∀ M, lrngR .tup (.int ((n : Nat) : Int)) M = .ok (plcD (List.range n)) M := fun M => by
    show (if 0 ≤ ((n : Nat) : Int) ∧ ((n : Nat) : Int) ≤ 10000 then Res.ok (D.tup (rangeD 0 ((n : Nat) : Int))) M else .fail) = _
    rw [if_pos (by omega), range_D]
    rfl
  have ca := fun M : MH => lst_cat (m := M) (xs := xs) (ys := [plcD (List.range n)]) (by rw [q1]; simp)
  rw [x_asg, e_bin, e, Res.bind_ok]
  simp only [e_lst, l_cons, l_nil, e_lrng, e_bi, e_var, at_succ, at_zero, Res.of_some, Res.bind_ok, ln, lr, List.length_cons, List.length_nil, sz1, Nat.zero_add, if_true, ca, Res.st_ok, g_name, Nat.reduceAdd, Nat.reduceLT, Res.tg_ok, List.set_cons_succ, List.set_cons_zero]
theorem pl_tg : Tg .non ∧ Tg (.tup []) ∧ Tg (.tup [.int 0, .int 0, .int 0]) ∧ Tg (.tup [.int 0, .int 1]) := by
  refine ⟨?_, ?_, ?_, ?_⟩ <;> refine ⟨by decide, by decide, by decide, by decide⟩
theorem t_things (hl : Lv m l i) (hn : n ≤ 6) {o : MO} (hp : Pen o) {xs : List D} (hx : ∀ x ∈ xs, Rd n x) (lx : xs.length = 6) {y3 y4 y5 y7 y8 y9 y10 y11 y12 : Option D} : ∃ T o', (∀ y ∈ T, Tg y) ∧ T.length = 13 ∧ Pen o' ∧
    exec (run Pr 9) (.asg (.name 7) (.bin .add (.var 6) (.lst (.cons (.lit .non) (.cons (.tup .nil) (.cons (.tup (.cons (.lit (.int 0)) (.cons (.lit (.int 0)) (.cons (.lit (.int 0)) .nil)))) (.cons (.tup (.cons (.lit (.int 0)) (.cons (.lit (.int 1)) .nil))) (.cons (.call .law_odd (.cons (.var 2) .nil)) (.cons (.bi .list (.cons (.idx (.var 6) (.neg (.lit (.int 1)))) .nil)) .nil))))))))) [s, c, some (.ref l i), y3, y4, y5, some (.lst (xs ++ [plcD (List.range n)])), y7, y8, y9, y10, y11, y12] (put m l i o) = .ok (.nx [s, c, some (.ref l i), y3, y4, y5, some (.lst (xs ++ [plcD (List.range n)])), some (.lst T), y8, y9, y10, y11, y12]) (put m l i o') := by
  obtain ⟨x, o', hx', hp', e⟩ := run_oddP (P := Pr) (od := .law_odd) (dw := .law_draw) (nx := .law_next) rfl rfl rfl 6 (m := put m l i o) (lv_get hl o) hp
  rw [put_put] at e
  have hr : Rd n (plcD (List.range n)) := ⟨_, rfl, by simp, fun k hk => List.mem_range.mp hk⟩
  have bl : ∀ M, built .list [plcD (List.range n)] M = some (.lst ((List.range n).map fun p => D.int (p : Nat))) := fun _ => rfl
  have tl : Tg (.lst ((List.range n).map fun p => D.int (p : Nat))) := by
    obtain ⟨a, b, c, d⟩ := rd_tg hn hr
    refine ⟨?_, ?_, ?_, ?_⟩
    · have := fine_mono (l' := true) (c' := true) (B' := 1000000000000) (by simp) (by simp) (by omega) _ a
      simp only [fine, plcD, Bool.true_and] at this ⊢
      exact this
    · simp only [dp, plcD] at b ⊢; omega
    · simp only [rm, plcD] at c ⊢; omega
    · simp [lenT]
  have ca := fun M : MH => lst_cat (m := M) (xs := xs ++ [plcD (List.range n)]) (ys := [.non, .tup [], .tup [.int 0, .int 0, .int 0], .tup [.int 0, .int 1], x, .lst ((List.range n).map fun p => D.int (p : Nat))]) (by simp; omega)
  refine ⟨(xs ++ [plcD (List.range n)]) ++ [.non, .tup [], .tup [.int 0, .int 0, .int 0], .tup [.int 0, .int 1], x, .lst ((List.range n).map fun p => D.int (p : Nat))], o', fun y hy => ?_, by simp [lx], hp', ?_⟩
  · obtain ⟨t1, t2, t3, t4⟩ := pl_tg
    rcases List.mem_append.mp hy with hy | hy
    · rcases List.mem_append.mp hy with hy | hy
      · exact Tg.of (rd_tg hn (hx y hy)) (by omega) (by omega) (by omega) (by omega)
      · cases List.mem_singleton.mp hy
        exact Tg.of (rd_tg hn hr) (by omega) (by omega) (by omega) (by omega)
    · simp only [List.mem_cons, List.not_mem_nil, or_false] at hy
      rcases hy with rfl | rfl | rfl | rfl | rfl | rfl
      · exact t1
      · exact t2
      · exact t3
      · exact t4
      · exact Tg.of (odd_bp _ hx') (by omega) (by omega) (by omega) (by omega)
      · exact tl
  · have e' : run Pr 9 .law_odd [.ref l i] (put m l i o) = .ok x (put m l i o') := e
    have l2 : List.length [D.int 0, .int 0, .int 0] ≤ sizeLine := by unfold sizeLine; decide
    have l3 : List.length [D.int 0, .int 1] ≤ sizeLine := by unfold sizeLine; decide
    have l4 : ∀ a b c d e f : D, List.length [a, b, c, d, e, f] ≤ sizeLine := fun _ _ _ _ _ _ => by unfold sizeLine; simp
    have l0 : List.length ([] : List D) ≤ sizeLine := by unfold sizeLine; simp
    simp only [x_asg, e_bin, e_var, at_succ, at_zero, Res.of_some, Res.bind_ok, e_lst, l_cons, l_nil, e_lit, lit_non, lit_int, e_tup, Nat.zero_le, Nat.zero_add, Nat.reduceAdd, List.length_cons, List.length_nil, sz2, sz3, sz6, if_true, e_call, e', e_bi, e_idx, e_neg, at_neg, bl, l4, ca, Res.st_ok, g_name, List.length_cons, List.length_nil, Nat.reduceAdd, Nat.reduceLT, Res.tg_ok, List.set_cons_succ, List.set_cons_zero]
/-- a thing bent -/
theorem q_bent (hl : Lv m l i) {o : MO} (hp : Pen o) {B n' dep room : Nat} {x : D} (hx : Bp n' dep room B x) (hd : dep ≤ 5) (hr : room ≤ 4000000) : ∃ y o', Pen o' ∧ run Pr 9 .law_bent [.ref l i, x] (put m l i o) = .ok y (put m l i o') ∧ Bp (n' + 2) (dep + 4) (2 * room + 9000) (B + 200000000000) y := by
  obtain ⟨x1, x2, x3, x4⟩ := hx
  obtain ⟨y, o', a, b, c⟩ := bentP_ok (P := Pr) (f := .law_bent) (dw := .law_draw) (nx := .law_next) (od := .law_odd) rfl rfl rfl rfl 5 0 (m := put m l i o) (x := x) (by omega) (by omega) x1 (by omega) (lv_get hl o) hp
  rw [put_put] at b
  exact ⟨y, o', a, b, c.mono (by omega) (by omega) (by omega) (by omega)⟩
/-- what is made of one round -/
theorem t_bent (hl : Lv m l i) (hn : n ≤ 6) {o : MO} (hp : Pen o) {x : D} (hx : Rd n x) {T : List D} (hT : ∀ y ∈ T, Tg y) (lT : T.length ≤ 1000) {y3 y4 y5 y6 y9 y10 y11 y12 : Option D} : ∃ T' y9' o', (∀ y ∈ T', Tg y) ∧ T'.length = T.length + 5 ∧ Pen o' ∧
    exec (run Pr 9) z4b [s, c, some (.ref l i), y3, y4, y5, y6, some (.lst T), some x, y9, y10, y11, y12] (put m l i o) = .ok (.nx [s, c, some (.ref l i), y3, y4, y5, y6, some (.lst T'), some x, y9', y10, y11, y12]) (put m l i o') := by
  have hx0 := rd_tg hn hx
  obtain ⟨ks, rfl, hk1, hk2⟩ := hx
  obtain ⟨y, o1, hp1, e1, hy⟩ := q_bent hl hp hx0 (by omega) (by omega)
  obtain ⟨z, o2, hp2, e2, hz⟩ := q_bent hl hp1 hy (by omega) (by omega)
  have k1000 : ∀ k ∈ ks, k < 1000 := fun k hk => by have := hk2 k hk; omega
  have t1 : Tg (plcD ks.reverse) := Tg.of (tg_plc (by simp; omega) fun k hk => k1000 k (List.mem_reverse.mp hk)) (by omega) (by omega) (by omega) (by omega)
  have t2 : Tg (plcD (ks.drop 1 ++ ks.take 1)) := Tg.of (tg_plc (by simp; omega) fun k hk => by
    rcases List.mem_append.mp hk with hk | hk
    · exact k1000 k (List.mem_of_mem_drop hk)
    · exact k1000 k (List.mem_of_mem_take hk)) (by omega) (by omega) (by omega) (by omega)
  have t3 : Tg (plcD (ks ++ ks.take 1)) := Tg.of (tg_plc (by simp; omega) fun k hk => by
    rcases List.mem_append.mp hk with hk | hk
    · exact k1000 k hk
    · exact k1000 k (List.mem_of_mem_take hk)) (by omega) (by omega) (by omega) (by omega)
  have c1 := fun M => plc_cat (a := ks.drop 1) (b := ks.take 1) (by simp; omega) M
  have c2 := fun M => plc_cat (a := ks) (b := ks.take 1) (by simp; omega) M
  have ca := fun M : MH => lst_cat (m := M) (xs := T) (ys := [plcD ks.reverse, plcD (ks.drop 1 ++ ks.take 1), plcD (ks ++ ks.take 1), y, z]) (by simp; omega)
  refine ⟨T ++ [plcD ks.reverse, plcD (ks.drop 1 ++ ks.take 1), plcD (ks ++ ks.take 1), y, z], some y, o2, fun q hq => ?_, by simp, hp2, ?_⟩
  · rcases List.mem_append.mp hq with hq | hq
    · exact hT q hq
    · simp only [List.mem_cons, List.not_mem_nil, or_false] at hq
      rcases hq with rfl | rfl | rfl | rfl | rfl
      · exact t1
      · exact t2
      · exact t3
      · exact Tg.of hy (by omega) (by omega) (by omega) (by omega)
      · exact Tg.of hz (by omega) (by omega) (by omega) (by omega)
  · have l5 : ∀ a b c d e : D, List.length [a, b, c, d, e] ≤ sizeLine := fun _ _ _ _ _ => by unfold sizeLine; simp
    simp only [z4b, x_cons, x_asg, x_nil, e_bin, e_call, e_var, at_succ, at_zero, Res.of_some, Res.bind_ok, e1, e2, e_lst, l_cons, l_nil, e_rev, plc_rev, e_sl, o_nil, o_lit, sl_from, sl_to, c1, c2, Nat.zero_add, Nat.reduceAdd, List.length_cons, List.length_nil, sz5, if_true, ca, Res.st_ok, g_name, List.length_cons, List.length_nil, Nat.reduceAdd, Nat.reduceLT, Res.tg_ok, Res.then_nx, List.set_cons_succ, List.set_cons_zero]
/-- one thing looked at -/
theorem t_look (hR : Rws n (w : Int) R) (hn : n ≤ 6) (hw : w ≤ 12) {y : D} (hy : Tg y) {M : MH} {y2 y3 y6 y7 y9 y10 y11 y12 : Option D} : ∃ z10 z11,
    exec (run Pr 9) z5b [s, c, y2, y3, some (rT R), some (wlk R w), y6, y7, some y, y9, y10, y11, y12] M = .ok (.nx [s, c, y2, y3, some (rT R), some (wlk R w), y6, y7, some y, y9, z10, z11, y12]) M := by
  obtain ⟨b, e1, e2⟩ := slips (w' := (w : Int)) hR (by omega) (by omega) hy.pl hy.2.2.2 6
  obtain ⟨tx, et⟩ := hy.repr (by decide) (by omega) (by omega)
  obtain ⟨tb, eb⟩ : ∃ t, ∀ m, reprD m (.lst [.bl b, .bl b]) = some t := by
    refine fine_reprA (l := true) (c := true) (B := 1) (by cases b <;> rfl) (by decide) (by cases b <;> decide) (by cases b <;> decide)
  have e1' : ∀ M, run Pr 9 .is_slip [wlk R w, y] M = .ok (.bl b) M := e1
  have e2' : ∀ M, run Pr 9 .law_is_slip [rT R, y] M = .ok (.bl b) M := e2
  have r1 : ∀ M, built .repr [y] M = some (.str tx) := fun M => by
    show (reprD M y).map D.str = _
    rw [et]; rfl
  have r2 : ∀ M, built .repr [.lst [.bl b, .bl b]] M = some (.str tb) := fun M => by
    show (reprD M _).map D.str = _
    rw [eb]; rfl
  have l2 : ∀ a b : D, List.length [a, b] ≤ sizeLine := fun _ _ => by unfold sizeLine; simp
  refine ⟨some (.str tx), some (.bl b), ?_⟩
  simp only [z5b, x_cons, x_par, x_ifs, x_nil, t_cmp, e_bi, e_call, l_cons, l_nil, e_var, at_succ, at_zero, Res.of_some, Res.bind_ok, r1, e2', e1', Res.st_ok, List.length_cons, List.length_nil, Nat.reduceAdd, Nat.reduceLT, and_self, if_true, Res.then_nx, List.set_cons_succ, List.set_cons_zero, e_lst, Nat.zero_add, sz2, r2, cmp_ne, eqD_str, decide_true, Option.map_some, Bool.not_true, Bool.false_eq_true, if_false]
end
theorem turn (sd : D) (c : Int) (y3 : D) (v : Fw.Env) (m : MH) (l i : Nat) (o : MO) (hl : Lv m l i) (hp : Pen o) (hv : v.length = 9) :
    ∃ v' o', v'.length = 9 ∧ Pen o' ∧ exec (run Pr 9) B2 (some sd :: some (.int c) :: some (.ref l i) :: some y3 :: v) (put m l i o) = .ok (.nx (some sd :: some (.int c) :: some (.ref l i) :: some y3 :: v')) (put m l i o') := by
  obtain ⟨y4, y5, y6, y7, y8, y9, y10, y11, y12, rfl⟩ : ∃ a b c d e f g h j, v = [a, b, c, d, e, f, g, h, j] := by
    match v, hv with
    | [a, b, c, d, e, f, g, h, j], _ => exact ⟨a, b, c, d, e, f, g, h, j, rfl⟩
  obtain ⟨n, w, R, o1, n0, n1, w0, w1, hR, hp1, e1⟩ := run_rows (P := Pr) (f := .law_rows) (dw := .law_draw) (nx := .law_next) rfl rfl rfl 6 (most := 6) (by omega) (by omega) (lv_get hl o) hp
  rw [put_put] at e1
  have e2 := run_walk (P := Pr) (f := .Walk_ini) (ar := .are_rows) (aw := .are_weights) (wh := .is_whole) rfl rfl rfl rfl 5 hR n0 (by omega) (by omega) (put m l i o1)
  obtain ⟨xs, o2, q1, q2, hp2, e3⟩ := t_some (s := some sd) (c := some (.int c)) hl hR.len n1 hp1 (y3 := some y3) (y5 := some (wlk R w)) (y6 := y6) (y7 := y7) (y8 := y8) (y9 := y9) (y10 := y10) (y11 := y11) (y12 := y12)
  obtain ⟨T, o3, q3, q4, hp3, e4⟩ := t_things (s := some sd) (c := some (.int c)) hl n1 hp2 q1 q2 (y3 := some y3) (y4 := some (rT R)) (y5 := some (wlk R w)) (y7 := y7) (y8 := y8) (y9 := y9) (y10 := y10) (y11 := y11) (y12 := y12)
  have hr : ∀ x ∈ xs ++ [plcD (List.range n)], Rd n x := fun x hx => by
    rcases List.mem_append.mp hx with hx | hx
    · exact q1 x hx
    · cases List.mem_singleton.mp hx
      exact ⟨_, rfl, by simp, fun k hk => List.mem_range.mp hk⟩
  obtain ⟨v5, m5, e5, _, T5, z8, z9, o5, q5, q6, hp5, rfl, rfl⟩ := loop_L (call := run Pr 9) (t := .name 8) (b := z4b) (f := id)
    (P := fun ys v M => (∀ y ∈ ys, Rd n y) ∧ ∃ T y8 y9 o', (∀ y ∈ T, Tg y) ∧ T.length + 5 * ys.length = 48 ∧ Pen o' ∧ v = [some sd, some (.int c), some (.ref l i), some y3, some (rT R), some (wlk R w), some (.lst (xs ++ [plcD (List.range n)])), some (.lst T), y8, y9, y10, y11, y12] ∧ M = put m l i o')
    (fun y ys v M hP => by
      obtain ⟨hys, T, y8, y9, o', hT, lT, hp', rfl, rfl⟩ := hP
      obtain ⟨T', y9', o2, hT', lT', hp2, e⟩ := t_bent (s := some sd) (c := some (.int c)) hl n1 hp' (hys y List.mem_cons_self) hT (by omega) (y3 := some y3) (y4 := some (rT R)) (y5 := some (wlk R w)) (y6 := some (.lst (xs ++ [plcD (List.range n)]))) (y9 := y9) (y10 := y10) (y11 := y11) (y12 := y12)
      refine ⟨_, rfl, _, _, e, fun z hz => hys z (List.mem_cons_of_mem _ hz), T', _, _, o2, hT', ?_, hp2, rfl, rfl⟩
      simp only [List.length_cons] at lT
      omega) (xs ++ [plcD (List.range n)]) [some sd, some (.int c), some (.ref l i), some y3, some (rT R), some (wlk R w), some (.lst (xs ++ [plcD (List.range n)])), some (.lst T), y8, y9, y10, y11, y12] (put m l i o3)
    ⟨hr, T, y8, y9, o3, q3, by rw [q4, List.length_append, q2]; rfl, hp3, rfl, rfl⟩
  rw [List.map_id] at e5
  obtain ⟨v6, m6, e6, _, z8', z10, z11, rfl, rfl⟩ := loop_L (call := run Pr 9) (t := .name 8) (b := z5b) (f := id)
    (P := fun ys v M => (∀ y ∈ ys, Tg y) ∧ ∃ y8 y10 y11, v = [some sd, some (.int c), some (.ref l i), some y3, some (rT R), some (wlk R w), some (.lst (xs ++ [plcD (List.range n)])), some (.lst T5), y8, z9, y10, y11, y12] ∧ M = put m l i o5)
    (fun y ys v M hP => by
      obtain ⟨hys, y8, y10, y11, rfl, rfl⟩ := hP
      obtain ⟨z10, z11, e⟩ := t_look (s := some sd) (c := some (.int c)) hR n1 w1 (hys y List.mem_cons_self) (M := put m l i o5) (y2 := some (.ref l i)) (y3 := some y3) (y6 := some (.lst (xs ++ [plcD (List.range n)]))) (y7 := some (.lst T5)) (y9 := z9) (y10 := y10) (y11 := y11) (y12 := y12)
      exact ⟨_, rfl, _, _, e, fun z hz => hys z (List.mem_cons_of_mem _ hz), _, _, _, rfl, rfl⟩) T5 [some sd, some (.int c), some (.ref l i), some y3, some (rT R), some (wlk R w), some (.lst (xs ++ [plcD (List.range n)])), some (.lst T5), z8, z9, y10, y11, y12] (put m l i o5)
    ⟨q5, _, _, _, rfl, rfl⟩
  rw [List.map_id] at e6
  refine ⟨[some (rT R), some (wlk R w), some (.lst (xs ++ [plcD (List.range n)])), some (.lst T5), z8', z9, z10, z11, y12], o5, rfl, hp5, ?_⟩
  have s0 : exec (run Pr 9) (.asg (.name 4) (.call .law_rows (.cons (.var 2) (.cons (.lit (.int 6)) .nil)))) [some sd, some (.int c), some (.ref l i), some y3, y4, y5, y6, y7, y8, y9, y10, y11, y12] (put m l i o) = .ok (.nx [some sd, some (.int c), some (.ref l i), some y3, some (rT R), y5, y6, y7, y8, y9, y10, y11, y12]) (put m l i o1) := by
    have e1' : run Pr 9 .law_rows [.ref l i, .int 6] (put m l i o) = .ok (rT R) (put m l i o1) := e1
    simp only [x_asg, e_call, l_cons, l_nil, e_var, e_lit, lit_int, at_succ, at_zero, Res.of_some, Res.bind_ok, e1', Res.st_ok, g_name, List.length_cons, List.length_nil, Nat.reduceAdd, Nat.reduceLT, if_true, Res.tg_ok, List.set_cons_succ, List.set_cons_zero]
  have s1 : exec (run Pr 9) (.asg (.name 5) (.mk .Walk_ini (.var 4))) [some sd, some (.int c), some (.ref l i), some y3, some (rT R), y5, y6, y7, y8, y9, y10, y11, y12] (put m l i o1) = .ok (.nx [some sd, some (.int c), some (.ref l i), some y3, some (rT R), some (wlk R w), y6, y7, y8, y9, y10, y11, y12]) (put m l i o1) := by
    have e2' : run Pr 9 .Walk_ini [rT R] (put m l i o1) = .ok (wlk R w) (put m l i o1) := e2
    simp only [x_asg, e_mk, e_var, at_succ, at_zero, Res.of_some, Res.bind_ok, e2', Res.st_ok, g_name, List.length_cons, List.length_nil, Nat.reduceAdd, Nat.reduceLT, if_true, Res.tg_ok, List.set_cons_succ, List.set_cons_zero]
  have s4 : ∀ (b : S Id) (k : Nat) (x : D) (ys : List D) (V : Fw.Env) (M : MH), V.at_ k = some (.lst ys) → exec (run Pr 9) (.for_ (.name 8) (.var k) b) V M = loop (run Pr 9) (.name 8) b (.items ys) V M := fun b k x ys V M hv => by
    rw [x_for, w_var, hv]
    rfl
  show exec (run Pr 9) (.cons (.asg (.name 4) (.call .law_rows (.cons (.var 2) (.cons (.lit (.int 6)) .nil)))) (.cons (.asg (.name 5) (.mk .Walk_ini (.var 4))) (.cons (.asg (.name 6) (.bin .add (.lc false [("_law_lap", 12)] (.name 12) (.rng1 (.lit (.int 6))) .nil (.call .law_round (.cons (.var 2) (.cons (.bi .len (.cons (.var 4) .nil)) .nil)))) (.lst (.cons (.lrng .tup (.bi .len (.cons (.var 4) .nil))) .nil)))) (.cons (.asg (.name 7) (.bin .add (.var 6) (.lst (.cons (.lit .non) (.cons (.tup .nil) (.cons (.tup (.cons (.lit (.int 0)) (.cons (.lit (.int 0)) (.cons (.lit (.int 0)) .nil)))) (.cons (.tup (.cons (.lit (.int 0)) (.cons (.lit (.int 1)) .nil))) (.cons (.call .law_odd (.cons (.var 2) .nil)) (.cons (.bi .list (.cons (.idx (.var 6) (.neg (.lit (.int 1)))) .nil)) .nil))))))))) (.cons (.for_ (.name 8) (.var 6) z4b) (.cons (.for_ (.name 8) (.var 7) z5b) .nil)))))) _ _ = _
  simp only [x_cons]
  rw [s0, Res.then_nx, s1, Res.then_nx, e3, Res.then_nx, e4, Res.then_nx, s4 z4b 6 .non _ _ _ rfl, e5, Res.then_nx, s4 z5b 7 .non _ _ _ rfl, e6, Res.then_nx, x_nil]
theorem law_true (ns : List Int) (hl : ns.length ≤ 63) (_ : ∀ z ∈ ns, Builtin.Int.intBits z ≤ 1048576) : ∃ d, d ≤ 20 ∧ run prg.P d .law_ [.scr (ns.map .int)] [] = .ok (.bl true) [] :=
  ⟨10, by omega, pens_of law_body rfl rfl (by omega) 8 ns hl fun c y3 v m l i o a b e => turn _ c y3 v m l i o a b e⟩
end Law

open PySem PySem.W PySem.Calls PyProof.Rows
theorem PySem.Challenge.cw_fadewalk_k43_slips_looked_at_holds : PySem.Challenge.rw_fadewalk_k43_slips_looked_at.Holds := by
  w_on; o_law
  refine HandSHeadRun.head_any (r := OpenLaw.row PySem.Challenge.rw_fadewalk_k43_slips_looked_at) (q := view (OpenLaw.row PySem.Challenge.rw_fadewalk_k43_slips_looked_at).prog [29]) (H := Law.hk) (ob := Law.ob) (M := 4000) (loose := ["_wall", "FadeError", "BadWalk", "is_whole", "is_from_to", "MOST_PLACES", "are_weights", "are_rows", "Walk", "LEAST_ROUND", "round_weight", "is_slip", "_law_cell_at", "_law_next", "_law_pen_of", "_law_draw", "_law_rows", "_law_odd", "_law_bent", "_law_whole", "_law_product", "_law_is_slip", "_law_round"]) (d := HandSHeadRun.topDef (OpenLaw.row PySem.Challenge.rw_fadewalk_k43_slips_looked_at).prog 29) (kwd := []) Law.ob_eq
    (by kernel_rfl) (fun s => by kernel_rfl) Law.run_eq (by kernel_rfl) (by kernel_rfl) (by kernel_rfl) (by rfl) (by first | assumption | decide +kernel) (by decide +kernel) ⟨rfl, rfl, rfl, rfl, rfl, by decide +kernel⟩ ?hw ?hc
  case hw => w_witness2
  case hc =>
    refine Fw.walk_end (l := PySem.Challenge.rw_fadewalk_k43_slips_looked_at) (p := Law.prg) (f := .law_) (x := "_law_script") rfl (by kernel_rfl) Law.prg_ok Law.cl_ok rfl rfl ?hY Law.law_true
    intro w mg fa h Y G hmg0
    obtain ⟨K, KX, c, cx⟩ := Y
    have hmg : mg ("law" : PySem.Str) = some (.ref fa) := by
      have e : (HandSHeadRun.topDef (OpenLaw.row PySem.Challenge.rw_fadewalk_k43_slips_looked_at).prog 29).name = ("law" : PySem.Str) := by kernel_rfl
      rw [← e]
      exact hmg0
    exact ⟨K, KX, hmg, Law.laid KX G c cx, fun s u => L2.FunD.bindsA (ps := ["_law_script"]) ((Law.laid KX G c cx).def_ .law_) (fun _ _ _ _ _ _ us hl => match us, hl with | [_], _ => rfl) s [u] rfl⟩
