import PyProof.Rows.All
import Wide.All
import OpenK.AllK
import Wide.FinOn
import HandS.ForMost
import HandS.ForExc
import HandS.CallSlots
import HandS.Style
import HandS.IsInst
import HandS.Wide
import HandS.Exc
import HandS.HeadHook2
import HandS.TupAny
import HandS.ExcIs
import KE.KTupSum
import HandS.Defaults
import HandS.ExcOwn
import HandS.EndBits
import HandS.Head0
import HandS.Head1
import HandS.Head2
import PyProof.StrLawsRepr
import PyProof.FitsInt
import HandS.Words
import HandS.HeadHook1
import PySem.Challenge.RW_fadewalk_k02_fractions_refused
set_option Elab.async false
set_option linter.all false
set_option maxRecDepth 100000
set_option autoImplicit false
/-! ## Fw0: values, a small heap, a small language and what it computes -/
namespace Fw
open PySem

/-- a raised one: its class, all classes that it is of, its fields -/
structure Exc where
  cls : Str
  sups : List Str
  fs : List (Str × Int) := []
  deriving DecidableEq, Inhabited
/-- a value: what is never changed stands whole, what is changed by its place (level, number) -/
inductive D where
  | non | bl (b : Bool) | int (i : Int) | str (x : Str)
  | tup (xs : List D) | lst (xs : List D)
  | ref (l i : Nat)
  /-- a dict that nobody changes; a caught exception -/
  | dct (ks : List Int) (xs : List D)
  /-- the script: a list that is read alone -/
  | scr (xs : List D)
  | exc (x : Exc)
  deriving Inhabited

/-- an object that is changed -/
inductive MO where
  | lst (xs : List D)
  deriving Inhabited

/-- the frames' objects, the running frame's first -/
abbrev MH := List (List MO)

def get : MH → Nat → Nat → Option MO
  | [], _, _ => none
  | fr :: r, l, i => if l = r.length then fr[i]? else get r l i
def put : MH → Nat → Nat → MO → MH
  | [], _, _, _ => []
  | fr :: r, l, i, o => if l = r.length then fr.set i o :: r else fr :: put r l i o

inductive Res (α : Type) where
  | ok (a : α) (m : MH)
  | exc (x : Exc) (m : MH)
  | fail
def Res.bind {α β : Type} (r : Res α) (f : α → MH → Res β) : Res β :=
  match r with
  | .ok a m => f a m
  | .exc x m => .exc x m
  | .fail => .fail
@[simp] theorem Res.bind_ok {α β : Type} (a : α) (m : MH) (f : α → MH → Res β) : (Res.ok a m).bind f = f a m := rfl
@[simp] theorem Res.bind_exc {α β : Type} (x : Exc) (m : MH) (f : α → MH → Res β) : (Res.exc x m).bind f = .exc x m := rfl
@[simp] theorem Res.bind_fail {α β : Type} (f : α → MH → Res β) : (Res.fail : Res α).bind f = .fail := rfl
/-- where nothing may be raised -/
def Res.nox {α : Type} (r : Res α) : Res α := match r with
  | .exc _ _ => .fail
  | r => r
@[simp] theorem Res.nox_ok {α : Type} (a : α) (m : MH) : (Res.ok a m).nox = .ok a m := rfl
/-- a thing that may not be there -/
def Res.of {α : Type} (o : Option α) (m : MH) : Res α := match o with
  | some a => .ok a m
  | none => .fail
@[simp] theorem Res.of_some {α : Type} (a : α) (m : MH) : Res.of (some a) m = .ok a m := rfl
@[simp] theorem Res.of_none {α : Type} (m : MH) : (Res.of none m : Res α) = .fail := rfl

/-! ### levels -/
mutual
/-- all places within stand below level n -/
def D.bd (n : Nat) : D → Bool
  | .ref l _ => decide (l < n)
  | .tup xs => bdL n xs
  | .lst xs => bdL n xs
  | .dct _ xs => bdL n xs
  | .scr xs => bdL n xs
  | .exc _ => false
  | _ => true
def bdL (n : Nat) : List D → Bool
  | [] => true
  | x :: xs => x.bd n && bdL n xs
end
def MO.bd (n : Nat) : MO → Bool
  | .lst xs => bdL n xs

/-- a new object of the running frame -/
def alloc (m : MH) (o : MO) : Res D := match m with
  | fr :: r => if o.bd (r.length + 1) then .ok (.ref r.length fr.length) ((fr ++ [o]) :: r) else .fail
  | [] => .fail

/-! ### numbers' sizes -/
def nb (i : Int) : Nat := if i == 0 then 0 else i.natAbs.log2 + 1

/-! ### the language -/
inductive Op2 where
  | add | sub | mul | fdiv | mod | pow
  deriving DecidableEq
inductive Cm where
  | eq | ne | lt | le | gt | ge | is_ | isnot
  deriving DecidableEq
inductive Lit where
  | non | bl (b : Bool) | int (i : Int) | str (x : Str)
  deriving DecidableEq
inductive Bi where
  | len | abs | min | max | repr | sum | all | any | tuple | list | sorted | int
  deriving DecidableEq
inductive Ty where
  | int | bool | tuple | list | str
  deriving DecidableEq

/-- a comprehension's target -/
inductive Pt where
  | name (i : Nat)
  | nil | cons (a b : Pt)
  | tup (n : Nat) (ts : Pt)

inductive E (ι : Type) where
  | lit (c : Lit)
  | var (i : Nat)
  | nil | cons (a b : E ι)
  | tup (es : E ι) | lst (es : E ι) | new (es : E ι)
  | bin (o : Op2) (a b : E ι)
  | neg (a : E ι)
  | cmp (o : Cm) (a b : E ι)
  | and (a b : E ι) | or (a b : E ι) | not (a : E ι)
  | ite (c a b : E ι)
  | call (f : ι) (es : E ι)
  | bi (b : Bi) (es : E ι)
  | isi (a : E ι) (t : Ty)
  | idx (a i : E ι)
  | app (a b : E ι)
  | rng1 (a : E ι) | rng2 (a b : E ι)
  | chain (o o2 : Cm) (a b c : E ι)
  /-- a[lo:hi]; nil: left out -/
  | sl (a lo hi : E ι)
  | glob (x : Str) (i : Int)
  | dlit (ks vs : List Int)
  /-- [e for t in it if c]; c nil: no test; own: the block's own slots; mu: it will be changed -/
  | lc (mu : Bool) (own : List (Str × Nat)) (t : Pt) (it c e : E ι)
  /-- isinstance(e, X) of a caught exception -/
  | isE (a : E ι) (x : Str)
  /-- a place that is never reached -/
  | bad

inductive T (ι : Type) where
  | name (i : Nat)
  | nil | cons (a b : T ι)
  | tup (n : Nat) (ts : T ι)
  | sub (o i : E ι)

inductive S (ι : Type) where
  | nil | cons (a b : S ι)
  | pass
  | asg (t : T ι) (e : E ι)
  | par (i j : Nat) (es : E ι)
  | exp (e : E ι)
  | ret (e : E ι) | retN
  | ifs (c : E ι) (a b : S ι)
  | whl (c : E ι) (b : S ι)
  | for_ (t : T ι) (it : E ι) (b : S ι)
  | setLc (i : Nat) (e : E ι)
  | raise (x : Str) (sups : List Str)
  | tryE (x : Str) (i : Nat) (a b : S ι)
  /-- a place that is never reached -/
  | bad

/-! ### what an operation gives -/
def arithI (o : Op2) (x y : D) (m : MH) : Res D := match x, y with
  | .int a, .int b => (match o with
    | .add => .ok (.int (a + b)) m
    | .sub => .ok (.int (a - b)) m
    | .mul => if a.natAbs.log2 + b.natAbs.log2 < 1000000 then .ok (.int (a * b)) m else .fail
    | .fdiv => if 0 < b ∧ b.natAbs.log2 < 9000 then .ok (.int (a / b)) m else .fail
    | .mod => if 0 < b then .ok (.int (a % b)) m else .fail
    | .pow => if 0 ≤ b ∧ b ≤ 1000000 ∧ a.natAbs < 2 ^ 64 then .ok (.int (a ^ b.toNat)) m else .fail)
  | _, _ => .fail

/-! ### data -/
mutual
/-- a value without places as data -/
def pd : D → Option PyData
  | .non => some .none
  | .bl b => some (.bool b)
  | .int i => some (.int i)
  | .str x => some (.str x)
  | .tup xs => (pdL xs).map .tuple
  | .lst xs => (pdL xs).map .list
  | .ref _ _ => none
  | .dct ks xs => (pdL xs).map fun ds => .dict ((ks.map .int).zip ds)
  | .scr xs => (pdL xs).map .list
  | .exc _ => none
def pdL : List D → Option (List PyData)
  | [] => some []
  | x :: xs => match pd x, pdL xs with
    | some a, some b => some (a :: b)
    | _, _ => none
end
/-- a value, or a changed list of such, as data -/
def dat (m : MH) (d : D) : Option PyData := match d with
  | .ref l i => (match get m l i with
    | some (.lst xs) => (pdL xs).map .list
    | _ => none)
  | d => pd d
def strs2 : D → D → Option Bool
  | .str a, .str b => some (decide (a = b))
  | _, _ => none
def eqS (m : MH) (x y : D) : Option Bool := match dat m x, dat m y with
  | some a, some b => if SeqAt.shaped a && SeqAt.shaped b then some (PyData.eqv a b) else none
  | _, _ => none
def eqD (m : MH) (x y : D) : Option Bool := match strs2 x y with
  | some k => some k
  | none => eqS m x y
mutual
/-- no list in it -/
def noList : PyData → Bool
  | .list _ => false
  | .tuple xs => noListAll xs
  | .dict kvs => noListKv kvs
  | _ => true
def noListAll : List PyData → Bool
  | [] => true
  | x :: xs => noList x && noListAll xs
def noListKv : List (PyData × PyData) → Bool
  | [] => true
  | (_, v) :: r => noList v && noListKv r
end
def reprD (m : MH) (x : D) : Option Str := match dat m x with
  | some a => if a.showable && (!a.hasDict || noList a) && decide (a.depth ≤ 60) && decide (a.shown.length ≤ sizeLine) then some a.shown else none
  | none => none
/-- the items of a list or tuple -/
def seqOf (m : MH) (d : D) : Option (List D) := match d with
  | .tup xs => some xs
  | .lst xs => some xs
  | .scr xs => some xs
  | .ref l i => (match get m l i with
    | some (.lst xs) => some xs
    | _ => none)
  | _ => none
/-- of a list alone -/
def lstOf (m : MH) (d : D) : Option (List D) := match d with
  | .tup _ => none
  | .scr _ => none
  | d => seqOf m d
def intsOf : List D → Option (List Int)
  | [] => some []
  | .int i :: r => (intsOf r).map (i :: ·)
  | _ :: _ => none
def blsOf : List D → Option (List Bool)
  | [] => some []
  | .bl b :: r => (blsOf r).map (b :: ·)
  | _ :: _ => none
/-- an item's place -/
abbrev place (n : Nat) (i : Int) : Option Nat := L2.ixN n i
def truth (m : MH) (d : D) : Option Bool := match d with
  | .bl b => some b
  | _ => none
def cmpI (o : Cm) (a b : Int) : Option Bool := match o with
  | .lt => some (decide (a < b))
  | .le => some (decide (a ≤ b))
  | .gt => some (decide (b < a))
  | .ge => some (decide (b ≤ a))
  | _ => none
def isNon : D → Bool
  | .non => true
  | _ => false
def compare (m : MH) (o : Cm) (x y : D) : Option Bool := match o with
  | .eq => eqD m x y
  | .ne => (eqD m x y).map (!·)
  | .is_ => if isNon y then some (isNon x) else none
  | .isnot => if isNon y then some (!isNon x) else none
  | o => (match x, y with
    | .int a, .int b => cmpI o a b
    | _, _ => none)
def isTy (m : MH) (t : Ty) (d : D) : Bool := match t, d with
  | .int, .int _ => true
  | .int, .bl _ => true
  | .bool, .bl _ => true
  | .str, .str _ => true
  | .tuple, .tup _ => true
  | .list, .lst _ => true
  | .list, .scr _ => true
  | .list, .ref l i => (match get m l i with
    | some (.lst _) => true
    | _ => false)
  | _, _ => false
/-- does the type of a thing show? -/
def tyKnown (m : MH) (d : D) : Bool := match d with
  | .exc _ => false
  | .ref l i => (match get m l i with
    | some (.lst _) => true
    | _ => false)
  | _ => true
def maxI : List Int → Int
  | [] => 0
  | x :: xs => xs.foldl (fun a b => if b > a then b else a) x
def minI : List Int → Int
  | [] => 0
  | x :: xs => xs.foldl (fun a b => if b < a then b else a) x
def int2 (f : Int → Int → Int) (x y : D) : Option D := match x, y with
  | .int i, .int j => some (.int (f i j))
  | _, _ => none
def int1 (f : Int → Int) (x : D) : Option D := match x with
  | .int i => some (.int (f i))
  | _ => none
def lenD (m : MH) (x : D) : Option D := match x with
  | .str s => if s.length ≤ sizeLine then some (.int s.length) else none
  | x => (seqOf m x).map fun l => .int l.length
def ints1 (m : MH) (f : List Int → Int) (x : D) : Option D := (lstOf m x).bind fun l => (intsOf l).bind fun ns => if ns = [] then none else some (.int (f ns))
def sumD (m : MH) (x : D) : Option D := (seqOf m x).bind fun l => (intsOf l).map fun ns => .int ns.sum
def bls1 (m : MH) (f : List Bool → Bool) (x : D) : Option D := (lstOf m x).bind fun l => (blsOf l).map fun bs => .bl (f bs)
def built (b : Bi) (xs : List D) (m : MH) : Option D := match xs with
  | [x] => (match b with
    | .len => lenD m x
    | .abs => int1 (fun i => if i < 0 then -i else i) x
    | .min => ints1 m minI x
    | .max => ints1 m maxI x
    | .repr => (reprD m x).map .str
    | .sum => sumD m x
    | .all => bls1 m (fun bs => bs.all id) x
    | .any => bls1 m (fun bs => bs.any id) x
    | .tuple => (seqOf m x).map .tup
    | .list => (seqOf m x).map .lst
    | .int => (match x with
      | .bl b => some (.int (if b then 1 else 0))
      | .int i => some (.int i)
      | _ => none)
    | .sorted => none)
  | [x, y] => (match b with
    | .min => int2 (fun i j => if j < i then j else i) x y
    | .max => int2 (fun i j => if j > i then j else i) x y
    | _ => none)
  | _ => none

/-- tuples, lists put together, repeated -/
def seqOp (o : Op2) (x y : D) (m : MH) : Option D := match o with
  | .add => (match x, y with
    | .tup xs, .tup ys => if xs.length + ys.length ≤ sizeLine then some (.tup (xs ++ ys)) else none
    | x, y => (lstOf m x).bind fun xs => (lstOf m y).bind fun ys => if xs.length + ys.length ≤ sizeLine then some (.lst (xs ++ ys)) else none)
  | .mul => (match y with
    | .int k => (lstOf m x).bind fun xs => if (-(2 ^ 63) ≤ k ∧ k < 2 ^ 63) ∧ xs.length * k.toNat ≤ sizeLine then some (.lst (List.replicate k.toNat xs).flatten) else none
    | _ => none)
  | _ => none
def isInt2 : D → D → Bool
  | .int _, .int _ => true
  | _, _ => false
def arith (o : Op2) (x y : D) (m : MH) : Res D := if isInt2 x y then arithI o x y m else .of (seqOp o x y m) m
/-- a part of a list, a tuple -/
def cut (xs : List D) (lo hi : Option Int) : List D := (xs.drop (HT.sIx xs.length 0 lo)).take (HT.sIx xs.length xs.length hi - HT.sIx xs.length 0 lo)
def slD (m : MH) (x : D) (lo hi : Option Int) : Option D := match x with
  | .tup xs => some (.tup (cut xs lo hi))
  | x => (lstOf m x).map fun xs => .lst (cut xs lo hi)
def isED (x : Str) : D → Option D
  | .exc z => some (.bl (decide (x ∈ z.sups)))
  | _ => none
abbrev Env := List (Option D)
def ptg : Pt → (D → Env → Option Env) × (List D → Env → Option Env)
  | .name i => (fun d v => if i < v.length then some (v.set i (some d)) else none, fun _ _ => none)
  | .nil => (fun _ _ => none, fun ds v => match ds with
    | [] => some v
    | _ => none)
  | .cons a b => (fun _ _ => none, fun ds v => match ds with
    | d :: r => ((ptg a).1 d v).bind fun v => (ptg b).2 r v
    | _ => none)
  | .tup n ts => (fun d v => (match d with
    | .tup xs => if xs.length = n then (ptg ts).2 xs v else none
    | _ => none), fun _ _ => none)
/-- a block's own slots are empty at first -/
def wipeE (v : Env) : List Nat → Env
  | [] => v
  | i :: is => (wipeE v is).set i none
def Env.at_ (e : Env) (i : Nat) : Option D := (e[i]?).getD none
/-- what a loop walks: items that stay, a list as it stands at each turn -/
inductive Wk where
  | items (xs : List D)
  | live (l i n : Nat)
/-- what the i-th turn meets -/
def stepW (w : Wk) (i : Nat) (m : MH) : Option (Option D) := match w with
  | .items xs => some xs[i]?
  | .live l j _ => (match get m l j with
    | some (.lst ys) => some ys[i]?
    | _ => none)
def lenW : Wk → Nat
  | .items xs => xs.length
  | .live _ _ n => n
/-- a comprehension's turns from the i-th on, k at most -/
def lcW (tg : D → Env → Option Env) (c : Env → MH → Res Bool) (e : Env → MH → Res D) (v : Env) (w : Wk) : Nat → Nat → MH → Res (List D)
  | 0, _, _ => .fail
  | k + 1, i, m => (match stepW w i m with
    | none => .fail
    | some none => .ok [] m
    | some (some x) => (match tg x v with
      | none => .fail
      | some v' => (c v' m).bind fun t m => if t then (e v' m).bind fun y m => (lcW tg c e v w k (i + 1) m).bind fun ys m => .ok (y :: ys) m else lcW tg c e v w k (i + 1) m))
/-- an expression, a list of such, a test, what is walked -/
structure Sm where
  e : Env → MH → Res D
  l : Env → MH → Res (List D) := fun _ _ => .fail
  /-- a slice's part; a comprehension's test (nil: none) -/
  o : Env → MH → Res (Option Int) := fun v m => (e v m).bind fun x m => (match x with
    | .int i => .ok (some i) m
    | _ => .fail)
  t : Env → MH → Res Bool := fun v m => (e v m).bind fun x m => .of (truth m x) m
  w : Env → MH → Res Wk := fun v m => (e v m).bind fun x m => (match x with
    | .tup xs => .ok (.items xs) m
    | .lst xs => .ok (.items xs) m
    | .scr xs => .ok (.items xs) m
    | .ref l i => (match get m l i with
      | some (.lst xs) => .ok (.live l i xs.length) m
      | _ => .fail)
    | _ => .fail)

def litD : Lit → D
  | .non => .non
  | .bl b => .bl b
  | .int i => .int i
  | .str x => .str x
def getAt (m : MH) (x y : D) : Option D := match y with
  | .int k => (seqOf m x).bind fun l => (place l.length k).bind fun n => l[n]?
  | _ => none
def setAt (x i y : D) (m : MH) : Res Unit := match x, i with
  | .ref l a, .int k => (match get m l a with
    | some (.lst xs) => (match place xs.length k with
      | some n => if y.bd (l + 1) then .ok () (put m l a (.lst (xs.set n y))) else .fail
      | none => .fail)
    | _ => .fail)
  | _, _ => .fail
/-- a list that is changed? -/
def isL (m : MH) (x : D) : Bool := match x with
  | .ref l i => (match get m l i with
    | some (.lst _) => true
    | _ => false)
  | _ => false
def append (x y : D) (m : MH) : Res D := match x with
  | .ref l i => (match get m l i with
    | some (.lst xs) => if y.bd (l + 1) && decide (xs.length < sizeLine) then .ok .non (put m l i (.lst (xs ++ [y]))) else .fail
    | _ => .fail)
  | _ => .fail
def rangeD (a b : Int) : List D := (List.range (b - a).toNat).map fun (k : Nat) => D.int (a + (k : Int))

section
variable {ι : Type} (call : ι → List D → MH → Res D)
def sem : E ι → Sm
  | .lit c => { e := fun _ m => .ok (litD c) m }
  | .var i => { e := fun v m => .of (v.at_ i) m }
  | .nil => { e := fun _ _ => .fail, l := fun _ m => .ok [] m, o := fun _ m => .ok none m, t := fun _ m => .ok true m }
  | .cons a b => { e := fun _ _ => .fail, l := fun v m => ((sem a).e v m).bind fun x m => ((sem b).l v m).bind fun xs m => .ok (x :: xs) m }
  | .tup es => { e := fun v m => ((sem es).l v m).bind fun xs m => if xs.length ≤ sizeLine then .ok (.tup xs) m else .fail }
  | .lst es => { e := fun v m => ((sem es).l v m).bind fun xs m => if xs.length ≤ sizeLine then .ok (.lst xs) m else .fail }
  | .new es => { e := fun v m => ((sem es).l v m).bind fun xs m => if xs.length ≤ sizeLine then alloc m (.lst xs) else .fail }
  | .bin o a b => { e := fun v m => ((sem a).e v m).bind fun x m => ((sem b).e v m).bind fun y m => arith o x y m }
  | .neg a => { e := fun v m => ((sem a).e v m).bind fun x m => (match x with
    | .int i => .ok (.int (-i)) m
    | _ => .fail) }
  | .cmp o a b => { e := fun v m => ((sem a).e v m).bind fun x m => ((sem b).e v m).bind fun y m => .of ((compare m o x y).map .bl) m }
  | .and a b => {
      e := fun v m => ((sem a).e v m).bind fun x m => (match x with
        | .bl true => (sem b).e v m
        | .bl false => .ok (.bl false) m
        | _ => .fail)
      t := fun v m => ((sem a).t v m).bind fun t m => if t then (sem b).t v m else .ok false m }
  | .or a b => {
      e := fun v m => ((sem a).e v m).bind fun x m => (match x with
        | .bl true => .ok (.bl true) m
        | .bl false => (sem b).e v m
        | _ => .fail)
      t := fun v m => ((sem a).t v m).bind fun t m => if t then .ok true m else (sem b).t v m }
  | .not a => {
      e := fun v m => ((sem a).e v m).bind fun x m => (match x with
        | .bl b => .ok (.bl (!b)) m
        | _ => .fail)
      t := fun v m => ((sem a).t v m).bind fun t m => .ok (!t) m }
  | .ite c a b => { e := fun v m => ((sem c).t v m).bind fun t m => if t then (sem a).e v m else (sem b).e v m, t := fun _ _ => .fail }
  | .call f es => { e := fun v m => ((sem es).l v m).bind fun xs m => call f xs m }
  | .bi b es => { e := fun v m => ((sem es).l v m).bind fun xs m => .of (built b xs m) m }
  | .isi a t => { e := fun v m => ((sem a).e v m).bind fun x m => if tyKnown m x then .ok (.bl (isTy m t x)) m else .fail }
  | .idx a i => { e := fun v m => ((sem a).e v m).bind fun x m => ((sem i).e v m).bind fun y m => .of (getAt m x y) m }
  | .app a b => { e := fun v m => ((sem a).e v m).bind fun x m => if isL m x then ((sem b).e v m).bind fun y m => append x y m else .fail }
  | .rng1 a => { e := fun _ _ => .fail, w := fun v m => ((sem a).e v m).bind fun x m => (match x with
    | .int n => if -(2 ^ 62) ≤ n ∧ n < 2 ^ 62 then .ok (.items (rangeD 0 n)) m else .fail
    | _ => .fail) }
  | .rng2 a b => { e := fun _ _ => .fail, w := fun v m => ((sem a).e v m).bind fun x m => ((sem b).e v m).bind fun y m => (match x, y with
    | .int i, .int n => if (-(2 ^ 62) ≤ i ∧ i < 2 ^ 62) ∧ (-(2 ^ 62) ≤ n ∧ n < 2 ^ 62) then .ok (.items (rangeD i n)) m else .fail
    | _, _ => .fail) }
  | .chain o o2 a b c => { e := fun v m => ((sem a).e v m).bind fun x m => ((sem b).e v m).bind fun y m => (Res.of (compare m o x y) m).bind fun t m => if t then ((sem c).e v m).bind fun z m => .of ((compare m o2 y z).map .bl) m else .ok (.bl false) m }
  | .sl a lo hi => { e := fun v m => ((sem a).e v m).bind fun x m => ((sem lo).o v m).bind fun l m => ((sem hi).o v m).bind fun h m => .of (slD m x l h) m }
  | .glob _ i => { e := fun _ m => .ok (.int i) m }
  | .dlit ks vs => { e := fun _ m => .ok (.dct ks (vs.map .int)) m }
  | .lc mu own t it c e => { e := fun v m => ((sem it).w v m).bind fun w m => if lenW w ≤ sizeLine then (lcW (ptg t).1 (sem c).t (sem e).e (wipeE v (own.map (·.2))) w (lenW w + 1) 0 m).nox.bind fun ys m => if mu then alloc m (.lst ys) else .ok (.lst ys) m else .fail }
  | .isE a x => { e := fun v m => ((sem a).e v m).bind fun y m => .of (isED x y) m }
  | .bad => { e := fun _ _ => .fail, t := fun _ _ => .fail, w := fun _ _ => .fail }
abbrev ev (e : E ι) (v : Env) (m : MH) : Res D := (sem call e).e v m
abbrev evs (e : E ι) (v : Env) (m : MH) : Res (List D) := (sem call e).l v m
abbrev tst (e : E ι) (v : Env) (m : MH) : Res Bool := (sem call e).t v m
abbrev evw (e : E ι) (v : Env) (m : MH) : Res Wk := (sem call e).w v m

/-! ### targets -/
structure Tm where
  g : D → Env → MH → Res Env
  gs : List D → Env → MH → Res Env := fun _ _ _ => .fail
def tgt : T ι → Tm
  | .name i => { g := fun d v m => if i < v.length then .ok (v.set i (some d)) m else .fail }
  | .nil => { g := fun _ _ _ => .fail, gs := fun ds v m => (match ds with
    | [] => .ok v m
    | _ => .fail) }
  | .cons a b => { g := fun _ _ _ => .fail, gs := fun ds v m => (match ds with
    | d :: r => ((tgt a).g d v m).bind fun v m => (tgt b).gs r v m
    | _ => .fail) }
  | .tup n ts => { g := fun d v m => (match d with
    | .tup xs => if xs.length = n then (tgt ts).gs xs v m else .fail
    | _ => .fail) }
  | .sub o i => { g := fun d v m => (ev call o v m).bind fun x m => (ev call i v m).bind fun y m => (setAt x y d m).bind fun _ m => .ok v m }

/-! ### statements -/
inductive Fl where
  | nx (v : Env)
  | rt (d : D)
  | ex (x : Exc) (v : Env)
/-- an expression's answer in a statement -/
def Res.st {α : Type} (r : Res α) (v : Env) (f : α → MH → Res Fl) : Res Fl := match r with
  | .ok a m => f a m
  | .exc x m => .ok (.ex x v) m
  | .fail => .fail
@[simp] theorem Res.st_ok {α : Type} (a : α) (m : MH) (v : Env) (f : α → MH → Res Fl) : (Res.ok a m).st v f = f a m := rfl
@[simp] theorem Res.st_exc {α : Type} (x : Exc) (m : MH) (v : Env) (f : α → MH → Res Fl) : (Res.exc x m : Res α).st v f = .ok (.ex x v) m := rfl
@[simp] theorem Res.st_fail {α : Type} (v : Env) (f : α → MH → Res Fl) : (Res.fail : Res α).st v f = .fail := rfl
/-- a target's answer: none raises -/
def Res.tg (r : Res Env) (f : Env → MH → Res Fl) : Res Fl := match r with
  | .ok v m => f v m
  | _ => .fail
@[simp] theorem Res.tg_ok (v : Env) (m : MH) (f : Env → MH → Res Fl) : (Res.ok v m).tg f = f v m := rfl
/-- a turn and the next -/
def Res.then_ (r : Res Fl) (f : Env → MH → Res Fl) : Res Fl := match r with
  | .ok (.nx v) m => f v m
  | .ok fl m => .ok fl m
  | _ => .fail
@[simp] theorem Res.then_nx (v : Env) (m : MH) (f : Env → MH → Res Fl) : (Res.ok (.nx v) m).then_ f = f v m := rfl
@[simp] theorem Res.then_rt (d : D) (m : MH) (f : Env → MH → Res Fl) : (Res.ok (.rt d) m).then_ f = .ok (.rt d) m := rfl
@[simp] theorem Res.then_ex (x : Exc) (v : Env) (m : MH) (f : Env → MH → Res Fl) : (Res.ok (.ex x v) m).then_ f = .ok (.ex x v) m := rfl
@[simp] theorem Res.then_fail (f : Env → MH → Res Fl) : (Res.fail : Res Fl).then_ f = .fail := rfl

def forL (g : D → Env → MH → Res Env) (b : Env → MH → Res Fl) : List D → Env → MH → Res Fl
  | [], v, m => .ok (.nx v) m
  | x :: xs, v, m => (g x v m).tg fun v m => (b v m).then_ fun v m => forL g b xs v m
def forN (g : D → Env → MH → Res Env) (b : Env → MH → Res Fl) (l i n : Nat) : Nat → Env → MH → Res Fl
  | 0, v, m => (match get m l i with
    | some (.lst xs) => if xs.length = n then .ok (.nx v) m else .fail
    | _ => .fail)
  | k + 1, v, m => (match get m l i with
    | some (.lst xs) => (match xs[n - (k + 1)]? with
      | some x => (g x v m).tg fun v m => (b v m).then_ fun v m => forN g b l i n k v m
      | none => .fail)
    | _ => .fail)
/-- at most k turns -/
def whlN (c : Env → MH → Res Bool) (b : Env → MH → Res Fl) : Nat → Env → MH → Res Fl
  | 0, _, _ => .fail
  | k + 1, v, m => (c v m).st v fun t m => if t then (b v m).then_ fun v m => whlN c b k v m else .ok (.nx v) m
open Classical in
/-- as many turns as it takes -/
noncomputable def whl (c : Env → MH → Res Bool) (b : Env → MH → Res Fl) (v : Env) (m : MH) : Res Fl :=
  if h : ∃ k, whlN c b k v m ≠ .fail then whlN c b h.choose v m else .fail
mutual
/-- no exception in it -/
def noX : D → Bool
  | .tup xs => noXL xs
  | .lst xs => noXL xs
  | .scr xs => noXL xs
  | .dct _ xs => noXL xs
  | .exc _ => false
  | _ => true
def noXL : List D → Bool
  | [] => true
  | x :: xs => noX x && noXL xs
end
def noXE (v : Env) : Bool := v.all fun o => match o with
  | none => true
  | some d => noX d
/-- behind an except suite: its name is gone -/
def Res.gone (r : Res Fl) (i : Nat) : Res Fl := match r with
  | .ok (.nx v) m => if noXE (v.set i none) then .ok (.nx (v.set i none)) m else .fail
  | .ok (.rt d) m => if noX d then .ok (.rt d) m else .fail
  | _ => .fail
@[simp] theorem Res.gone_nx (v : Env) (m : MH) (i : Nat) : (Res.ok (.nx v) m).gone i = if noXE (v.set i none) then .ok (.nx (v.set i none)) m else .fail := rfl
@[simp] theorem Res.gone_rt (d : D) (m : MH) (i : Nat) : (Res.ok (.rt d) m).gone i = if noX d then .ok (.rt d) m else .fail := rfl
/-- try .. except x as i -/
def tryF (x : Str) (i : Nat) (r : Res Fl) (b : Env → MH → Res Fl) : Res Fl := match r with
  | .ok (.ex z v) m => if x ∈ z.sups then (if i < v.length then (b (v.set i (some (.exc z))) m).gone i else .fail) else .ok (.ex z v) m
  | .ok fl m => .ok fl m
  | _ => .fail
@[simp] theorem tryF_nx (x : Str) (i : Nat) (v : Env) (m : MH) (b : Env → MH → Res Fl) : tryF x i (.ok (.nx v) m) b = .ok (.nx v) m := rfl
@[simp] theorem tryF_rt (x : Str) (i : Nat) (d : D) (m : MH) (b : Env → MH → Res Fl) : tryF x i (.ok (.rt d) m) b = .ok (.rt d) m := rfl
@[simp] theorem tryF_ex (x : Str) (i : Nat) (z : Exc) (v : Env) (m : MH) (b : Env → MH → Res Fl) : tryF x i (.ok (.ex z v) m) b = if x ∈ z.sups then (if i < v.length then (b (v.set i (some (.exc z))) m).gone i else .fail) else .ok (.ex z v) m := rfl

noncomputable def exec : S ι → Env → MH → Res Fl
  | .nil, v, m => .ok (.nx v) m
  | .cons a b, v, m => (exec a v m).then_ fun v m => exec b v m
  | .pass, v, m => .ok (.nx v) m
  | .asg t e, v, m => (ev call e v m).st v fun x m => ((tgt call t).g x v m).tg fun v m => .ok (.nx v) m
  | .par i j es, v, m => (evs call es v m).st v fun xs m => (match xs with
    | [x, y] => if i < v.length ∧ j < v.length then .ok (.nx ((v.set i (some x)).set j (some y))) m else .fail
    | _ => .fail)
  | .exp e, v, m => (ev call e v m).st v fun _ m => .ok (.nx v) m
  | .ret e, v, m => (ev call e v m).st v fun x m => .ok (.rt x) m
  | .retN, _, m => .ok (.rt .non) m
  | .ifs c a b, v, m => (tst call c v m).st v fun t m => if t then exec a v m else exec b v m
  | .whl c b, v, m => whl (fun v m => tst call c v m) (fun v m => exec b v m) v m
  | .for_ t it b, v, m => (evw call it v m).st v fun w m => (match w with
    | .items xs => forL (fun x v m => (tgt call t).g x v m) (fun v m => exec b v m) xs v m
    | .live l i n => forN (fun x v m => (tgt call t).g x v m) (fun v m => exec b v m) l i n n v m)
  | .setLc i e, v, m => (ev call e v m).st v fun x m => if i < v.length then .ok (.nx (v.set i (some x))) m else .fail
  | .raise x sups, v, m => .ok (.ex ⟨x, sups, []⟩ v) m
  | .tryE x i a b, v, m => tryF x i (exec a v m) fun v m => exec b v m
  | .bad, _, _ => .fail
end

/-! ### defs -/
/-- a def: its parameters' number, its slots' number, its body -/
structure Fn (ι : Type) where
  np : Nat
  ns : Nat
  body : S ι
/-- a result leaves its frame: what it names of it is handed on -/
def leave (d : D) (m : MH) : Res D := match m with
  | fr :: r => (match d with
    | .ref l i => if l = r.length then (match fr[i]? with
        | some o => if o.bd r.length then alloc r o else .fail
        | none => .fail) else .ok d r
    | d => if d.bd r.length then .ok d r else .fail)
  | [] => .fail
def left (x : Res Fl) : Res D := match x with
  | .ok (.nx _) m => leave .non m
  | .ok (.rt d) m => leave d m
  | .ok (.ex x _) (_ :: r) => .exc x r
  | _ => .fail
/-- a def run, d calls deep at most -/
noncomputable def run {ι : Type} (P : ι → Fn ι) : Nat → ι → List D → MH → Res D
  | 0, _, _, _ => .fail
  | d + 1, f, xs, m =>
    if xs.length = (P f).np then
      left (exec (run P d) (P f).body (xs.map some ++ List.replicate ((P f).ns - (P f).np) none) ([] :: m))
    else .fail
end Fw

set_option Elab.async false
set_option linter.all false
set_option maxRecDepth 100000
set_option autoImplicit false
/-! ## Fw1: how the small heap stands in the abstract heap -/
namespace Fw
open PySem PySem.Spec PyProof.Rows L2

/-! ### the heap's own facts -/
theorem get_lt {m : MH} {l i : Nat} {o : MO} (h : get m l i = some o) : l < m.length := by
  induction m with
  | nil => simp [get] at h
  | cons fr r ih =>
    unfold get at h
    split at h
    · simp; omega
    · have := ih h; simp; omega
theorem get_put {m : MH} {l i : Nat} {o o' : MO} (h : get m l i = some o) (l' i' : Nat) :
    get (put m l i o') l' i' = if l' = l ∧ i' = i then some o' else get m l' i' := by
  induction m with
  | nil => simp [get] at h
  | cons fr r ih =>
    unfold get at h
    by_cases e : l = r.length
    · subst e
      simp only [if_true] at h
      have hi : i < fr.length := by
        rcases Nat.lt_or_ge i fr.length with q | q
        · exact q
        · rw [List.getElem?_eq_none q] at h; cases h
      simp only [put, if_true, get]
      by_cases e2 : l' = r.length
      · simp only [e2, if_true, true_and]
        by_cases e3 : i' = i
        · simp [e3, hi]
        · simp [e3, Ne.symm e3]
      · simp [e2]
    · rw [if_neg e] at h
      have hl := get_lt h
      have hlen : (put r l i o').length = r.length := by
        clear ih h hl e
        induction r with
        | nil => rfl
        | cons a b ih => unfold put; split <;> simp [*]
      simp only [put, if_neg e, get, hlen]
      by_cases e2 : l' = r.length
      · have : l' ≠ l := by omega
        simp [e2, if_pos, this]
        intro q; omega
      · simp only [if_neg e2]
        exact ih h
theorem put_length (m : MH) (l i : Nat) (o : MO) : (put m l i o).length = m.length := by
  induction m with
  | nil => rfl
  | cons a b ih => unfold put; split <;> simp [*]
theorem get_cons {fr : List MO} {r : MH} {l i : Nat} : get (fr :: r) l i = if l = r.length then fr[i]? else get r l i := rfl
theorem get_snoc {fr : List MO} {r : MH} {o : MO} {l i : Nat} : get ((fr ++ [o]) :: r) l i = if l = r.length ∧ i = fr.length then some o else get (fr :: r) l i := by
  simp only [get]
  by_cases e : l = r.length
  · subst e
    simp only [if_true, true_and]
    rcases Nat.lt_trichotomy i fr.length with q | q | q
    · rw [List.getElem?_append_left q, if_neg (by omega)]
    · subst q; simp
    · rw [List.getElem?_eq_none (by simp; omega), List.getElem?_eq_none (by omega), if_neg (by omega)]
  · simp [e]

/-! ### values -/
/-- the written part, and which exception stands where (in an except suite) -/
structure KX where
  k : PySem.W.Frag
  ex : Exc → Addr → Prop
abbrev Ro := Nat → Nat → Addr
abbrev Lv (m : MH) (l i : Nat) : Prop := (get m l i).isSome = true
mutual
def Rep (K : KX) (F : Hp) (ρ : Ro) (m : MH) : D → V → Prop
  | .non, v => v = .non
  | .bl b, v => v = .bl b
  | .int i, v => v = .int i
  | .str x, v => v = .str x
  | .tup xs, v => ∃ a vs, v = .ref a ∧ SqT K.k F a vs ∧ xs.length ≤ sizeLine ∧ RepL K F ρ m xs vs
  | .lst xs, v => ∃ a vs, v = .ref a ∧ F a = some (.lst vs) ∧ xs.length ≤ sizeLine ∧ RepL K F ρ m xs vs
  | .scr xs, v => ∃ a vs, v = .ref a ∧ SqL K.k F a vs ∧ xs.length ≤ sizeLine ∧ RepL K F ρ m xs vs
  | .ref l i, v => v = .ref (ρ l i) ∧ Lv m l i
  | .dct ks xs, v => ∃ a vs, v = .ref a ∧ F a = some (.dK ((ks.map Sum.inl).zip vs)) ∧ ks.length = xs.length ∧ RepL K F ρ m xs vs
  | .exc x, v => ∃ a, v = .ref a ∧ K.ex x a
def RepL (K : KX) (F : Hp) (ρ : Ro) (m : MH) : List D → List V → Prop
  | [], vs => vs = []
  | x :: xs, vs => ∃ v r, vs = v :: r ∧ Rep K F ρ m x v ∧ RepL K F ρ m xs r
end

/-- a later state: more is fixed, places stay -/
structure Ext (F : Hp) (ρ : Ro) (m : MH) (F' : Hp) (ρ' : Ro) (m' : MH) : Prop where
  f : ∀ a o, F a = some o → F' a = some o
  r : ∀ l i, Lv m l i → ρ' l i = ρ l i ∧ Lv m' l i
theorem Ext.refl {F : Hp} {ρ : Ro} {m : MH} : Ext F ρ m F ρ m := ⟨fun _ _ h => h, fun _ _ h => ⟨rfl, h⟩⟩
theorem Ext.trans {F F1 F2 : Hp} {ρ ρ1 ρ2 : Ro} {m m1 m2 : MH} (a : Ext F ρ m F1 ρ1 m1) (b : Ext F1 ρ1 m1 F2 ρ2 m2) : Ext F ρ m F2 ρ2 m2 :=
  ⟨fun x o h => b.f x o (a.f x o h), fun l i h => by
    obtain ⟨e, h1⟩ := a.r l i h
    obtain ⟨e2, h2⟩ := b.r l i h1
    exact ⟨e2.trans e, h2⟩⟩
theorem SqT.ext {K : KX} {F F' : Hp} (h : ∀ a o, F a = some o → F' a = some o) {a : Addr} {vs : List V} (q : SqT K.k F a vs) : SqT K.k F' a vs := by
  rcases q with (q | ⟨o, q⟩) | q
  · exact .inl (.inl (h _ _ q))
  · exact .inl (.inr ⟨o, h _ _ q⟩)
  · exact .inr q
theorem SqL.ext {K : KX} {F F' : Hp} (h : ∀ a o, F a = some o → F' a = some o) {a : Addr} {vs : List V} (q : SqL K.k F a vs) : SqL K.k F' a vs := by
  rcases q with (q | ⟨o, q⟩) | q
  · exact .inl (.inl (h _ _ q))
  · exact .inl (.inr ⟨o, h _ _ q⟩)
  · exact .inr q
section
variable {K : KX} {F F' : Hp} {ρ ρ' : Ro} {m m' : MH}
mutual
theorem Rep.ext (x : Ext F ρ m F' ρ' m') : ∀ {d : D} {v : V}, Rep K F ρ m d v → Rep K F' ρ' m' d v
  | .non, _, h => h
  | .bl _, _, h => h
  | .int _, _, h => h
  | .str _, _, h => h
  | .tup xs, v, h => by
    unfold Rep at h ⊢
    obtain ⟨a, vs, e, q, z, r⟩ := h
    exact ⟨a, vs, e, SqT.ext x.f q, z, RepL.ext x r⟩
  | .lst xs, v, h => by
    unfold Rep at h ⊢
    obtain ⟨a, vs, e, q, z, r⟩ := h
    exact ⟨a, vs, e, x.f _ _ q, z, RepL.ext x r⟩
  | .scr xs, v, h => by
    unfold Rep at h ⊢
    obtain ⟨a, vs, e, q, z, r⟩ := h
    exact ⟨a, vs, e, SqL.ext x.f q, z, RepL.ext x r⟩
  | .ref l i, v, h => by
    unfold Rep at h ⊢
    obtain ⟨e, q⟩ := h
    obtain ⟨e2, q2⟩ := x.r l i q
    exact ⟨by rw [e, e2], q2⟩
  | .dct ks xs, v, h => by
    unfold Rep at h ⊢
    obtain ⟨a, vs, e, q, z, r⟩ := h
    exact ⟨a, vs, e, x.f _ _ q, z, RepL.ext x r⟩
  | .exc _, v, h => by
    unfold Rep at h ⊢
    exact h
theorem RepL.ext (x : Ext F ρ m F' ρ' m') : ∀ {ds : List D} {vs : List V}, RepL K F ρ m ds vs → RepL K F' ρ' m' ds vs
  | [], _, h => h
  | d :: ds, vs, h => by
    unfold RepL at h ⊢
    obtain ⟨v, r, e, h1, h2⟩ := h
    exact ⟨v, r, e, Rep.ext x h1, RepL.ext x h2⟩
end
theorem RepL.length : ∀ {ds : List D} {vs : List V}, RepL K F ρ m ds vs → ds.length = vs.length
  | [], _, h => by unfold RepL at h; subst h; rfl
  | d :: ds, vs, h => by
    unfold RepL at h
    obtain ⟨v, r, e, h1, h2⟩ := h
    subst e
    simp [RepL.length h2]
theorem RepL.get : ∀ {ds : List D} {vs : List V} {i : Nat} {d : D}, RepL K F ρ m ds vs → ds[i]? = some d → ∃ v, vs[i]? = some v ∧ Rep K F ρ m d v
  | [], _, _, _, _, e => by simp at e
  | d :: ds, vs, 0, x, h, e => by
    unfold RepL at h
    obtain ⟨v, r, rfl, h1, h2⟩ := h
    simp at e; subst e
    exact ⟨v, rfl, h1⟩
  | d :: ds, vs, i + 1, x, h, e => by
    unfold RepL at h
    obtain ⟨v, r, rfl, h1, h2⟩ := h
    obtain ⟨u, q, r'⟩ := RepL.get (i := i) (d := x) h2 (by simpa using e)
    exact ⟨u, by simpa using q, r'⟩
theorem RepL.set {x : D} {y : V} (hx : Rep K F ρ m x y) : ∀ {ds : List D} {vs : List V} (i : Nat), RepL K F ρ m ds vs → RepL K F ρ m (ds.set i x) (vs.set i y)
  | [], _, _, h => by unfold RepL at h; subst h; simp [RepL]
  | d :: ds, vs, 0, h => by
    unfold RepL at h
    obtain ⟨v, r, rfl, h1, h2⟩ := h
    simp only [List.set_cons_zero]
    unfold RepL
    exact ⟨y, r, rfl, hx, h2⟩
  | d :: ds, vs, i + 1, h => by
    unfold RepL at h
    obtain ⟨v, r, rfl, h1, h2⟩ := h
    simp only [List.set_cons_succ]
    unfold RepL
    exact ⟨v, _, rfl, h1, RepL.set hx i h2⟩
theorem RepL.append {ds es : List D} {vs us : List V} (h : RepL K F ρ m ds vs) (h' : RepL K F ρ m es us) : RepL K F ρ m (ds ++ es) (vs ++ us) := by
  induction ds generalizing vs with
  | nil => unfold RepL at h; subst h; exact h'
  | cons d ds ih =>
    unfold RepL at h
    obtain ⟨v, r, rfl, h1, h2⟩ := h
    simp only [List.cons_append]
    unfold RepL
    exact ⟨v, _, rfl, h1, ih h2⟩
theorem RepL.one {d : D} {v : V} (h : Rep K F ρ m d v) : RepL K F ρ m [d] [v] := by
  unfold RepL
  exact ⟨v, [], rfl, h, by unfold RepL; rfl⟩
theorem RepL.nil : RepL K F ρ m [] [] := by unfold RepL; rfl
theorem RepL.cons {d : D} {v : V} {ds : List D} {vs : List V} (h : Rep K F ρ m d v) (t : RepL K F ρ m ds vs) : RepL K F ρ m (d :: ds) (v :: vs) := by
  unfold RepL
  exact ⟨v, vs, rfl, h, t⟩
theorem RepL.ints : ∀ {ds : List D} {vs : List V} {ns : List Int}, RepL K F ρ m ds vs → intsOf ds = some ns → vs = ns.map V.int
  | [], _, _, h, e => by unfold RepL at h; subst h; simp [intsOf] at e; subst e; rfl
  | d :: ds, vs, ns, h, e => by
    unfold RepL at h
    obtain ⟨v, r, rfl, h1, h2⟩ := h
    cases d with
    | int i =>
      unfold intsOf at e
      obtain ⟨l, e1, e2⟩ := Option.map_eq_some_iff.mp e
      subst e2
      unfold Rep at h1
      subst h1
      rw [RepL.ints h2 e1]; rfl
    | _ => simp [intsOf] at e
theorem RepL.bls : ∀ {ds : List D} {vs : List V} {ns : List Bool}, RepL K F ρ m ds vs → blsOf ds = some ns → vs = ns.map V.bl
  | [], _, _, h, e => by unfold RepL at h; subst h; simp [blsOf] at e; subst e; rfl
  | d :: ds, vs, ns, h, e => by
    unfold RepL at h
    obtain ⟨v, r, rfl, h1, h2⟩ := h
    cases d with
    | bl i =>
      unfold blsOf at e
      obtain ⟨l, e1, e2⟩ := Option.map_eq_some_iff.mp e
      subst e2
      unfold Rep at h1
      subst h1
      rw [RepL.bls h2 e1]; rfl
    | _ => simp [blsOf] at e
end

/-! ### the state -/
def ObR (K : KX) (F : Hp) (ρ : Ro) (m : MH) (o : MO) (h : Option HO) : Prop := match o with
  | .lst xs => ∃ vs, h = some (.lst vs) ∧ xs.length ≤ sizeLine ∧ RepL K F ρ m xs vs
structure Rl (K : KX) (F : Hp) (ρ : Ro) (m : MH) (H : Hp) : Prop where
  fh : ∀ a o, F a = some o → H a = some o
  ob : ∀ l i o, get m l i = some o → F (ρ l i) = none ∧ ObR K F ρ m o (H (ρ l i))
  inj : ∀ l i l' i', Lv m l i → Lv m l' i' → ρ l i = ρ l' i' → l = l' ∧ i = i'
  wf : ∀ l i o, get m l i = some o → o.bd (l + 1) = true
theorem ObR.ext {K : KX} {F F' : Hp} {ρ ρ' : Ro} {m m' : MH} (x : Ext F ρ m F' ρ' m') {o : MO} {h : Option HO} (q : ObR K F ρ m o h) : ObR K F' ρ' m' o h := by
  cases o with
  | lst xs =>
    obtain ⟨vs, e, z, r⟩ := q
    exact ⟨vs, e, z, r.ext x⟩
theorem ObR.some {K : KX} {F : Hp} {ρ : Ro} {m : MH} {o : MO} {h : Option HO} (q : ObR K F ρ m o h) : ∃ u, h = some u ∧ Mut (some u) := by
  cases o with
  | lst xs =>
    obtain ⟨vs, e, _⟩ := q
    exact ⟨_, e, trivial⟩
/-- what holds all through a def's body -/
structure Bs where
  F0 : Hp
  ρ0 : Ro
  m0 : MH
structure RS (K : KX) (b : Bs) (env : Env) (hd : List (D × V)) (G : Hp) (m : MH) (ρ : Ro) (F : Hp) (σ : L2.St) (H : Hp) : Prop where
  rl : Rl K F ρ m H
  len : env.length = σ.length
  env : ∀ i d, env.at_ i = some d → ∃ v, σ[i]? = some (some v) ∧ Rep K F ρ m d v
  hd : ∀ p ∈ hd, Rep K F ρ m p.1 p.2
  pin : ∀ a o, G a = some o → H a = some o ∧ F a = none ∧ ∀ l i, Lv m l i → ρ l i ≠ a
  ml : m.length = b.m0.length + 1
  xt : Ext b.F0 b.ρ0 b.m0 F ρ m
section
variable {K : KX} {b : Bs} {env : Env} {hd hd' : List (D × V)} {G : Hp} {m : MH} {ρ : Ro} {F : Hp} {σ : L2.St} {H : Hp}
theorem RS.held (R : RS K b env hd G m ρ F σ H) (h : ∀ p ∈ hd', p ∈ hd) : RS K b env hd' G m ρ F σ H :=
  ⟨R.rl, R.len, R.env, fun p q => R.hd p (h p q), R.pin, R.ml, R.xt⟩
theorem RS.hold (R : RS K b env hd G m ρ F σ H) {d : D} {v : V} (h : Rep K F ρ m d v) : RS K b env ((d, v) :: hd) G m ρ F σ H :=
  ⟨R.rl, R.len, R.env, fun p q => by
    rcases List.mem_cons.mp q with e | q
    · subst e; exact h
    · exact R.hd p q, R.pin, R.ml, R.xt⟩
theorem RS.top {d : D} {v : V} (R : RS K b env ((d, v) :: hd) G m ρ F σ H) : Rep K F ρ m d v := R.hd _ List.mem_cons_self
theorem Ext.newF {p : Addr} {o : HO} (h : F p = none) : Ext F ρ m (upd F p o) ρ m :=
  ⟨fun a u e => by rw [upd_ne (by intro z; subst z; rw [h] at e; cases e)]; exact e, fun _ _ h => ⟨rfl, h⟩⟩
/-- a new thing that never changes -/
theorem RS.newF (R : RS K b env hd G m ρ F σ H) {p : Addr} (o : HO) (hp : H p = none) : RS K b env hd G m ρ (upd F p o) σ (upd H p o) := by
  have hF : F p = none := by
    cases e : F p with
    | none => rfl
    | some u => rw [R.rl.fh _ _ e] at hp; cases hp
  have x : Ext F ρ m (upd F p o) ρ m := .newF hF
  have neR : ∀ l i u, get m l i = some u → ρ l i ≠ p := fun l i u e z => by
    obtain ⟨h', q, _⟩ := (R.rl.ob l i u e).2.some
    rw [z, hp] at q; cases q
  refine ⟨⟨fun a u e => ?_, fun l i u e => ?_, R.rl.inj, R.rl.wf⟩, R.len, fun i d e => ?_, fun q h => (R.hd q h).ext x, fun a u e => ?_, R.ml, R.xt.trans x⟩
  · by_cases h : a = p
    · subst h; rw [upd_same] at e ⊢; exact e
    · rw [upd_ne h] at e ⊢; exact R.rl.fh a u e
  · have := R.rl.ob l i u e
    rw [upd_ne (neR l i u e), upd_ne (neR l i u e)]
    exact ⟨this.1, this.2.ext x⟩
  · obtain ⟨v, h1, h2⟩ := R.env i d e
    exact ⟨v, h1, h2.ext x⟩
  · obtain ⟨h1, h2, h3⟩ := R.pin a u e
    have : a ≠ p := fun z => by rw [z, hp] at h1; cases h1
    rw [upd_ne this, upd_ne this]
    exact ⟨h1, h2, h3⟩
theorem Lv.put {l i : Nat} {o o' : MO} (h : get m l i = some o) {l' i' : Nat} : Lv (put m l i o') l' i' ↔ Lv m l' i' := by
  unfold Lv
  rw [get_put h]
  split
  · rename_i q; obtain ⟨rfl, rfl⟩ := q; simp [h]
  · rfl
/-- a changed object changes -/
theorem RS.put (R : RS K b env hd G m ρ F σ H) {l i : Nat} {o : MO} (h : get m l i = some o) {xs : List D} {vs : List V} (hz : xs.length ≤ sizeLine) (hb : bdL (l + 1) xs = true) (hr : RepL K F ρ m xs vs) :
    RS K b env hd G (put m l i (.lst xs)) ρ F σ (upd H (ρ l i) (.lst vs)) := by
  have x : Ext F ρ m F ρ (Fw.put m l i (.lst xs)) := ⟨fun _ _ h => h, fun l' i' q => ⟨rfl, (Lv.put h).mpr q⟩⟩
  have hlv : Lv m l i := by unfold Lv; rw [h]; rfl
  refine ⟨⟨fun a u e => ?_, fun l' i' u e => ?_, fun a c a' c' h1 h2 => R.rl.inj a c a' c' ((Lv.put h).mp h1) ((Lv.put h).mp h2), fun l' i' u e => ?_⟩, R.len, fun i d e => ?_, fun q h => (R.hd q h).ext x, fun a u e => ?_, by rw [put_length]; exact R.ml, R.xt.trans x⟩
  · have : a ≠ ρ l i := fun z => by rw [z, (R.rl.ob l i o h).1] at e; cases e
    rw [upd_ne this]; exact R.rl.fh a u e
  · rw [get_put h] at e
    by_cases q : l' = l ∧ i' = i
    · rw [if_pos q] at e
      obtain ⟨rfl, rfl⟩ := q
      cases e
      rw [upd_same]
      exact ⟨(R.rl.ob _ _ _ h).1, vs, rfl, hz, hr.ext x⟩
    · rw [if_neg q] at e
      have hlv' : Lv m l' i' := by unfold Lv; rw [e]; rfl
      have : ρ l' i' ≠ ρ l i := fun z => q (R.rl.inj _ _ _ _ hlv' hlv z)
      rw [upd_ne this]
      have := R.rl.ob l' i' u e
      exact ⟨this.1, this.2.ext x⟩
  · rw [get_put h] at e
    by_cases q : l' = l ∧ i' = i
    · rw [if_pos q] at e
      obtain ⟨rfl, rfl⟩ := q
      cases e
      exact hb
    · rw [if_neg q] at e
      exact R.rl.wf l' i' u e
  · obtain ⟨v, h1, h2⟩ := R.env i d e
    exact ⟨v, h1, h2.ext x⟩
  · obtain ⟨h1, h2, h3⟩ := R.pin a u e
    have : a ≠ ρ l i := fun z => h3 l i hlv z.symm
    rw [upd_ne this]
    exact ⟨h1, h2, fun l' i' q => h3 l' i' ((Lv.put h).mp q)⟩
theorem Lv.snoc {fr : List MO} {r : MH} {o : MO} {l i : Nat} : Lv ((fr ++ [o]) :: r) l i ↔ (l = r.length ∧ i = fr.length) ∨ Lv (fr :: r) l i := by
  unfold Lv
  rw [get_snoc]
  split <;> simp [*]
def Ro.put (ρ : Ro) (l i : Nat) (a : Addr) : Ro := fun l' i' => if l' = l ∧ i' = i then a else ρ l' i'
theorem Ro.put_same {ρ : Ro} {l i : Nat} {a : Addr} : (ρ.put l i a) l i = a := by simp [Ro.put]
theorem Ro.put_ne {ρ : Ro} {l i l' i' : Nat} {a : Addr} (h : ¬ (l' = l ∧ i' = i)) : (ρ.put l i a) l' i' = ρ l' i' := by simp only [Ro.put, if_neg h]
theorem not_lv_end {fr : List MO} {r : MH} : ¬ Lv (fr :: r) r.length fr.length := by
  unfold Lv
  simp [get]
/-- a new object that will be changed -/
theorem RS.alloc {fr : List MO} {r : MH} (R : RS K b env hd G (fr :: r) ρ F σ H) {p : Addr} (hp : H p = none) {xs : List D} {vs : List V} (hz : xs.length ≤ sizeLine) (hb : bdL (r.length + 1) xs = true) (hr : RepL K F ρ (fr :: r) xs vs) :
    RS K b env hd G ((fr ++ [.lst xs]) :: r) (ρ.put r.length fr.length p) F σ (upd H p (.lst vs)) := by
  have x : Ext F ρ (fr :: r) F (ρ.put r.length fr.length p) ((fr ++ [.lst xs]) :: r) := ⟨fun _ _ h => h, fun l' i' q => ⟨Ro.put_ne fun z => not_lv_end (z.1 ▸ z.2 ▸ q), Lv.snoc.mpr (.inr q)⟩⟩
  have hF : F p = none := by
    cases e : F p with
    | none => rfl
    | some u => rw [R.rl.fh _ _ e] at hp; cases hp
  have neR : ∀ l i, Lv (fr :: r) l i → ρ l i ≠ p := fun l i q z => by
    obtain ⟨u, e⟩ := Option.isSome_iff_exists.mp q
    obtain ⟨h', q, _⟩ := (R.rl.ob l i u e).2.some
    rw [z, hp] at q; cases q
  have old : ∀ l i, Lv (fr :: r) l i → (ρ.put r.length fr.length p) l i = ρ l i := fun l i q => (x.r l i q).1
  refine ⟨⟨fun a u e => ?_, fun l' i' u e => ?_, fun a c a' c' h1 h2 z => ?_, fun l' i' u e => ?_⟩, R.len, fun i d e => ?_, fun q h => (R.hd q h).ext x, fun a u e => ?_, R.ml, R.xt.trans x⟩
  · have : a ≠ p := fun z => by rw [z, hF] at e; cases e
    rw [upd_ne this]; exact R.rl.fh a u e
  · rw [get_snoc] at e
    by_cases q : l' = r.length ∧ i' = fr.length
    · rw [if_pos q] at e
      obtain ⟨rfl, rfl⟩ := q
      cases e
      rw [Ro.put_same, upd_same]
      exact ⟨hF, vs, rfl, hz, hr.ext x⟩
    · rw [if_neg q] at e
      have hlv' : Lv (fr :: r) l' i' := by unfold Lv; rw [e]; rfl
      rw [old _ _ hlv', upd_ne (neR _ _ hlv')]
      have := R.rl.ob l' i' u e
      exact ⟨this.1, this.2.ext x⟩
  · rcases Lv.snoc.mp h1 with ⟨rfl, rfl⟩ | h1 <;> rcases Lv.snoc.mp h2 with ⟨rfl, rfl⟩ | h2
    · exact ⟨rfl, rfl⟩
    · rw [Ro.put_same, old _ _ h2] at z
      exact absurd z.symm (neR _ _ h2)
    · rw [Ro.put_same, old _ _ h1] at z
      exact absurd z (neR _ _ h1)
    · rw [old _ _ h1, old _ _ h2] at z
      exact R.rl.inj _ _ _ _ h1 h2 z
  · rw [get_snoc] at e
    by_cases q : l' = r.length ∧ i' = fr.length
    · rw [if_pos q] at e
      obtain ⟨rfl, rfl⟩ := q
      cases e
      exact hb
    · rw [if_neg q] at e
      exact R.rl.wf l' i' u e
  · obtain ⟨v, h1, h2⟩ := R.env i d e
    exact ⟨v, h1, h2.ext x⟩
  · obtain ⟨h1, h2, h3⟩ := R.pin a u e
    have : a ≠ p := fun z => by rw [z, hp] at h1; cases h1
    rw [upd_ne this]
    refine ⟨h1, h2, fun l' i' q => ?_⟩
    rcases Lv.snoc.mp q with ⟨rfl, rfl⟩ | q
    · rw [Ro.put_same]; exact this.symm
    · rw [old _ _ q]; exact h3 _ _ q
end
end Fw

set_option Elab.async false
set_option linter.all false
set_option maxRecDepth 100000
set_option maxHeartbeats 1000000
set_option autoImplicit false
/-! ## Fw2: expressions do what sem says -/
namespace Fw
open PySem PySem.Spec PyProof.Rows L2

/-! ### a caught exception's place -/
/-- the own classes without a body of their own, each with all that it is of -/
def clsOf (P : Program) : List (Str × List Str) := P.main.body.foldl (fun acc s => match s with
  | .ClassDef name [.Name b _] _ [.Pass _] _ _ _ _ _ _ _ => acc ++ [(name, name :: (match acc.lookup b with
    | some l => l
    | none => [b]))]
  | _ => acc) []
/-- in an except suite of a: x is what a holds -/
def ExcAt (X : Cx) (x : Exc) (a : Addr) : Prop := ∃ (X0 : Cx) (oe : Obj) (pn : List (Addr × Obj)), X = Cx.suite X0 a ((a, oe) :: pn) ∧ Zc (.ref (He.ga X.K x.cls)) none oe ∧ (∃ vs, oe.data = .fields vs) ∧ (x.cls, x.sups) ∈ clsOf X.prog
/-- how a raised one stands for an Exc -/
def rxO (cl : List (Str × List Str)) : PySem.W.Frag → Exc → Value → Option Addr → Hp → Prop := fun K x c dd _ => (x.cls, x.sups) ∈ cl ∧ c = .ref (He.ga K x.cls) ∧ dd = none
/-- what is told of an own exception class -/
structure ExcFacts (K : PySem.W.Frag) (mg : Str → Option Value) (cl : List (Str × List Str)) (p : Str × List Str) : Prop where
  gl : mg p.1 = some (.ref (He.ga K p.1))
  exc : PySem.W.excIn K (He.ga K p.1) He.veBase "ValueError.__new__" = true
  kp : PySem.W.keepIn K (.ref (He.ga K p.1)) = true
  sub : PySem.W.subIn K (.ref (He.ga K p.1)) (.type "BaseException") = some true
  ty : PySem.W.typeIn K (.ref (He.ga K p.1)) = some (.type "type")
  cc : ExcC K (He.ga K p.1)
  exm : ∀ q ∈ cl, PySem.W.exmOne K (.ref (He.ga K p.1)) (.ref (He.ga K q.1)) = some (decide (q.1 ∈ p.2))
  kit : ∀ q ∈ cl, PySem.W.kitOne K (.ref (He.ga K p.1)) (.ref (He.ga K q.1)) = some (decide (q.1 ∈ p.2))
  kitV : PySem.W.kitOne K (.ref (He.ga K p.1)) (.type "ValueError") = some (decide (("ValueError" : Str) ∈ p.2))
abbrev kx (X : Cx) : KX := ⟨X.K, ExcAt X⟩
/-- where no exception is caught -/
abbrev k0 (K : PySem.W.Frag) : KX := ⟨K, fun _ _ => False⟩
theorem kx_calm {X : Cx} (h : X.calm = true) : kx X = k0 X.K := by
  have : ExcAt X = fun _ _ => False := by
    funext x a
    refine propext ⟨fun ⟨X0, oe, pn, e, _⟩ => ?_, fun z => z.elim⟩
    rw [e] at h
    cases h
  show KX.mk X.K (ExcAt X) = _
  rw [this]

/-! ### outcomes -/
def Post {α : Type} (r : Res α) (ok : α → MH → Prop) (ex : Exc → MH → Prop) : Prop := match r with
  | .ok a m => ok a m
  | .exc x m => ex x m
  | .fail => False
theorem Post.bind {α β : Type} {r : Res α} {f : α → MH → Res β} {ok : β → MH → Prop} {ex : Exc → MH → Prop} (h : Post (r.bind f) ok ex) : Post r (fun a m => Post (f a m) ok ex) ex := by
  cases r <;> exact h
theorem Post.imp {α : Type} {r : Res α} {ok ok' : α → MH → Prop} {ex ex' : Exc → MH → Prop} (h : Post r ok ex) (h1 : ∀ a m, ok a m → ok' a m) (h2 : ∀ x m, ex x m → ex' x m) : Post r ok' ex' := by
  cases r
  · exact h1 _ _ h
  · exact h2 _ _ h
  · exact h
theorem Post.of {α : Type} {o : Option α} {m : MH} {ok : α → MH → Prop} {ex : Exc → MH → Prop} (h : Post (Res.of o m) ok ex) : ∃ a, o = some a ∧ ok a m := by
  cases o with
  | none => exact h.elim
  | some a => exact ⟨a, rfl, h⟩

section
variable (K : KX) (rx : PySem.W.Frag → Exc → Value → Option Addr → Hp → Prop) (W : WX)
/-- what is wanted where it raises -/
abbrev Ex (b : Bs) (env : Env) (hd : List (D × V)) (G : Hp) (σ : L2.St) : Exc → MH → Prop := fun x m' => ∀ ρ' F' H' c dd, RS K b env hd G m' ρ' F' σ H' → rx K.k x c dd H' → W c dd σ H'
def SE (e : Env → MH → Res D) : TE := fun σ H Q => ∃ b env hd G m ρ F, RS K b env hd G m ρ F σ H ∧
  Post (e env m) (fun d m' => ∀ ρ' F' H' v, RS K b env ((d, v) :: hd) G m' ρ' F' σ H' → Q v H') (Ex K rx W b env hd G σ)
def ST (t : Env → MH → Res Bool) : TT := fun σ H Q => ∃ b env hd G m ρ F, RS K b env hd G m ρ F σ H ∧
  Post (t env m) (fun c m' => ∀ ρ' F' H', RS K b env hd G m' ρ' F' σ H' → Q c H') (Ex K rx W b env hd G σ)
def SA (l : Env → MH → Res (List D)) : TA := fun σ H Q => ∃ b env hd G m ρ F, RS K b env hd G m ρ F σ H ∧
  Post (l env m) (fun ds m' => ∀ ρ' F' H' vs, RS K b env (ds.zip vs ++ hd) G m' ρ' F' σ H' → ds.length = vs.length → Q vs H') (Ex K rx W b env hd G σ)
end
theorem RS.list {K : KX} {b : Bs} {env : Env} {hd : List (D × V)} {G : Hp} {m : MH} {ρ : Ro} {F : Hp} {σ : L2.St} {H : Hp} : ∀ {ds : List D} {vs : List V}, RS K b env (ds.zip vs ++ hd) G m ρ F σ H → ds.length = vs.length → RepL K F ρ m ds vs
  | [], [], _, _ => RepL.nil
  | [], _ :: _, _, e => by simp at e
  | _ :: _, [], _, e => by simp at e
  | d :: ds, v :: vs, R, e => .cons (R.hd (d, v) (by simp)) (RS.list (ds := ds) (vs := vs) (R.held fun p hp => by simp only [List.zip_cons_cons, List.cons_append]; exact List.mem_cons_of_mem _ hp) (by simpa using e))

theorem PE.weak {X : Cx} {e : Expr} {t t' : TE} (h : PE X e t') (k : ∀ σ H Q, t σ H Q → t' σ H Q) : PE X e t := ⟨fun pins s σ H Q I q => h.run pins s σ H Q I (k σ H Q q)⟩
theorem PT.weak {X : Cx} {e : Expr} {t t' : TT} (h : PT X e t') (k : ∀ σ H Q, t σ H Q → t' σ H Q) : PT X e t := ⟨fun pins s σ H Q I q => h.run pins s σ H Q I (k σ H Q q)⟩
theorem PW.weak {X : Cx} {e : Expr} {t t' : TT} (h : PW X e t') (k : ∀ σ H Q, t σ H Q → t' σ H Q) : PW X e t := ⟨fun wh pins s σ H Q I q => h.run wh pins s σ H Q I (k σ H Q q)⟩
theorem PA.weak {X : Cx} {e : List Expr} {t t' : TA} (h : PA X e t') (k : ∀ σ H Q, t σ H Q → t' σ H Q) : PA X e t := ⟨fun pos pins s σ H Q I q => h.run pos pins s σ H Q I (k σ H Q q)⟩
theorem PI.weak {X : Cx} {tg e : Expr} {t t' : TI} (h : PI X tg e t') (k : ∀ σ H Q, t σ H Q → t' σ H Q) : PI X tg e t := ⟨fun pins s σ H Q I q => h.run pins s σ H Q I (k σ H Q q)⟩
theorem PE.no {X : Cx} {e : Expr} {t : TE} (k : ∀ σ H Q, ¬ t σ H Q) : PE X e t := ⟨fun _ _ σ H Q _ q => (k σ H Q q).elim⟩
theorem PT.no {X : Cx} {e : Expr} {t : TT} (k : ∀ σ H Q, ¬ t σ H Q) : PT X e t := ⟨fun _ _ σ H Q _ q => (k σ H Q q).elim⟩
theorem PA.no {X : Cx} {e : List Expr} {t : TA} (k : ∀ σ H Q, ¬ t σ H Q) : PA X e t := ⟨fun _ _ _ σ H Q _ q => (k σ H Q q).elim⟩
theorem PI.no {X : Cx} {tg e : Expr} {t : TI} (k : ∀ σ H Q, ¬ t σ H Q) : PI X tg e t := ⟨fun _ _ σ H Q _ q => (k σ H Q q).elim⟩

/-! ### the written text's forms -/
def notStar : Expr → Bool
  | .Starred .. => false
  | _ => true
theorem star_ok {e : Expr} {es : List Expr} {env : PySem.Env} (h : notStar e = true) : starEach (e :: es) env = (false, eval e env) :: starEach es env := by
  cases e <;> first | rfl | cases h
theorem star_none {env : PySem.Env} {pos : Pos} : ∀ {es : List Expr}, es.all notStar = true → (backTo pos (starEach es env)).any (·.1) = false
  | [], _ => rfl
  | e :: es, h => by
    simp only [List.all_cons, Bool.and_eq_true] at h
    rw [star_ok h.1]
    show (false || (backTo pos (starEach es env)).any (·.1)) = false
    rw [star_none h.2]; rfl
/-- a test that asks its value -/
def plainTest : Expr → Bool
  | .UnaryOp .Not _ _ => false
  | .BoolOp .. => false
  | .IfExp .. => false
  | .Compare .. => false
  | _ => true
theorem test_ok {e : Expr} {env : PySem.Env} (h : plainTest e = true) : ∀ whole, isTrue e env whole = (do let v ← whole; standAt e.pos; holding [v] (truthy v)) := by
  intro whole
  cases e with
  | UnaryOp op x pos => cases op <;> first | rfl | cases h
  | _ => first | rfl | cases h
theorem notSet_ok {e : Expr} {env : PySem.Env} (h : (match e with | .Set .. => false | _ => true) = true) : ∀ x, foldedSetIterable e env x = pure x := by
  intro x
  cases e <;> first | rfl | cases h
def plainIx : Expr → Bool
  | .Slice .. => false
  | .Tuple .. => false
  | _ => true
theorem plainIx_ok {b : Expr} (h : plainIx b = true) : PlainIx b := by
  intro o i
  cases b <;> first | rfl | cases h


/-! ### operations by values -/
section
variable {X : Cx} {K : KX} {rx : PySem.W.Frag → Exc → Value → Option Addr → Hp → Prop} {W : WX} {e a b c : Expr} {fa fb fc : Env → MH → Res D} {pos : Pos}
theorem Rep.non_of {F : Hp} {ρ : Ro} {m : MH} {v : V} (h : Rep K F ρ m .non v) : v = .non := by unfold Rep at h; exact h
theorem Rep.bl_of {F : Hp} {ρ : Ro} {m : MH} {v : V} {x : Bool} (h : Rep K F ρ m (.bl x) v) : v = .bl x := by unfold Rep at h; exact h
theorem Rep.int_of {F : Hp} {ρ : Ro} {m : MH} {v : V} {x : Int} (h : Rep K F ρ m (.int x) v) : v = .int x := by unfold Rep at h; exact h
theorem Rep.str_of {F : Hp} {ρ : Ro} {m : MH} {v : V} {x : Str} (h : Rep K F ρ m (.str x) v) : v = .str x := by unfold Rep at h; exact h
theorem Rep.tup_of {F : Hp} {ρ : Ro} {m : MH} {v : V} {xs : List D} (h : Rep K F ρ m (.tup xs) v) : ∃ a vs, v = .ref a ∧ SqT K.k F a vs ∧ xs.length ≤ sizeLine ∧ RepL K F ρ m xs vs := by unfold Rep at h; exact h
theorem Rep.lst_of {F : Hp} {ρ : Ro} {m : MH} {v : V} {xs : List D} (h : Rep K F ρ m (.lst xs) v) : ∃ a vs, v = .ref a ∧ F a = some (.lst vs) ∧ xs.length ≤ sizeLine ∧ RepL K F ρ m xs vs := by unfold Rep at h; exact h
theorem Rep.ref_of {F : Hp} {ρ : Ro} {m : MH} {v : V} {l i : Nat} (h : Rep K F ρ m (.ref l i) v) : v = .ref (ρ l i) ∧ Lv m l i := by unfold Rep at h; exact h
theorem Rep.non {F : Hp} {ρ : Ro} {m : MH} : Rep K F ρ m .non .non := by unfold Rep; rfl
theorem Rep.bl {F : Hp} {ρ : Ro} {m : MH} (x : Bool) : Rep K F ρ m (.bl x) (.bl x) := by unfold Rep; rfl
theorem Rep.int {F : Hp} {ρ : Ro} {m : MH} (x : Int) : Rep K F ρ m (.int x) (.int x) := by unfold Rep; rfl
theorem Rep.str {F : Hp} {ρ : Ro} {m : MH} (x : Str) : Rep K F ρ m (.str x) (.str x) := by unfold Rep; rfl
theorem Rep.tup {F : Hp} {ρ : Ro} {m : MH} {a : Addr} {xs : List D} {vs : List V} (h : SqT K.k F a vs) (z : xs.length ≤ sizeLine) (r : RepL K F ρ m xs vs) : Rep K F ρ m (.tup xs) (.ref a) := by unfold Rep; exact ⟨a, vs, rfl, h, z, r⟩
theorem Rep.lst {F : Hp} {ρ : Ro} {m : MH} {a : Addr} {xs : List D} {vs : List V} (h : F a = some (.lst vs)) (z : xs.length ≤ sizeLine) (r : RepL K F ρ m xs vs) : Rep K F ρ m (.lst xs) (.ref a) := by unfold Rep; exact ⟨a, vs, rfl, h, z, r⟩
theorem Rep.ref {F : Hp} {ρ : Ro} {m : MH} {l i : Nat} (h : Lv m l i) : Rep K F ρ m (.ref l i) (.ref (ρ l i)) := by unfold Rep; exact ⟨rfl, h⟩

theorem Rep.scr_of {F : Hp} {ρ : Ro} {m : MH} {v : V} {xs : List D} (h : Rep K F ρ m (.scr xs) v) : ∃ a vs, v = .ref a ∧ SqL K.k F a vs ∧ xs.length ≤ sizeLine ∧ RepL K F ρ m xs vs := by unfold Rep at h; exact h
theorem Rep.scr {F : Hp} {ρ : Ro} {m : MH} {a : Addr} {xs : List D} {vs : List V} (h : SqL K.k F a vs) (z : xs.length ≤ sizeLine) (r : RepL K F ρ m xs vs) : Rep K F ρ m (.scr xs) (.ref a) := by unfold Rep; exact ⟨a, vs, rfl, h, z, r⟩
theorem Rep.dct_of {F : Hp} {ρ : Ro} {m : MH} {v : V} {ks : List Int} {xs : List D} (h : Rep K F ρ m (.dct ks xs) v) : ∃ a vs, v = .ref a ∧ F a = some (.dK ((ks.map Sum.inl).zip vs)) ∧ ks.length = xs.length ∧ RepL K F ρ m xs vs := by unfold Rep at h; exact h
theorem Rep.dct {F : Hp} {ρ : Ro} {m : MH} {a : Addr} {ks : List Int} {xs : List D} {vs : List V} (h : F a = some (.dK ((ks.map Sum.inl).zip vs))) (z : ks.length = xs.length) (r : RepL K F ρ m xs vs) : Rep K F ρ m (.dct ks xs) (.ref a) := by unfold Rep; exact ⟨a, vs, rfl, h, z, r⟩
theorem Rep.exc_of {F : Hp} {ρ : Ro} {m : MH} {v : V} {x : Exc} (h : Rep K F ρ m (.exc x) v) : ∃ a, v = .ref a ∧ K.ex x a := by unfold Rep at h; exact h
/-- what a rule by values is to give -/
def Op2R (K : KX) (f : D → D → MH → Res D) (r : R2) : Prop :=
  ∀ b env hd G m ρ F σ H x y v u (Q : VK) ex, RS K b env hd G m ρ F σ H → Rep K F ρ m x v → Rep K F ρ m y u →
    Post (f x y m) (fun d m' => ∀ ρ' F' H' v, RS K b env ((d, v) :: hd) G m' ρ' F' σ H' → Q v H') ex → r v u H Q
theorem se_bin {f : D → D → MH → Res D} {r : R2} (h : Op2R K f r) {σ : L2.St} {H : Hp} {Q : VK}
    (q : SE K rx W (fun v m => (fa v m).bind fun x m => (fb v m).bind fun y m => f x y m) σ H Q) : tOp r (SE K rx W fa) (SE K rx W fb) σ H Q := by
  obtain ⟨b, env, hd, G, m, ρ, F, R, p⟩ := q
  refine ⟨b, env, hd, G, m, ρ, F, R, p.bind.imp (fun x m1 p1 ρ1 F1 H1 v R1 => ?_) fun _ _ z => z⟩
  refine ⟨b, env, (x, v) :: hd, G, m1, ρ1, F1, R1, p1.bind.imp (fun y m2 p2 ρ2 F2 H2 u R2 => ?_) fun _ _ z ρ' F' H' c dd R' => z ρ' F' H' c dd (R'.held fun _ => List.mem_cons_of_mem _)⟩
  exact h b env hd G m2 ρ2 F2 σ H2 x y v u Q _ (R2.held fun _ z => List.mem_cons_of_mem _ (List.mem_cons_of_mem _ z)) (R2.hd (x, v) (by simp)) R2.top p2
/-- a value that needs no room -/
def flat : D → Bool
  | .non | .bl _ | .int _ | .str _ => true
  | _ => false
def flatV' : D → V
  | .non => .non
  | .bl b => .bl b
  | .int i => .int i
  | .str x => .str x
  | _ => .non
theorem Rep.flat {F : Hp} {ρ : Ro} {m : MH} {d : D} (h : Fw.flat d = true) : Rep K F ρ m d (flatV' d) := by
  cases d <;> first | exact .non | exact .bl _ | exact .int _ | exact .str _ | cases h
theorem Rep.flat_of {F : Hp} {ρ : Ro} {m : MH} {d : D} {v : V} (r : Rep K F ρ m d v) (h : Fw.flat d = true) : v = flatV' d := by
  cases d <;> first | exact r.non_of | exact r.bl_of | exact r.int_of | exact r.str_of | cases h
/-- two ints, an int -/
theorem op2_ints {f : D → D → MH → Res D} {C : Int → Int → Prop} {g : Int → Int → D} {g' : Int → Int → V} (hfl : ∀ i j, flat (g i j) = true ∧ flatV' (g i j) = g' i j)
    (h : ∀ x y m d m', f x y m = .ok d m' → ∃ i j, x = .int i ∧ y = .int j ∧ C i j ∧ d = g i j ∧ m' = m) (hx : ∀ x y m e m', f x y m ≠ .exc e m') : Op2R K f (rI C g') := by
  intro b env hd G m ρ F σ H x y v u Q ex R rx ry p
  cases e : f x y m with
  | ok d m' =>
    rw [e] at p
    obtain ⟨i, j, rfl, rfl, hc, rfl, rfl⟩ := h _ _ _ _ _ e
    refine ⟨i, j, rx.int_of, ry.int_of, hc, ?_⟩
    rw [← (hfl i j).2]
    exact p ρ F H _ (R.hold (.flat (hfl i j).1))
  | exc => exact (hx _ _ _ _ _ e).elim
  | fail => rw [e] at p; exact p.elim
theorem op2_ints0 {f : D → D → MH → Res D} {g : Int → Int → D} {g' : Int → Int → V} (hfl : ∀ i j, flat (g i j) = true ∧ flatV' (g i j) = g' i j)
    (h : ∀ x y m d m', f x y m = .ok d m' → ∃ i j, x = .int i ∧ y = .int j ∧ d = g i j ∧ m' = m) (hx : ∀ x y m e m', f x y m ≠ .exc e m') : Op2R K f (rI0 g') := by
  intro b env hd G m ρ F σ H x y v u Q ex R rx ry p
  cases e : f x y m with
  | ok d m' =>
    rw [e] at p
    obtain ⟨i, j, rfl, rfl, rfl, rfl⟩ := h _ _ _ _ _ e
    refine ⟨i, j, rx.int_of, ry.int_of, ?_⟩
    rw [← (hfl i j).2]
    exact p ρ F H _ (R.hold (.flat (hfl i j).1))
  | exc => exact (hx _ _ _ _ _ e).elim
  | fail => rw [e] at p; exact p.elim
theorem arith_ints {o : Op2} {x y : D} {m : MH} {r : Res D} (h : arithI o x y m = r) (hr : r ≠ .fail) : ∃ i j, x = .int i ∧ y = .int j := by
  cases x <;> cases y <;> first | exact ⟨_, _, rfl, rfl⟩ | exact (hr h.symm).elim
theorem arith_exc {o : Op2} {x y : D} {m m' : MH} {e : Exc} : arithI o x y m ≠ .exc e m' := by
  intro h
  obtain ⟨i, j, rfl, rfl⟩ := arith_ints h (by simp)
  cases o <;> simp only [arithI] at h <;> first | cases h | (split at h <;> cases h)
def opOf : Op2 → Operator
  | .add => .Add | .sub => .Sub | .mul => .Mult | .fdiv => .FloorDiv | .mod => .Mod | .pow => .Pow
/-- the rule of an operation: ints; tuples, lists -/
def arR : Op2 → R2
  | .add => rI0 fun i j => .int (i + j)
  | .sub => rI0 fun i j => .int (i - j)
  | .mul => rI (fun i j => i.natAbs.log2 + j.natAbs.log2 < 1000000) fun i j => .int (i * j)
  | .fdiv => rI (fun _ j => 0 < j ∧ j.natAbs.log2 < 9000) fun i j => .int (i / j)
  | .mod => rI (fun _ j => 0 < j) fun i j => .int (i % j)
  | .pow => rI (fun i j => 0 ≤ j ∧ j ≤ 1000000 ∧ i.natAbs < 2 ^ 64) fun i j => .int (i ^ j.toNat)
def sqR (K : PySem.W.Frag) : Op2 → R2
  | .add => fun x y H Q => rCatA K x y H Q ∨ rCat x y H Q
  | .mul => rRep
  | _ => fun _ _ _ _ => False
theorem ar_op {X : Cx} (o : Op2) : OpR X (binaryOp (opOf o)) (arR o) := by
  cases o
  · exact op_add
  · exact op_sub
  · exact op_mulW
  · exact op_fdivW
  · exact op_mod
  · exact op_pow
theorem sq_op {X : Cx} (o : Op2) : OpR X (binaryOp (opOf o)) (sqR X.K o) := by
  have no : ∀ f, OpR X f (fun _ _ _ _ => False) := fun f _ _ _ _ _ _ _ _ _ _ _ _ h => h.elim
  cases o
  · exact op_catA.or op_cat
  · exact no _
  · exact op_rep
  · exact no _
  · exact no _
  · exact no _
theorem ar_rep (o : Op2) : Op2R K (arithI o) (arR o) := by
  cases o with
  | add =>
    refine op2_ints0 (g := fun i j => .int (i + j)) (fun _ _ => ⟨rfl, rfl⟩) (fun x y m d m' h => ?_) fun _ _ _ _ _ => arith_exc
    obtain ⟨i, j, rfl, rfl⟩ := arith_ints h (by simp)
    cases h; exact ⟨i, j, rfl, rfl, rfl, rfl⟩
  | sub =>
    refine op2_ints0 (g := fun i j => .int (i - j)) (fun _ _ => ⟨rfl, rfl⟩) (fun x y m d m' h => ?_) fun _ _ _ _ _ => arith_exc
    obtain ⟨i, j, rfl, rfl⟩ := arith_ints h (by simp)
    cases h; exact ⟨i, j, rfl, rfl, rfl, rfl⟩
  | mul =>
    refine op2_ints (g := fun i j => .int (i * j)) (fun _ _ => ⟨rfl, rfl⟩) (fun x y m d m' h => ?_) fun _ _ _ _ _ => arith_exc
    obtain ⟨i, j, rfl, rfl⟩ := arith_ints h (by simp)
    simp only [arithI] at h
    split at h <;> cases h
    exact ⟨i, j, rfl, rfl, by assumption, rfl, rfl⟩
  | fdiv =>
    refine op2_ints (g := fun i j => .int (i / j)) (fun _ _ => ⟨rfl, rfl⟩) (fun x y m d m' h => ?_) fun _ _ _ _ _ => arith_exc
    obtain ⟨i, j, rfl, rfl⟩ := arith_ints h (by simp)
    simp only [arithI] at h
    split at h <;> cases h
    exact ⟨i, j, rfl, rfl, by assumption, rfl, rfl⟩
  | mod =>
    refine op2_ints (g := fun i j => .int (i % j)) (fun _ _ => ⟨rfl, rfl⟩) (fun x y m d m' h => ?_) fun _ _ _ _ _ => arith_exc
    obtain ⟨i, j, rfl, rfl⟩ := arith_ints h (by simp)
    simp only [arithI] at h
    split at h <;> cases h
    exact ⟨i, j, rfl, rfl, by assumption, rfl, rfl⟩
  | pow =>
    refine op2_ints (g := fun i j => .int (i ^ j.toNat)) (fun _ _ => ⟨rfl, rfl⟩) (fun x y m d m' h => ?_) fun _ _ _ _ _ => arith_exc
    obtain ⟨i, j, rfl, rfl⟩ := arith_ints h (by simp)
    simp only [arithI] at h
    split at h <;> cases h
    exact ⟨i, j, rfl, rfl, by assumption, rfl, rfl⟩
end

/-! ### data, dicts of ints as keys among it -/
mutual
inductive Dq (K : PySem.W.Frag) (H : Hp) : V → PyData → Prop
  | non : Dq K H .non .none
  | bl (b : Bool) : Dq K H (.bl b) (.bool b)
  | int (i : Int) : Dq K H (.int i) (.int i)
  | str (x : Str) : Dq K H (.str x) (.str x)
  | lst {a : Addr} {xs : List V} {ds : List PyData} : SqL K H a xs → DqAll K H xs ds → Dq K H (.ref a) (.list ds)
  | tup {a : Addr} {xs : List V} {ds : List PyData} : SqT K H a xs → DqAll K H xs ds → Dq K H (.ref a) (.tuple ds)
  | dct {a : Addr} {ks : List Int} {xs : List V} {ds : List PyData} : H a = some (.dK ((ks.map Sum.inl).zip xs)) → ks.length = xs.length → DqAll K H xs ds → Dq K H (.ref a) (.dict ((ks.map .int).zip ds))
inductive DqAll (K : PySem.W.Frag) (H : Hp) : List V → List PyData → Prop
  | nil : DqAll K H [] []
  | cons {v : V} {vs : List V} {d : PyData} {ds : List PyData} : Dq K H v d → DqAll K H vs ds → DqAll K H (v :: vs) (d :: ds)
end
section
variable {K : PySem.W.Frag} {H : Hp}
mutual
theorem Dq.plain : ∀ {d : PyData} {v : V}, Dq K H v d → d.hasDict = false → Dp K H v d
  | _, _, .non, _ => .non
  | _, _, .bl b, _ => .bl b
  | _, _, .int i, _ => .int i
  | _, _, .str x, _ => .str x
  | _, _, .lst h1 h2, h => .lst h1 (DqAll.plain h2 (by simpa [PyData.hasDict] using h))
  | _, _, .tup h1 h2, h => .tup h1 (DqAll.plain h2 (by simpa [PyData.hasDict] using h))
  | _, _, .dct _ _ _, h => by simp [PyData.hasDict] at h
theorem DqAll.plain : ∀ {ds : List PyData} {vs : List V}, DqAll K H vs ds → PyData.hasDictAll ds = false → DpAll K H vs ds
  | _, _, .nil, _ => .nil
  | _, _, .cons h1 h2, h => by
    simp only [PyData.hasDictAll, Bool.or_eq_false_iff] at h
    exact .cons (h1.plain h.1) (h2.plain h.2)
end
theorem DqAll.length : ∀ {ds : List PyData} {vs : List V}, DqAll K H vs ds → vs.length = ds.length
  | _, _, .nil => rfl
  | _, _, .cons _ h => by simp [h.length]
end
theorem noListKv_zip : ∀ (ks : List Int) (ds : List PyData), ks.length = ds.length → noListKv ((ks.map PyData.int).zip ds) = true → noListAll ds = true
  | [], [], _, _ => rfl
  | [], _ :: _, h, _ => by simp at h
  | _ :: _, [], h, _ => by simp at h
  | k :: ks, d :: ds, h, q => by
    simp only [List.map_cons, List.zip_cons_cons, noListKv, Bool.and_eq_true] at q
    simp only [noListAll, Bool.and_eq_true]
    exact ⟨q.1, noListKv_zip ks ds (by simpa using h) q.2⟩
theorem key_reads {h : Heap} {P : Program} {w : World} : ∀ {es : List DictEntry} {ks : List Int} {vs : List V} {rs : List (Key × Value)}, KV ((ks.map Sum.inl).zip vs) rs → Pairs (mixKind P w) es rs → ks.length = vs.length →
    (∃ as, ReadsAll h (es.map (·.key)) (ks.map PyData.int) as ∧ as = []) ∧ Vals vs (es.map (·.val)) := by
  intro es ks
  induction ks generalizing es with
  | nil =>
    intro vs rs r q hl
    cases vs with
    | cons => simp at hl
    | nil =>
      cases r
      cases q
      exact ⟨⟨_, .nil, rfl⟩, .nil⟩
  | cons k ks ih =>
    intro vs rs r q hl
    cases vs with
    | nil => simp at hl
    | cons v vs =>
      cases r with
      | cons hk hr =>
        cases q with
        | cons hp hv hq =>
          obtain ⟨⟨as, i1, i2⟩, i3⟩ := ih hr hq (by simpa using hl)
          subst i2
          obtain ⟨hk1, hk2⟩ := hk
          rename_i q' rs' e es'
          have hp' : keyIs q'.1 e.key = true := hp
          rw [← hk1] at hp'
          rcases keyIs_shape hp' with ⟨i, t, e1, e2⟩ | ⟨x, t, e1, e2⟩
          · cases e1
            refine ⟨⟨[] ++ [], ?_, rfl⟩, ?_⟩
            · show ReadsAll h (e.key :: es'.map (·.key)) (PyData.int k :: ks.map PyData.int) _
              rw [e2]
              exact .cons (Reads.int k t) i1
            · show Vals (v :: vs) (e.val :: es'.map (·.val))
              rw [hv]
              exact .cons hk2 i3
          · cases e1
section
variable {X : Cx} {pins : List (Addr × Obj)} {σ : L2.St} {H : Hp} {s : Shared}
mutual
theorem Dq.reads (I : Inv X pins σ H s) : ∀ {d : PyData} {v : V}, Dq X.K H v d → ∀ u : Value, RelV v u → ∃ as, Reads s.heap u d as ∧ (noList d = true → sysModules ∉ as)
  | _, _, .non, u, r => by
    cases (show u = Value.none from r)
    exact ⟨[], Reads.none, fun _ => by simp⟩
  | _, _, .bl b, u, r => by
    cases (show u = Value.bool b from r)
    exact ⟨[], Reads.bool b, fun _ => by simp⟩
  | _, _, .int i, u, r => by
    obtain ⟨t, rfl⟩ := (show ∃ t, u = Value.int i t from r)
    exact ⟨[], Reads.int i t, fun _ => by simp⟩
  | _, _, .str x, u, r => by
    obtain ⟨t, rfl⟩ := (show ∃ t, u = Value.str x t from r)
    exact ⟨[], Reads.str x t, fun _ => by simp⟩
  | _, _, .lst hs ha, u, r => by
    cases r
    obtain ⟨its, rv, ⟨o, n, ho, hc, _, hd⟩, _⟩ := I.list hs
    obtain ⟨as, q, _⟩ := DqAll.reads I ha its rv
    refine ⟨_, Reads.list ho hc hd q, fun z => ?_⟩
    simp [noList] at z
  | _, _, .tup hs ha, u, r => by
    cases r
    obtain ⟨its, rv, ⟨o, ho, hc, n, hd⟩, _⟩ := I.tuple hs
    obtain ⟨as, q, hn⟩ := DqAll.reads I ha its rv
    exact ⟨as, Reads.tuple ho hc hd q, fun z => hn (by simpa [noList] using z)⟩
  | _, _, .dct (a := a) (ks := ks) (xs := xs) (ds := ds) hs hl ha, u, r => by
    cases r
    obtain ⟨hz, hsm, vs, kv, o, es, ep, ho, hex, hdt, hk, hp, hnd⟩ := dk_of I.hok hs
    obtain ⟨⟨as, q1, q2⟩, q3⟩ := key_reads (h := s.heap) kv hp hl
    subst q2
    obtain ⟨bs, q4, hn⟩ := DqAll.reads I ha _ q3
    have hl2 : ks.length = ds.length := by rw [hl, ha.length]
    refine ⟨_, Reads.dict ho hex.1 hdt (as := []) (bs := bs) ?_ ?_, fun z => ?_⟩
    · rw [List.map_fst_zip (by simp [hl2])]
      exact q1
    · rw [List.map_snd_zip (by simp [hl2])]
      exact q4
    · simp only [List.append_nil, List.cons_append, List.nil_append, List.mem_cons, not_or]
      refine ⟨fun e => ?_, hn (noListKv_zip ks ds hl2 (by simpa [noList] using z))⟩
      rw [← e] at hsm
      simp at hsm
theorem DqAll.reads (I : Inv X pins σ H s) : ∀ {ds : List PyData} {vs : List V}, DqAll X.K H vs ds → ∀ us : List Value, Vals vs us → ∃ as, ReadsAll s.heap us ds as ∧ (noListAll ds = true → sysModules ∉ as)
  | _, _, .nil, _, r => by
    cases r
    exact ⟨[], .nil, fun _ => by simp⟩
  | _, _, .cons h1 h2, _, r => by
    cases r with
    | cons r1 r2 =>
      obtain ⟨as, q1, n1⟩ := Dq.reads I h1 _ r1
      obtain ⟨bs, q2, n2⟩ := DqAll.reads I h2 _ r2
      refine ⟨_, .cons q1 q2, fun z => ?_⟩
      simp only [noListAll, Bool.and_eq_true] at z
      simp only [List.mem_append, not_or]
      exact ⟨n1 z.1, n2 z.2⟩
end
end
section
variable {K : KX} {F H : Hp} {ρ : Ro} {m : MH}
mutual
theorem dq_pd (fh : ∀ a o, F a = some o → H a = some o) : ∀ {d : D} {p : PyData} {v : V}, pd d = some p → Rep K F ρ m d v → Dq K.k H v p
  | .non, p, v, e, r => by simp only [pd] at e; cases e; cases r.non_of; exact .non
  | .bl x, p, v, e, r => by simp only [pd] at e; cases e; cases r.bl_of; exact .bl x
  | .int x, p, v, e, r => by simp only [pd] at e; cases e; cases r.int_of; exact .int x
  | .str x, p, v, e, r => by simp only [pd] at e; cases e; cases r.str_of; exact .str x
  | .tup xs, p, v, e, r => by
    simp only [pd] at e
    obtain ⟨ps, e1, rfl⟩ := Option.map_eq_some_iff.mp e
    obtain ⟨a, vs, rfl, q, z, rs⟩ := r.tup_of
    exact .tup (SqT.ext fh q) (dq_pdL fh e1 rs)
  | .lst xs, p, v, e, r => by
    simp only [pd] at e
    obtain ⟨ps, e1, rfl⟩ := Option.map_eq_some_iff.mp e
    obtain ⟨a, vs, rfl, q, z, rs⟩ := r.lst_of
    exact .lst (SqL.of (fh _ _ q)) (dq_pdL fh e1 rs)
  | .scr xs, p, v, e, r => by
    simp only [pd] at e
    obtain ⟨ps, e1, rfl⟩ := Option.map_eq_some_iff.mp e
    obtain ⟨a, vs, rfl, q, z, rs⟩ := r.scr_of
    exact .lst (SqL.ext fh q) (dq_pdL fh e1 rs)
  | .ref l i, p, v, e, r => by simp [pd] at e
  | .dct ks xs, p, v, e, r => by
    simp only [pd] at e
    obtain ⟨ps, e1, rfl⟩ := Option.map_eq_some_iff.mp e
    obtain ⟨a, vs, rfl, q, z, rs⟩ := r.dct_of
    exact .dct (fh _ _ q) (z.trans rs.length) (dq_pdL fh e1 rs)
  | .exc x, p, v, e, r => by simp [pd] at e
theorem dq_pdL (fh : ∀ a o, F a = some o → H a = some o) : ∀ {ds : List D} {ps : List PyData} {vs : List V}, pdL ds = some ps → RepL K F ρ m ds vs → DqAll K.k H vs ps
  | [], ps, vs, e, r => by
    simp only [pdL] at e; cases e
    unfold RepL at r; subst r; exact .nil
  | d :: ds, ps, vs, e, r => by
    simp only [pdL] at e
    unfold RepL at r
    obtain ⟨v, vr, rfl, r1, r2⟩ := r
    cases e1 : pd d with
    | none => rw [e1] at e; cases e
    | some p =>
      cases e2 : pdL ds with
      | none => rw [e1, e2] at e; cases e
      | some q =>
        rw [e1, e2] at e; cases e
        exact .cons (dq_pd fh e1 r1) (dq_pdL fh e2 r2)
end
theorem dq_dat (R : Rl K F ρ m H) {d : D} {p : PyData} {v : V} (e : dat m d = some p) (r : Rep K F ρ m d v) : Dq K.k H v p := by
  cases d with
  | ref l i =>
    obtain ⟨rfl, hl⟩ := r.ref_of
    unfold dat at e
    cases g : get m l i with
    | none => simp only [g] at e; cases e
    | some o =>
      cases o with
      | lst xs =>
        simp only [g] at e
        obtain ⟨ps, e1, rfl⟩ := Option.map_eq_some_iff.mp e
        obtain ⟨_, vs, hv, z, rs⟩ := R.ob l i _ g
        exact .lst (SqL.of hv) (dq_pdL R.fh e1 rs)
  | _ => exact dq_pd R.fh e r
theorem dp_dat (R : Rl K F ρ m H) {d : D} {p : PyData} {v : V} (e : dat m d = some p) (hs : SeqAt.shaped p = true) (r : Rep K F ρ m d v) : Dp K.k H v p := (dq_dat R e r).plain (PyData.hasDict_of_canLay _ (SeqAt.canLay_of_shaped hs))
/-- a list, a tuple that is read -/
theorem seq_ofT (R : Rl K F ρ m H) {d : D} {xs : List D} {v : V} (e : seqOf m d = some xs) (r : Rep K F ρ m d v) : ∃ a vs, v = .ref a ∧ (SqL K.k H a vs ∨ (SqT K.k H a vs ∧ ∃ ys, d = .tup ys)) ∧ xs.length ≤ sizeLine ∧ RepL K F ρ m xs vs := by
  cases d with
  | ref l i =>
    obtain ⟨rfl, hl⟩ := r.ref_of
    unfold seqOf at e
    cases g : get m l i with
    | none => simp only [g] at e; cases e
    | some o =>
      cases o with
      | lst ys =>
        simp only [g] at e; cases e
        obtain ⟨_, vs, hv, z, rs⟩ := R.ob l i _ g
        exact ⟨_, vs, rfl, .inl (SqL.of hv), z, rs⟩
  | tup ys =>
    simp only [seqOf] at e; cases e
    obtain ⟨a, vs, rfl, q, z, rs⟩ := r.tup_of
    exact ⟨a, vs, rfl, .inr ⟨SqT.ext R.fh q, _, rfl⟩, z, rs⟩
  | lst ys =>
    simp only [seqOf] at e; cases e
    obtain ⟨a, vs, rfl, q, z, rs⟩ := r.lst_of
    exact ⟨a, vs, rfl, .inl (SqL.of (R.fh _ _ q)), z, rs⟩
  | scr ys =>
    simp only [seqOf] at e; cases e
    obtain ⟨a, vs, rfl, q, z, rs⟩ := r.scr_of
    exact ⟨a, vs, rfl, .inl (SqL.ext R.fh q), z, rs⟩
  | _ => simp [seqOf] at e
theorem seq_of (R : Rl K F ρ m H) {d : D} {xs : List D} {v : V} (e : seqOf m d = some xs) (r : Rep K F ρ m d v) : ∃ a vs, v = .ref a ∧ (SqL K.k H a vs ∨ SqT K.k H a vs) ∧ xs.length ≤ sizeLine ∧ RepL K F ρ m xs vs := by
  obtain ⟨a, vs, e, h, z, rs⟩ := seq_ofT R e r
  exact ⟨a, vs, e, h.imp id And.left, z, rs⟩
/-- a tracked list -/
theorem lst_of (R : Rl K F ρ m H) {d : D} {xs : List D} {v : V} (e : lstOf m d = some xs) (r : Rep K F ρ m d v) : ∃ a vs, v = .ref a ∧ H a = some (.lst vs) ∧ xs.length ≤ sizeLine ∧ RepL K F ρ m xs vs := by
  cases d with
  | tup => cases e
  | scr => cases e
  | lst ys =>
    have e : some ys = some xs := e
    cases e
    obtain ⟨a, vs, rfl, q, z, rs⟩ := r.lst_of
    exact ⟨a, vs, rfl, R.fh _ _ q, z, rs⟩
  | ref l i =>
    obtain ⟨rfl, hl⟩ := r.ref_of
    have e : seqOf m (.ref l i) = some xs := e
    unfold seqOf at e
    cases g : get m l i with
    | none => simp only [g] at e; cases e
    | some o =>
      cases o with
      | lst ys =>
        simp only [g] at e; cases e
        obtain ⟨_, vs, hv, z, rs⟩ := R.ob l i _ g
        exact ⟨_, vs, rfl, hv, z, rs⟩
  | _ => simp [lstOf, seqOf] at e
end

theorem noF {F H : Hp} (fh : ∀ a o, F a = some o → H a = some o) {p : Addr} (hp : H p = none) : F p = none := by
  cases e : F p with
  | none => rfl
  | some u => rw [fh _ _ e] at hp; cases hp
theorem RepL.rep {K : KX} {F : Hp} {ρ : Ro} {m : MH} {ds : List D} {vs : List V} (h : RepL K F ρ m ds vs) : ∀ k, RepL K F ρ m (List.replicate k ds).flatten (List.replicate k vs).flatten
  | 0 => .nil
  | k + 1 => by
    simp only [List.replicate_succ, List.flatten_cons]
    exact h.append (RepL.rep h k)
theorem flat_len {α : Type} (xs : List α) (k : Nat) : (List.replicate k xs).flatten.length = xs.length * k := by
  simp [Nat.mul_comm]
/-- a value and what is got of it, a new list -/
theorem new_lst {K : KX} {b : Bs} {env : Env} {hd : List (D × V)} {G : Hp} {m : MH} {ρ : Ro} {F : Hp} {σ : L2.St} {H : Hp} {ds : List D} {vs : List V} (R : RS K b env hd G m ρ F σ H) (z : ds.length ≤ sizeLine) (r : RepL K F ρ m ds vs) {p : Addr} (hp : H p = none) :
    RS K b env ((.lst ds, .ref p) :: hd) G m ρ (upd F p (.lst vs)) σ (upd H p (.lst vs)) := (R.newF (.lst vs) hp).hold (.lst upd_same z (r.ext (.newF (noF R.rl.fh hp))))
theorem new_tup {K : KX} {b : Bs} {env : Env} {hd : List (D × V)} {G : Hp} {m : MH} {ρ : Ro} {F : Hp} {σ : L2.St} {H : Hp} {ds : List D} {vs : List V} (R : RS K b env hd G m ρ F σ H) (z : ds.length ≤ sizeLine) (r : RepL K F ρ m ds vs) {p : Addr} (hp : H p = none) :
    RS K b env ((.tup ds, .ref p) :: hd) G m ρ (upd F p (.tup vs)) σ (upd H p (.tup vs)) := (R.newF (.tup vs) hp).hold (.tup (SqT.of upd_same) z (r.ext (.newF (noF R.rl.fh hp))))
theorem RepL.nil_iff {K : KX} {F : Hp} {ρ : Ro} {m : MH} {ds : List D} {vs : List V} (h : RepL K F ρ m ds vs) : vs = [] ↔ ds = [] := by
  have := h.length
  constructor
  · intro e; subst e; exact List.length_eq_zero_iff.mp this
  · intro e; subst e; exact List.length_eq_zero_iff.mp this.symm
theorem catL_rep {K : KX} {b : Bs} {env : Env} {hd : List (D × V)} {G : Hp} {m : MH} {ρ : Ro} {F : Hp} {σ : L2.St} {H : Hp} {x y d : D} {v u : V} {Q : VK} (R : RS K b env hd G m ρ F σ H) (r1 : Rep K F ρ m x v) (r2 : Rep K F ρ m y u)
    (e : ((lstOf m x).bind fun xs => (lstOf m y).bind fun ys => if xs.length + ys.length ≤ sizeLine then some (D.lst (xs ++ ys)) else none) = some d) (q : ∀ ρ' F' H' v, RS K b env ((d, v) :: hd) G m ρ' F' σ H' → Q v H') : rCat v u H Q := by
  obtain ⟨xs, e1, e⟩ := Option.bind_eq_some_iff.mp e
  obtain ⟨ys, e2, e⟩ := Option.bind_eq_some_iff.mp e
  split at e
  · rename_i z
    cases e
    obtain ⟨a1, vs, rfl, h1, z1, rr1⟩ := lst_of R.rl e1 r1
    obtain ⟨a2, us, rfl, h2, z2, rr2⟩ := lst_of R.rl e2 r2
    have l1 := rr1.length
    have l2 := rr2.length
    exact ⟨a1, a2, vs, us, rfl, rfl, h1, h2, by omega, fun p hp => q _ _ _ _ (new_lst R (by simpa using z) (rr1.append rr2) hp)⟩
  · cases e
theorem sq_rep {K : KX} (o : Op2) : Op2R K (fun x y m => .of (seqOp o x y m) m) (sqR K.k o) := by
  intro b env hd G m ρ F σ H x y v u Q ex R r1 r2 p
  obtain ⟨d, e, q⟩ := p.of
  cases o with
  | add =>
    by_cases ht : ∃ xs ys, x = .tup xs ∧ y = .tup ys
    · obtain ⟨xs, ys, rfl, rfl⟩ := ht
      simp only [seqOp] at e
      split at e
      · rename_i z
        cases e
        obtain ⟨a1, vs, rfl, h1, z1, rr1⟩ := r1.tup_of
        obtain ⟨a2, us, rfl, h2, z2, rr2⟩ := r2.tup_of
        have l1 := rr1.length
        have l2 := rr2.length
        refine .inl ⟨a1, a2, vs, us, rfl, rfl, SqT.ext R.rl.fh h1, SqT.ext R.rl.fh h2, by omega, fun e => ?_, fun _ e => ?_, fun _ _ p hp => q _ _ _ _ (new_tup R (by simpa using z) (rr1.append rr2) hp)⟩
        · have := rr1.nil_iff.mp e
          subst this
          exact q ρ F H _ (R.hold r2)
        · have := rr2.nil_iff.mp e
          subst this
          rw [List.append_nil] at q
          exact q ρ F H _ (R.hold r1)
      · cases e
    · refine .inr (catL_rep R r1 r2 ?_ q)
      simp only [seqOp] at e
      split at e
      · exact absurd ⟨_, _, rfl, rfl⟩ ht
      · exact e
  | mul =>
    unfold seqOp at e
    cases y with
    | int k =>
      simp only at e
      obtain ⟨xs, e1, e⟩ := Option.bind_eq_some_iff.mp e
      split at e
      · rename_i z
        cases e
        obtain ⟨a1, vs, rfl, h1, z1, rr1⟩ := lst_of R.rl e1 r1
        have l1 := rr1.length
        exact ⟨a1, k, vs, rfl, r2.int_of, h1, z.1.1, z.1.2, by rw [← l1]; exact z.2, fun p hp => q _ _ _ _ (new_lst R (by rw [flat_len]; exact z.2) (rr1.rep k.toNat) hp)⟩
      · cases e
    | _ => cases e
  | _ => simp [seqOp] at e
section
variable {X : Cx} {rx : PySem.W.Frag → Exc → Value → Option Addr → Hp → Prop} {W : WX} {a b : Expr} {fa fb : Env → MH → Res D} {pos : Pos}
theorem pe_bin (o : Op2) (ha : PE X a (SE (kx X) rx W fa)) (hb : PE X b (SE (kx X) rx W fb)) : PE X (.BinOp a (opOf o) b pos) (SE (kx X) rx W fun v m => (fa v m).bind fun x m => (fb v m).bind fun y m => arith o x y m) := by
  refine PE.weak (pe_op ((ar_op o).or (sq_op o)) ha hb) fun σ H Q q => se_bin (fun b env hd G m ρ F σ H x y v u Q ex R r1 r2 p => ?_) q
  unfold arith at p
  split at p
  · exact .inl (ar_rep (K := kx X) o b env hd G m ρ F σ H x y v u Q ex R r1 r2 p)
  · exact .inr (sq_rep (K := kx X) o b env hd G m ρ F σ H x y v u Q ex R r1 r2 p)
end

section
variable {X : Cx} {K : KX} {rx : PySem.W.Frag → Exc → Value → Option Addr → Hp → Prop} {W : WX} {e a b c : Expr} {fa fb fc : Env → MH → Res D} {pos : Pos}
/-- a comparison's answer -/
theorem op2_cmp {g : MH → D → D → Option Bool} {r : R2}
    (h : ∀ m F ρ H x y v u (k : Bool) (Q : VK), Rl K F ρ m H → Rep K F ρ m x v → Rep K F ρ m y u → g m x y = some k → Q (.bl k) H → r v u H Q) :
    Op2R K (fun x y m => .of ((g m x y).map .bl) m) r := by
  intro b env hd G m ρ F σ H x y v u Q ex R rx ry p
  obtain ⟨d, e1, q⟩ := p.of
  obtain ⟨k, e2, rfl⟩ := Option.map_eq_some_iff.mp e1
  exact h m F ρ H x y v u k Q R.rl rx ry e2 (q ρ F H _ (R.hold (.bl k)))
theorem eqS_some {m : MH} {x y : D} {k : Bool} (h : eqS m x y = some k) : ∃ a b, dat m x = some a ∧ dat m y = some b ∧ SeqAt.shaped a = true ∧ SeqAt.shaped b = true ∧ k = PyData.eqv a b := by
  unfold eqS at h
  cases e1 : dat m x with
  | none => rw [e1] at h; cases h
  | some a =>
    cases e2 : dat m y with
    | none => rw [e1, e2] at h; cases h
    | some b =>
      rw [e1, e2] at h
      simp only at h
      split at h
      · rename_i z
        cases h
        simp only [Bool.and_eq_true] at z
        exact ⟨a, b, rfl, rfl, z.1, z.2, rfl⟩
      · cases h
theorem eqD_some {m : MH} {x y : D} {k : Bool} (h : eqD m x y = some k) : (∃ a b, x = .str a ∧ y = .str b ∧ k = decide (a = b)) ∨ ∃ a b, dat m x = some a ∧ dat m y = some b ∧ SeqAt.shaped a = true ∧ SeqAt.shaped b = true ∧ k = PyData.eqv a b := by
  unfold eqD at h
  split at h
  · rename_i k' e
    cases h
    cases x <;> cases y <;> first | (simp only [strs2, Option.some.injEq] at e; exact .inl ⟨_, _, rfl, rfl, e.symm⟩) | cases e
  · exact .inr (eqS_some h)
theorem isNon_rep {F : Hp} {ρ : Ro} {m : MH} {d : D} {v : V} (r : Rep K F ρ m d v) : decide (v = .non) = isNon d := by
  cases d with
  | non => cases r.non_of; rfl
  | bl => cases r.bl_of; rfl
  | int => cases r.int_of; rfl
  | str => cases r.str_of; rfl
  | tup => obtain ⟨a, vs, rfl, _⟩ := r.tup_of; rfl
  | lst => obtain ⟨a, vs, rfl, _⟩ := r.lst_of; rfl
  | ref => obtain ⟨rfl, _⟩ := r.ref_of; rfl
  | dct => obtain ⟨a, vs, rfl, _⟩ := r.dct_of; rfl
  | scr => obtain ⟨a, vs, rfl, _⟩ := r.scr_of; rfl
  | exc => obtain ⟨a, rfl, _⟩ := r.exc_of; rfl
def cmOf : Cm → CmpOp
  | .eq => .Eq | .ne => .NotEq | .lt => .Lt | .le => .LtE | .gt => .Gt | .ge => .GtE | .is_ => .Is | .isnot => .IsNot
theorem cmOf_in (o : Cm) (b : Expr) : behindInMarks (cmOf o) b = false := by cases o <;> exact nomark b (by decide) (by decide)
theorem cmp_ints {o : Cm} {m : MH} {x y : D} {k : Bool} (h : compare m o x y = some k) (ho : o = .lt ∨ o = .le ∨ o = .gt ∨ o = .ge) : ∃ i j, x = .int i ∧ y = .int j ∧ cmpI o i j = some k := by
  rcases ho with rfl | rfl | rfl | rfl <;> (cases x <;> cases y <;> first | exact ⟨_, _, rfl, rfl, h⟩ | (simp [compare] at h))
/-- the rule of a comparison by values -/
def cmR (K : PySem.W.Frag) : Cm → R2
  | .eq => fun x y H Q => rEq x y H Q ∨ rEqD K x y H Q
  | .ne => fun x y H Q => rNe x y H Q ∨ rNeD K x y H Q
  | .lt => rI0 fun i j => .bl (decide (i < j))
  | .le => rI0 fun i j => .bl (decide (i ≤ j))
  | .gt => rI0 fun i j => .bl (decide (j < i))
  | .ge => rI0 fun i j => .bl (decide (j ≤ i))
  | .is_ => fun x y H Q => y = .non ∧ Q (.bl (decide (x = .non))) H
  | .isnot => fun x y H Q => y = .non ∧ Q (.bl (!decide (x = .non))) H
theorem cm_op {X : Cx} (hu : X.A.units + 64 < cLine) (o : Cm) : OpR X (compareOp (cmOf o)) (cmR X.K o) := by
  cases o
  · exact op_eq.or (op_eqD hu)
  · exact op_ne.or (op_neD hu)
  · exact op_lt
  · exact op_le
  · exact op_gt
  · exact op_ge
  · exact op_isN
  · exact op_notN
theorem cm_rep (o : Cm) : Op2R K (fun x y m => .of ((compare m o x y).map .bl) m) (cmR K.k o) := by
  refine op2_cmp (g := fun m x y => compare m o x y) fun m F ρ H x y v u k Q R rx ry h q => ?_
  cases o with
  | eq =>
    rcases eqD_some h with ⟨a, b, rfl, rfl, rfl⟩ | ⟨a, b, e1, e2, s1, s2, rfl⟩
    · cases rx.str_of
      cases ry.str_of
      exact .inl ⟨rfl, by simpa using q⟩
    · exact .inr ⟨a, b, dp_dat R e1 s1 rx, dp_dat R e2 s2 ry, s1, s2, q⟩
  | ne =>
    obtain ⟨k', h1, rfl⟩ := Option.map_eq_some_iff.mp (show (eqD m x y).map (!·) = some k from h)
    rcases eqD_some h1 with ⟨a, b, rfl, rfl, rfl⟩ | ⟨a, b, e1, e2, s1, s2, rfl⟩
    · cases rx.str_of
      cases ry.str_of
      exact .inl ⟨rfl, by simpa using q⟩
    · exact .inr ⟨a, b, dp_dat R e1 s1 rx, dp_dat R e2 s2 ry, s1, s2, q⟩
  | is_ =>
    simp only [compare] at h
    split at h
    · rename_i z
      cases h
      have : u = .non := by
        have := isNon_rep ry
        rw [z] at this
        exact of_decide_eq_true this
      refine ⟨this, ?_⟩
      rw [isNon_rep rx]; exact q
    · cases h
  | isnot =>
    simp only [compare] at h
    split at h
    · rename_i z
      cases h
      have : u = .non := by
        have := isNon_rep ry
        rw [z] at this
        exact of_decide_eq_true this
      refine ⟨this, ?_⟩
      rw [isNon_rep rx]; exact q
    · cases h
  | _ =>
    obtain ⟨i, j, rfl, rfl, hc⟩ := cmp_ints h (by simp)
    simp only [cmpI] at hc; cases hc
    exact ⟨i, j, rx.int_of, ry.int_of, q⟩
theorem pe_cm (hu : X.A.units + 64 < cLine) (o : Cm) (ha : PE X a (SE (kx X) rx W fa)) (hb : PE X b (SE (kx X) rx W fb)) : PE X (.Compare a [cmOf o] [b] pos) (SE (kx X) rx W fun v m => (fa v m).bind fun x m => (fb v m).bind fun y m => .of ((compare m o x y).map .bl) m) :=
  PE.weak (pe_cmpR (cm_op hu o) ha hb (cmOf_in o b)) fun σ H Q q => se_bin (cm_rep o) q
/-- a value's test -/
theorem st_of {fe : Env → MH → Res D} {σ : L2.St} {H : Hp} {Q : Bool → Hp → Prop} (q : ST K rx W (fun v m => (fe v m).bind fun x m => .of (truth m x) m) σ H Q) : SE K rx W fe σ H fun x H1 => ∃ k, x = .bl k ∧ Q k H1 := by
  obtain ⟨b, env, hd, G, m, ρ, F, R, p⟩ := q
  refine ⟨b, env, hd, G, m, ρ, F, R, p.bind.imp (fun x m1 p1 ρ1 F1 H1 v R1 => ?_) fun _ _ z => z⟩
  obtain ⟨k, e1, q⟩ := p1.of
  cases x with
  | bl k' =>
    cases e1
    exact ⟨k, R1.top.bl_of, q ρ1 F1 H1 (R1.held fun _ => List.mem_cons_of_mem _)⟩
  | _ => cases e1
theorem pt_cm (hu : X.A.units + 64 < cLine) (o : Cm) (ha : PE X a (SE (kx X) rx W fa)) (hb : PE X b (SE (kx X) rx W fb)) :
    PT X (.Compare a [cmOf o] [b] pos) (ST (kx X) rx W fun v m => ((fa v m).bind fun x m => (fb v m).bind fun y m => .of ((compare m o x y).map .bl) m).bind fun x m => .of (truth m x) m) :=
  PT.weak (pt_cmpR (cm_op hu o) ha hb (cmOf_in o b)) fun σ H Q q => se_bin (rx := rx) (W := W) (cm_rep o) (st_of q)
theorem pt_plain {fe : Env → MH → Res D} (h : PE X e (SE (kx X) rx W fe)) (hp : plainTest e = true) : PT X e (ST (kx X) rx W fun v m => (fe v m).bind fun x m => .of (truth m x) m) :=
  PT.weak (pt_val h (test_ok hp)) fun σ H Q q => st_of q
end
end Fw

set_option Elab.async false
set_option linter.all false
set_option maxRecDepth 100000
set_option maxHeartbeats 1000000
set_option autoImplicit false
/-! ## Fw3: expressions, the other forms -/
namespace Fw
open PySem PySem.Spec PyProof.Rows L2

section
variable {X : Cx} {K : KX} {rx : PySem.W.Frag → Exc → Value → Option Addr → Hp → Prop} {W : WX} {e a b c : Expr} {es : List Expr} {fa fb fc : Env → MH → Res D} {fl : Env → MH → Res (List D)} {ft : Env → MH → Res Bool} {pos : Pos}

theorem pe_ret {v : V} {d : D} (h : PE X e (tC v)) (hf : flat d = true) (hv : flatV' d = v) : PE X e (SE (kx X) rx W fun _ m => .ok d m) :=
  PE.weak h fun σ H Q ⟨b, env, hd, G, m, ρ, F, R, p⟩ => by
    subst hv
    exact p ρ F H _ (R.hold (.flat hf))
theorem pe_local {i : Nat} {x : Str} (hN : X.N[i]? = some x) (hv : Vis X.env.scope x) (hd : (x == ("__debug__" : Str)) = false) (hcd : (x == ("__classdict__" : Str)) = false) : PE X (.Name x pos) (SE (kx X) rx W fun v m => .of (v.at_ i) m) :=
  PE.weak (pe_var (i := i) hN hv hd hcd) fun σ H Q ⟨b, env, hd, G, m, ρ, F, R, p⟩ => by
    obtain ⟨d, e, q⟩ := p.of
    obtain ⟨v, h1, h2⟩ := R.env i d e
    exact ⟨v, h1, q ρ F H v (R.hold h2)⟩
theorem pa_nil' : PA X [] (SA (kx X) rx W fun _ m => .ok [] m) :=
  PA.weak pa_nil fun σ H Q ⟨b, env, hd, G, m, ρ, F, R, p⟩ => p ρ F H [] R rfl
theorem pa_cons' (h1 : PE X a (SE (kx X) rx W fa)) (h2 : PA X es (SA (kx X) rx W fl)) (hs : notStar a = true) : PA X (a :: es) (SA (kx X) rx W fun v m => (fa v m).bind fun x m => (fl v m).bind fun xs m => .ok (x :: xs) m) :=
  PA.weak (pa_cons h1 h2 (star_ok hs)) fun σ H Q ⟨b, env, hd, G, m, ρ, F, R, p⟩ => by
    refine ⟨b, env, hd, G, m, ρ, F, R, p.bind.imp (fun x m1 p1 ρ1 F1 H1 v R1 => ?_) fun _ _ z => z⟩
    refine ⟨b, env, (x, v) :: hd, G, m1, ρ1, F1, R1, p1.bind.imp (fun xs m2 p2 ρ2 F2 H2 vs R2 hl => ?_) fun _ _ z ρ' F' H' c dd R' => z ρ' F' H' c dd (R'.held fun _ => List.mem_cons_of_mem _)⟩
    refine p2 ρ2 F2 H2 (v :: vs) (R2.held fun q hq => ?_) (by simp [hl])
    simp only [List.zip_cons_cons, List.cons_append, List.mem_cons, List.mem_append] at hq ⊢
    rcases hq with hq | hq | hq <;> simp [hq]
/-- from the items' list to what is made of it -/
theorem sa_then {g : List D → MH → Res D} {r : List V → Hp → VK → Prop} {σ : L2.St} {H : Hp} {Q : VK}
    (h : ∀ b env hd G m ρ F H xs vs, RS K b env hd G m ρ F σ H → RepL K F ρ m xs vs →
      Post (g xs m) (fun d m' => ∀ ρ' F' H' v, RS K b env ((d, v) :: hd) G m' ρ' F' σ H' → Q v H') (Ex K rx W b env hd G σ) → r vs H Q)
    (q : SE K rx W (fun v m => (fl v m).bind fun xs m => g xs m) σ H Q) : SA K rx W fl σ H fun vs H1 => r vs H1 Q := by
  obtain ⟨b, env, hd, G, m, ρ, F, R, p⟩ := q
  refine ⟨b, env, hd, G, m, ρ, F, R, p.bind.imp (fun xs m1 p1 ρ1 F1 H1 vs R1 hl => ?_) fun _ _ z => z⟩
  exact h b env hd G m1 ρ1 F1 H1 xs vs (R1.held fun _ z => List.mem_append_right _ z) (RS.list R1 hl) p1
theorem pe_tup' {x1 : Nat} (h : PA X es (SA (kx X) rx W fl)) : PE X (.Tuple es x1 pos) (SE (kx X) rx W fun v m => (fl v m).bind fun xs m => if xs.length ≤ sizeLine then .ok (.tup xs) m else .fail) :=
  PE.weak (pe_tup h) fun σ H Q q => sa_then (r := fun vs H1 Q => vs.length ≤ sizeLine ∧ ∀ p, H1 p = none → Q (.ref p) (upd H1 p (.tup vs))) (fun b env hd G m ρ F H xs vs R rr p => by
    have hl := rr.length
    split at p
    · rename_i z
      refine ⟨by omega, fun a ha => p ρ _ _ _ ((R.newF (.tup vs) ha).hold (.tup (SqT.of upd_same) z (rr.ext (.newF ?_))))⟩
      cases e : F a with
      | none => rfl
      | some u => rw [R.rl.fh _ _ e] at ha; cases ha
    · exact p.elim) q
theorem pe_lst' (h : PA X es (SA (kx X) rx W fl)) : PE X (.List es pos) (SE (kx X) rx W fun v m => (fl v m).bind fun xs m => if xs.length ≤ sizeLine then .ok (.lst xs) m else .fail) :=
  PE.weak (pe_lst h) fun σ H Q q => sa_then (r := fun vs H1 Q => vs.length ≤ sizeLine ∧ ∀ p, H1 p = none → Q (.ref p) (upd H1 p (.lst vs))) (fun b env hd G m ρ F H xs vs R rr p => by
    have hl := rr.length
    split at p
    · rename_i z
      exact ⟨by omega, fun a ha => p ρ _ _ _ (new_lst R z rr ha)⟩
    · exact p.elim) q
theorem pe_new' (h : PA X es (SA (kx X) rx W fl)) : PE X (.List es pos) (SE (kx X) rx W fun v m => (fl v m).bind fun xs m => if xs.length ≤ sizeLine then alloc m (.lst xs) else .fail) :=
  PE.weak (pe_lst h) fun σ H Q q => sa_then (r := fun vs H1 Q => vs.length ≤ sizeLine ∧ ∀ p, H1 p = none → Q (.ref p) (upd H1 p (.lst vs))) (fun b env hd G m ρ F H xs vs R rr p => by
    have hl := rr.length
    split at p
    · rename_i z
      refine ⟨by omega, fun a ha => ?_⟩
      cases m with
      | nil => exact p.elim
      | cons fr r =>
        simp only [alloc] at p
        split at p
        · rename_i hb
          have := p _ _ _ _ ((R.alloc ha z hb rr).hold (.ref (Lv.snoc.mpr (.inl ⟨rfl, rfl⟩))))
          rw [Ro.put_same] at this
          exact this
        · exact p.elim
    · exact p.elim) q
theorem pe_neg (h : PE X a (SE (kx X) rx W fa)) : PE X (.UnaryOp .USub a pos) (SE (kx X) rx W fun v m => (fa v m).bind fun x m => (match x with
    | .int i => .ok (.int (-i)) m
    | _ => .fail)) :=
  PE.weak (pe_un un_neg h) fun σ H Q ⟨b, env, hd, G, m, ρ, F, R, p⟩ => by
    refine ⟨b, env, hd, G, m, ρ, F, R, p.bind.imp (fun x m1 p1 ρ1 F1 H1 v R1 => ?_) fun _ _ z => z⟩
    cases x with
    | int i => exact ⟨i, R1.top.int_of, p1 ρ1 F1 H1 _ ((R1.held fun _ => List.mem_cons_of_mem _).hold (.int _))⟩
    | _ => exact p1.elim
theorem pe_not' (h : PE X a (SE (kx X) rx W fa)) : PE X (.UnaryOp .Not a pos) (SE (kx X) rx W fun v m => (fa v m).bind fun x m => (match x with
    | .bl k => .ok (.bl (!k)) m
    | _ => .fail)) :=
  PE.weak (pe_not h) fun σ H Q ⟨b, env, hd, G, m, ρ, F, R, p⟩ => by
    refine ⟨b, env, hd, G, m, ρ, F, R, p.bind.imp (fun x m1 p1 ρ1 F1 H1 v R1 => ?_) fun _ _ z => z⟩
    cases x with
    | bl i => exact ⟨i, R1.top.bl_of, p1 ρ1 F1 H1 _ ((R1.held fun _ => List.mem_cons_of_mem _).hold (.bl _))⟩
    | _ => exact p1.elim
theorem pe_and' {rest : List Expr} (h1 : PE X a (SE (kx X) rx W fa)) (h2 : PE X (.BoolOp .And (b :: rest) pos) (SE (kx X) rx W fb)) : PE X (.BoolOp .And (a :: b :: rest) pos) (SE (kx X) rx W fun v m => (fa v m).bind fun x m => (match x with
    | .bl true => fb v m
    | .bl false => .ok (.bl false) m
    | _ => .fail)) :=
  PE.weak (pe_and h1 h2) fun σ H Q ⟨b, env, hd, G, m, ρ, F, R, p⟩ => by
    refine ⟨b, env, hd, G, m, ρ, F, R, p.bind.imp (fun x m1 p1 ρ1 F1 H1 v R1 => ?_) fun _ _ z => z⟩
    cases x with
    | bl i =>
      refine ⟨i, R1.top.bl_of, ?_⟩
      have R2 := R1.held (hd' := hd) fun _ => List.mem_cons_of_mem _
      cases i with
      | true => exact ⟨b, env, hd, G, m1, ρ1, F1, R2, p1⟩
      | false => exact p1 ρ1 F1 H1 _ (R2.hold (.bl _))
    | _ => exact p1.elim
theorem pe_or' {rest : List Expr} (h1 : PE X a (SE (kx X) rx W fa)) (h2 : PE X (.BoolOp .Or (b :: rest) pos) (SE (kx X) rx W fb)) : PE X (.BoolOp .Or (a :: b :: rest) pos) (SE (kx X) rx W fun v m => (fa v m).bind fun x m => (match x with
    | .bl true => .ok (.bl true) m
    | .bl false => fb v m
    | _ => .fail)) :=
  PE.weak (pe_or h1 h2) fun σ H Q ⟨b, env, hd, G, m, ρ, F, R, p⟩ => by
    refine ⟨b, env, hd, G, m, ρ, F, R, p.bind.imp (fun x m1 p1 ρ1 F1 H1 v R1 => ?_) fun _ _ z => z⟩
    cases x with
    | bl i =>
      refine ⟨i, R1.top.bl_of, ?_⟩
      have R2 := R1.held (hd' := hd) fun _ => List.mem_cons_of_mem _
      cases i with
      | false => exact ⟨b, env, hd, G, m1, ρ1, F1, R2, p1⟩
      | true => exact p1 ρ1 F1 H1 _ (R2.hold (.bl _))
    | _ => exact p1.elim
theorem pe_one' {op : BoolOp} (h : PE X a (SE (kx X) rx W fa)) : PE X (.BoolOp op [a] pos) (SE (kx X) rx W fa) := pe_one h
/-! tests -/
variable {ga gb : Env → MH → Res Bool}
theorem pw_and' {rest : List Expr} (h1 : PT X a (ST (kx X) rx W ga)) (h2 : PW X (.BoolOp .And (b :: rest) pos) (ST (kx X) rx W gb)) : PW X (.BoolOp .And (a :: b :: rest) pos) (ST (kx X) rx W fun v m => (ga v m).bind fun t m => if t then gb v m else .ok false m) :=
  PW.weak (pw_and h1 h2) fun σ H Q ⟨b, env, hd, G, m, ρ, F, R, p⟩ => by
    refine ⟨b, env, hd, G, m, ρ, F, R, p.bind.imp (fun x m1 p1 ρ1 F1 H1 R1 => ?_) fun _ _ z => z⟩
    cases x with
    | true => exact ⟨b, env, hd, G, m1, ρ1, F1, R1, p1⟩
    | false => exact p1 ρ1 F1 H1 R1
theorem pw_or' {rest : List Expr} (h1 : PT X a (ST (kx X) rx W ga)) (h2 : PW X (.BoolOp .Or (b :: rest) pos) (ST (kx X) rx W gb)) : PW X (.BoolOp .Or (a :: b :: rest) pos) (ST (kx X) rx W fun v m => (ga v m).bind fun t m => if t then .ok true m else gb v m) :=
  PW.weak (pw_or h1 h2) fun σ H Q ⟨b, env, hd, G, m, ρ, F, R, p⟩ => by
    refine ⟨b, env, hd, G, m, ρ, F, R, p.bind.imp (fun x m1 p1 ρ1 F1 H1 R1 => ?_) fun _ _ z => z⟩
    cases x with
    | false => exact ⟨b, env, hd, G, m1, ρ1, F1, R1, p1⟩
    | true => exact p1 ρ1 F1 H1 R1
theorem pt_not' (h1 : PT X a (ST (kx X) rx W ga)) : PT X (.UnaryOp .Not a pos) (ST (kx X) rx W fun v m => (ga v m).bind fun t m => .ok (!t) m) :=
  PT.weak (pt_not h1) fun σ H Q ⟨b, env, hd, G, m, ρ, F, R, p⟩ =>
    ⟨b, env, hd, G, m, ρ, F, R, p.bind.imp (fun x m1 p1 ρ1 F1 H1 R1 => p1 ρ1 F1 H1 R1) fun _ _ z => z⟩
theorem pe_ite (h0 : PT X c (ST (kx X) rx W ft)) (h1 : PE X a (SE (kx X) rx W fa)) (h2 : PE X b (SE (kx X) rx W fb)) : PE X (.IfExp c a b pos) (SE (kx X) rx W fun v m => (ft v m).bind fun t m => if t then fa v m else fb v m) :=
  PE.weak (pe_ifExp h0 h1 h2) fun σ H Q ⟨b, env, hd, G, m, ρ, F, R, p⟩ => by
    refine ⟨b, env, hd, G, m, ρ, F, R, p.bind.imp (fun x m1 p1 ρ1 F1 H1 R1 => ?_) fun _ _ z => z⟩
    cases x with
    | true => exact ⟨b, env, hd, G, m1, ρ1, F1, R1, p1⟩
    | false => exact ⟨b, env, hd, G, m1, ρ1, F1, R1, p1⟩
/-! an item -/
def rIx (K : PySem.W.Frag) : R2 := fun x y H Q => rIxL K x y H Q ∨ rIxT K x y H Q
theorem getAt_rep {K : KX} : Op2R K (fun x y m => .of (getAt m x y) m) (rIx K.k) := by
  intro b env hd G m ρ F σ H x y v u Q ex R rx ry p
  obtain ⟨d, e, q⟩ := p.of
  unfold getAt at e
  cases y with
  | int k =>
    simp only at e
    obtain ⟨l, e1, e2⟩ := Option.bind_eq_some_iff.mp e
    obtain ⟨n, e3, e4⟩ := Option.bind_eq_some_iff.mp e2
    obtain ⟨a, vs, rfl, hs, z, rr⟩ := seq_of R.rl e1 rx
    obtain ⟨w, hw, rw'⟩ := rr.get e4
    have hk : atI vs k = some w := by
      unfold atI
      rw [← rr.length, show ixN l.length k = some n from e3]; exact hw
    have fin := q ρ F H w (R.hold rw')
    rcases hs with hs | hs
    · exact .inl ⟨a, vs, k, w, rfl, ry.int_of, hs, hk, fin⟩
    · exact .inr ⟨a, vs, k, w, rfl, ry.int_of, hs, hk, fin⟩
  | _ => cases e
theorem pe_idx (ha : PE X a (SE (kx X) rx W fa)) (hb : PE X b (SE (kx X) rx W fb)) (hp : plainIx b = true) : PE X (.Subscript a b pos) (SE (kx X) rx W fun v m => (fa v m).bind fun x m => (fb v m).bind fun y m => .of (getAt m x y) m) :=
  PE.weak (pe_ix (ix_list.or ix_tup) ha hb (plainIx_ok hp)) fun σ H Q q => se_bin getAt_rep q
/-! append -/
theorem isL_at {m : MH} {x : D} (h : isL m x = true) : ∃ l i xs, x = .ref l i ∧ get m l i = some (.lst xs) := by
  unfold isL at h
  cases x with
  | ref l i =>
    cases g : get m l i with
    | none => simp [g] at h
    | some o => cases o with
      | lst xs => exact ⟨l, i, xs, rfl, g⟩
  | _ => cases h
theorem pe_app {apos cpos : Pos} (ha : PE X a (SE (kx X) rx W fa)) (hb : PE X b (SE (kx X) rx W fb)) (hs : notStar b = true) (h1 : attributeBase a "append" X.env (eval a X.env) = eval a X.env) (h2 : (apos.endLine == cpos.line) = true) :
    PE X (.Call (.Attribute a "append" apos) [b] [] cpos) (SE (kx X) rx W fun v m => (fa v m).bind fun x m => if isL m x then (fb v m).bind fun y m => append x y m else .fail) := by
  have hpa : PA X [b] _ := pa_cons' hb pa_nil' hs
  refine PE.weak (pe_bm PySem.F.plainAttrs_list PySem.F.slot_list_append PySem.F.type_list_append mt_append ha hpa h1 ?_ h2 (star_ok hs) rfl) fun σ H Q ⟨b, env, hd, G, m, ρ, F, R, p⟩ => ?_
  · rw [star_ok hs]; rfl
  · refine ⟨b, env, hd, G, m, ρ, F, R, p.bind.imp (fun x m1 p1 ρ1 F1 H1 v R1 => ?_) fun _ _ z => z⟩
    split at p1
    · rename_i hx
      obtain ⟨l, i, xs, rfl, g⟩ := isL_at hx
      obtain ⟨rfl, hl⟩ := R1.top.ref_of
      obtain ⟨_, vs, hv, z, rr⟩ := R1.rl.ob l i _ g
      refine ⟨.inl ⟨rfl, vs, SqL.of hv⟩, ?_⟩
      refine ⟨b, env, (.ref l i, .ref (ρ1 l i)) :: hd, G, m1, ρ1, F1, R1, ?_⟩
      have p1 := p1.bind
      show Post ((fb env m1).bind fun x m => (Res.ok [] m).bind fun xs m => Res.ok (x :: xs) m) _ _
      cases hfb : fb env m1 with
      | fail => rw [hfb] at p1; exact p1.elim
      | exc e m2 =>
        rw [hfb] at p1
        show Ex (kx X) rx W b env ((.ref l i, .ref (ρ1 l i)) :: hd) G σ e m2
        exact fun ρ' F' H' c dd R' => p1 ρ' F' H' c dd (R'.held fun _ => List.mem_cons_of_mem _)
      | ok y m2 =>
        rw [hfb] at p1
        show ∀ ρ' F' H' vs, RS (kx X) b env ([y].zip vs ++ (.ref l i, .ref (ρ1 l i)) :: hd) G m2 ρ' F' σ H' → [y].length = vs.length → _
        intro ρ2 F2 H2 us R2 hlen
        obtain ⟨u, rfl⟩ : ∃ u, us = [u] := by
          match us, hlen with
          | [u], _ => exact ⟨u, rfl⟩
        have R3 : RS (kx X) b env ((y, u) :: (.ref l i, .ref (ρ1 l i)) :: hd) G m2 ρ2 F2 σ H2 := R2
        obtain ⟨e3, hl3⟩ := (R3.hd (.ref l i, .ref (ρ1 l i)) (by simp)).ref_of
        simp only at e3
        have p1 : Post (append (.ref l i) y m2) _ _ := p1
        unfold append at p1
        cases g2 : get m2 l i with
        | none => simp only [g2] at p1; exact p1.elim
        | some o =>
          cases o with
          | lst ys =>
            simp only [g2] at p1
            split at p1
            · rename_i hc
              simp only [Bool.and_eq_true, decide_eq_true_eq] at hc
              obtain ⟨_, vs2, hv2, z2, rr2⟩ := R3.rl.ob l i _ g2
              have hwf : bdL (l + 1) ys = true := R3.rl.wf l i _ g2
              have hbd : bdL (l + 1) (ys ++ [y]) = true := by
                clear p1 rr2 hv2 g2 z2
                obtain ⟨hc1, hc2⟩ := hc
                clear hc2
                induction ys with
                | nil => simp [bdL, hc1]
                | cons q qs ih =>
                  simp only [bdL, Bool.and_eq_true] at hwf
                  simp only [List.cons_append, bdL, Bool.and_eq_true]
                  exact ⟨hwf.1, ih hwf.2⟩
              refine ⟨ρ2 l i, vs2, u, e3, rfl, hv2, by rw [← rr2.length]; exact hc.2, ?_⟩
              have R4 := R3.put g2 (xs := ys ++ [y]) (vs := vs2 ++ [u]) (by simp; omega) hbd (rr2.append (.one (R3.hd (y, u) (by simp))))
              exact p1 ρ2 F2 _ _ ((R4.held fun _ z => List.mem_cons_of_mem _ (List.mem_cons_of_mem _ z)).hold .non)
            · exact p1.elim
    · exact p1.elim
end
end Fw

set_option Elab.async false
set_option linter.all false
set_option maxRecDepth 100000
set_option maxHeartbeats 1000000
set_option autoImplicit false
/-! ## Fw4: built-ins -/
namespace Fw
open PySem PySem.Spec PyProof.Rows L2

theorem CallR.weak {X : Cx} {f : Value} {r r' : List V → Hp → VK → Prop} (h : CallR X f r') (k : ∀ vs H Q, r vs H Q → r' vs H Q) : CallR X f r := fun pins s σ H xs us Q I rr q => h pins s σ H xs us Q I rr (k _ _ _ q)
def BiR (K : KX) (f : List D → MH → Option D) (r : List V → Hp → VK → Prop) : Prop :=
  ∀ b env hd G m ρ F σ H xs vs d (Q : VK), RS K b env hd G m ρ F σ H → RepL K F ρ m xs vs → f xs m = some d → (∀ F' H' v, RS K b env ((d, v) :: hd) G m ρ F' σ H' → Q v H') → r vs H Q
/-- what any built-in is to give -/
def biV (K : KX) (f : List D → MH → Option D) : List V → Hp → VK → Prop := fun vs H Q => ∃ b env hd G m ρ F σ xs d, RS K b env hd G m ρ F σ H ∧ RepL K F ρ m xs vs ∧ f xs m = some d ∧ ∀ F' H' v, RS K b env ((d, v) :: hd) G m ρ F' σ H' → Q v H'
theorem biV_of {X : Cx} {f : Value} {K : KX} {g : List D → MH → Option D} {r : List V → Hp → VK → Prop} (h : CallR X f r) (k : BiR K g r) : CallR X f (biV K g) :=
  CallR.weak h fun vs H Q ⟨b, env, hd, G, m, ρ, F, σ, xs, d, R, rr, e, q⟩ => k b env hd G m ρ F σ H xs vs d Q R rr e q
theorem pe_bi {X : Cx} {rx : PySem.W.Frag → Exc → Value → Option Addr → Hp → Prop} {W : WX} {e : Expr} {es : List Expr} {fl : Env → MH → Res (List D)} {p pos : Pos} {x : Str} {id : String} {g : List D → MH → Option D}
    (hc : CallR X (.builtin id) (biV (kx X) g)) (hg : Gl X x) (hm : X.mg x = none) (hv : bootBuiltins x = some (.builtin id)) (ha : PA X (e :: es) (SA (kx X) rx W fl)) (hn : x ≠ "__name__") (hdb : (x == ("__debug__" : Str)) = false) (hs : (e :: es).all notStar = true) :
    PE X (.Call (.Name x p) (e :: es) [] pos) (SE (kx X) rx W fun v m => (fl v m).bind fun xs m => .of (g xs m) m) := by
  have hs' := hs
  simp only [List.all_cons, Bool.and_eq_true] at hs'
  exact PE.weak (pe_callB hc hg hm hv ha hn hdb (star_ok hs'.1) (star_none hs'.2)) fun σ H Q q => sa_then (r := biV (kx X) g) (fun b env hd G m ρ F H xs vs R rr p => by
    obtain ⟨d, e, q⟩ := p.of
    exact ⟨b, env, hd, G, m, ρ, F, σ, xs, d, R, rr, e, fun F' H' v R' => q ρ F' H' v R'⟩) q
theorem pe_biT {X : Cx} {rx : PySem.W.Frag → Exc → Value → Option Addr → Hp → Prop} {W : WX} {e : Expr} {es : List Expr} {fl : Env → MH → Res (List D)} {p pos : Pos} {x : Str} {id : String} {g : List D → MH → Option D}
    (hc : CallR X (.type id) (biV (kx X) g)) (hg : Gl X x) (hm : X.mg x = none) (hv : bootBuiltins x = some (.type id)) (ha : PA X (e :: es) (SA (kx X) rx W fl)) (hn : x ≠ "__name__") (hdb : (x == ("__debug__" : Str)) = false) (hs : (e :: es).all notStar = true) :
    PE X (.Call (.Name x p) (e :: es) [] pos) (SE (kx X) rx W fun v m => (fl v m).bind fun xs m => .of (g xs m) m) := by
  have hs' := hs
  simp only [List.all_cons, Bool.and_eq_true] at hs'
  exact PE.weak (pe_callTy hc hg hm hv ha hn hdb (star_ok hs'.1) (star_none hs'.2)) fun σ H Q q => sa_then (r := biV (kx X) g) (fun b env hd G m ρ F H xs vs R rr p => by
    obtain ⟨d, e, q⟩ := p.of
    exact ⟨b, env, hd, G, m, ρ, F, σ, xs, d, R, rr, e, fun F' H' v R' => q ρ F' H' v R'⟩) q

section
variable {K : KX} {F H : Hp} {ρ : Ro} {m : MH}
theorem repl1 {x : D} {vs : List V} (r : RepL K F ρ m [x] vs) : ∃ v, vs = [v] ∧ Rep K F ρ m x v := by
  unfold RepL at r
  obtain ⟨v, t, rfl, h, h2⟩ := r
  unfold RepL at h2
  exact ⟨v, by rw [h2], h⟩
theorem repl2 {x y : D} {vs : List V} (r : RepL K F ρ m [x, y] vs) : ∃ v u, vs = [v, u] ∧ Rep K F ρ m x v ∧ Rep K F ρ m y u := by
  unfold RepL at r
  obtain ⟨v, t, rfl, h, h2⟩ := r
  obtain ⟨u, rfl, h3⟩ := repl1 h2
  exact ⟨v, u, rfl, h, h3⟩
end

/-! ### greatest, least -/
theorem foldl_max (xs : List Int) (x : Int) : (xs.foldl (fun a b => if b > a then b else a) x ∈ x :: xs) ∧ ∀ y ∈ x :: xs, y ≤ xs.foldl (fun a b => if b > a then b else a) x := by
  induction xs generalizing x with
  | nil => simp
  | cons a xs ih =>
    obtain ⟨h1, h2⟩ := ih (if a > x then a else x)
    simp only [List.foldl_cons]
    refine ⟨?_, fun y hy => ?_⟩
    · rcases List.mem_cons.mp h1 with h | h
      · rw [h]; split <;> simp
      · exact List.mem_cons_of_mem _ (List.mem_cons_of_mem _ h)
    · have hb := h2 _ List.mem_cons_self
      rcases List.mem_cons.mp hy with rfl | hy
      · refine Int.le_trans ?_ hb; split <;> omega
      · rcases List.mem_cons.mp hy with rfl | hy
        · refine Int.le_trans ?_ hb; split <;> omega
        · exact h2 y (List.mem_cons_of_mem _ hy)
theorem foldl_min (xs : List Int) (x : Int) : (xs.foldl (fun a b => if b < a then b else a) x ∈ x :: xs) ∧ ∀ y ∈ x :: xs, xs.foldl (fun a b => if b < a then b else a) x ≤ y := by
  induction xs generalizing x with
  | nil => simp
  | cons a xs ih =>
    obtain ⟨h1, h2⟩ := ih (if a < x then a else x)
    simp only [List.foldl_cons]
    refine ⟨?_, fun y hy => ?_⟩
    · rcases List.mem_cons.mp h1 with h | h
      · rw [h]; split <;> simp
      · exact List.mem_cons_of_mem _ (List.mem_cons_of_mem _ h)
    · have hb := h2 _ List.mem_cons_self
      rcases List.mem_cons.mp hy with rfl | hy
      · refine Int.le_trans hb ?_; split <;> omega
      · rcases List.mem_cons.mp hy with rfl | hy
        · refine Int.le_trans hb ?_; split <;> omega
        · exact h2 y (List.mem_cons_of_mem _ hy)
theorem maxI_spec {ns : List Int} (h : ns ≠ []) : maxI ns ∈ ns ∧ ∀ y ∈ ns, y ≤ maxI ns := by
  cases ns with
  | nil => exact absurd rfl h
  | cons x xs => exact foldl_max xs x
theorem minI_spec {ns : List Int} (h : ns ≠ []) : minI ns ∈ ns ∧ ∀ y ∈ ns, minI ns ≤ y := by
  cases ns with
  | nil => exact absurd rfl h
  | cons x xs => exact foldl_min xs x

section
variable {X : Cx}
/-- repr of data -/
theorem call_reprD (hg : X.A.guards = some []) (hu : X.A.units + 64 < cLine) : CallR X (.builtin "repr") (fun vs H Q => ∃ v d, vs = [v] ∧ Dq X.K H v d ∧ d.showable = true ∧ (d.hasDict = true → noList d = true) ∧ d.depth ≤ 60 ∧ d.shown.length ≤ sizeLine ∧ Q (.str d.shown) H) := by
  intro pins s σ H vs us Q I r h
  obtain ⟨v, d, rfl, hd, h1, h2, h3, h4, q⟩ := h
  cases r with
  | cons r0 rt =>
    cases rt
    rename_i u
    obtain ⟨as, rd, hns⟩ := hd.reads I u r0
    have fin : ∀ (h' : Heap) (t : Tok) (tk : Nat), (∀ b o, s.heap.get? b = some o → h'.get? b = some o) → EP X pins σ Q (.str d.shown t) { heap := h', gens := s.gens, drawn := s.drawn, toks := tk, os := s.os } := fun h' t tk hk => ⟨.str d.shown, H, I.kept hk, ⟨t, rfl⟩, q⟩
    have all : ∀ a, u = .ref a → wpAny (model X.prog X.w) X.A (call (.builtin "repr") [u]) (EP X pins σ Q) X.xe s := fun a e => by
      subst e
      exact repr_of_reads' rd h1 (fun e => hns (h2 e)) hg (by omega) (fun _ _ e => e) (fun h' t tk hk => fin h' t tk hk) h4
    cases hd with
    | non => cases (show u = Value.none from r0); exact PySem.P.repr_of_none (fin _ _ _ fun _ _ e => e)
    | bl b => cases (show u = Value.bool b from r0); exact PySem.P.repr_of_bool (fin _ _ _ fun _ _ e => e)
    | int i =>
      obtain ⟨t, rfl⟩ := r0
      exact PySem.P.repr_of_int (by simpa [PyData.showable] using h1) (fin _ _ _ fun _ _ e => e)
    | str x =>
      obtain ⟨t, rfl⟩ := r0
      exact PySem.P.repr_of_str (fin _ _ _ fun _ _ e => e) (by simpa [PyData.shown] using h4)
    | lst hs ha => exact all _ r0
    | tup hs ha => exact all _ r0
    | dct hs hl ha => exact all _ r0
theorem call_sumT (hc : X.calm = true) : CallR X (.builtin "sum") (fun vs H Q => ∃ (a : Addr) (ns : List Int), vs = [V.ref a] ∧ SqT X.K H a (ns.map V.int) ∧ Q (.int ns.sum) H) := by
  intro pins s σ H vs us Q I r h
  obtain ⟨a, ns, rfl, hs, q⟩ := h
  obtain ⟨its, rv, hl, _⟩ := I.tuple hs
  rw [Vals.ref1 r]
  have hi := rv.ints
  obtain ⟨xs, e⟩ := hi.allInts.items
  have hn : numsOf (intItems xs).toList = ns := by rw [← e]; exact hi.numsOf
  rw [nums_intItems] at hn
  have hl' : s.heap.IsTuple a (intItems xs) := by rw [← e]; exact hl
  refine PySem.W.ktm_sumG (I.ok.hd hc) hl' fun h' tk t' hk => ?_
  rw [preSum_eq, List.take_of_length_le (by simp), hn]
  exact ⟨.int ns.sum, H, I.kept hk, ⟨_, rfl⟩, q⟩

def biName : Bi → Str
  | .len => "len" | .abs => "abs" | .min => "min" | .max => "max" | .repr => "repr" | .sum => "sum" | .all => "all" | .any => "any" | .tuple => "tuple" | .list => "list" | .sorted => "sorted" | .int => "int"
theorem CallR.or {f : Value} {r r' : List V → Hp → VK → Prop} (h : CallR X f r) (h' : CallR X f r') : CallR X f (fun vs H Q => r vs H Q ∨ r' vs H Q) := fun pins s σ H xs us Q I rr q => q.elim (h pins s σ H xs us Q I rr) (h' pins s σ H xs us Q I rr)

/-- a built-in of one argument -/
theorem biR1 {K : KX} {g : MH → D → Option D} {r : List V → Hp → VK → Prop} {bi : Bi} (hb : ∀ xs m d, built bi xs m = some d → ∃ x, xs = [x] ∧ g m x = some d)
    (h : ∀ b env hd G m ρ F σ H x v d (Q : VK), RS K b env hd G m ρ F σ H → Rep K F ρ m x v → g m x = some d → (∀ F' H' v, RS K b env ((d, v) :: hd) G m ρ F' σ H' → Q v H') → r [v] H Q) : BiR K (built bi) r := by
  intro b env hd G m ρ F σ H xs vs d Q R rr e q
  obtain ⟨x, rfl, e2⟩ := hb xs m d e
  obtain ⟨v, rfl, r⟩ := repl1 rr
  exact h b env hd G m ρ F σ H x v d Q R r e2 q
theorem bi_one {bi : Bi} {g : MH → D → Option D} (h1 : ∀ x m, built bi [x] m = g m x) (h2 : ∀ x y m, built bi [x, y] m = none) : ∀ xs m d, built bi xs m = some d → ∃ x, xs = [x] ∧ g m x = some d
  | [], m, d, e => by cases e
  | [x], m, d, e => ⟨x, rfl, by rw [← h1]; exact e⟩
  | [x, y], m, d, e => by rw [h2] at e; cases e
  | _ :: _ :: _ :: _, m, d, e => by cases e
theorem len_seq {m : MH} {x d : D} (e : lenD m x = some d) : (∃ s, x = .str s ∧ s.length ≤ sizeLine ∧ d = .int s.length) ∨ ∃ l, seqOf m x = some l ∧ d = .int l.length := by
  cases x with
  | str s =>
    simp only [lenD] at e
    split at e
    · rename_i z; cases e; exact .inl ⟨s, rfl, z, rfl⟩
    · cases e
  | tup ys => simp only [lenD] at e; obtain ⟨l, e1, e2⟩ := Option.map_eq_some_iff.mp e; exact .inr ⟨l, e1, e2.symm⟩
  | lst ys => simp only [lenD] at e; obtain ⟨l, e1, e2⟩ := Option.map_eq_some_iff.mp e; exact .inr ⟨l, e1, e2.symm⟩
  | scr ys => simp only [lenD] at e; obtain ⟨l, e1, e2⟩ := Option.map_eq_some_iff.mp e; exact .inr ⟨l, e1, e2.symm⟩
  | ref a i => simp only [lenD] at e; obtain ⟨l, e1, e2⟩ := Option.map_eq_some_iff.mp e; exact .inr ⟨l, e1, e2.symm⟩
  | _ => simp [lenD, seqOf] at e
theorem bi_len : CallR X (.builtin "len") (biV (kx X) (built .len)) := biV_of call_len (biR1 (bi_one (fun _ _ => rfl) fun _ _ _ => rfl) fun b env hd G m ρ F σ H x v d Q R r e q => by
  rcases len_seq e with ⟨s, rfl, z, rfl⟩ | ⟨l, e1, rfl⟩
  · exact ⟨.str s, s.length, by rw [r.str_of], ⟨z, rfl⟩, q F H _ (R.hold (.int _))⟩
  · obtain ⟨a, vs, rfl, hs, z, rs⟩ := seq_of R.rl e1 r
    refine ⟨_, l.length, rfl, ?_, q F H _ (R.hold (.int _))⟩
    rcases hs with hs | hs
    · exact .inl ⟨vs, hs, rs.length⟩
    · exact .inr ⟨vs, hs, rs.length⟩)
theorem int1_some {f : Int → Int} {x d : D} (e : int1 f x = some d) : ∃ i, x = .int i ∧ d = .int (f i) := by
  cases x <;> first | (cases e; exact ⟨_, rfl, rfl⟩) | cases e
theorem int2_some {f : Int → Int → Int} {x y d : D} (e : int2 f x y = some d) : ∃ i j, x = .int i ∧ y = .int j ∧ d = .int (f i j) := by
  cases x <;> cases y <;> first | (cases e; exact ⟨_, _, rfl, rfl, rfl⟩) | cases e
theorem ints1_some {m : MH} {f : List Int → Int} {x d : D} (e : ints1 m f x = some d) : ∃ l ns, lstOf m x = some l ∧ intsOf l = some ns ∧ ns ≠ [] ∧ d = .int (f ns) := by
  obtain ⟨l, e1, e2⟩ := Option.bind_eq_some_iff.mp e
  obtain ⟨ns, e3, e4⟩ := Option.bind_eq_some_iff.mp e2
  split at e4
  · cases e4
  · rename_i hne; cases e4; exact ⟨l, ns, e1, e3, hne, rfl⟩
theorem bls1_some {m : MH} {f : List Bool → Bool} {x d : D} (e : bls1 m f x = some d) : ∃ l ns, lstOf m x = some l ∧ blsOf l = some ns ∧ d = .bl (f ns) := by
  obtain ⟨l, e1, e2⟩ := Option.bind_eq_some_iff.mp e
  obtain ⟨ns, e3, rfl⟩ := Option.map_eq_some_iff.mp e2
  exact ⟨l, ns, e1, e3, rfl⟩
theorem bi_abs : CallR X (.builtin "abs") (biV (kx X) (built .abs)) := biV_of call_abs (biR1 (bi_one (fun _ _ => rfl) fun _ _ _ => rfl) fun b env hd G m ρ F σ H x v d Q R r e q => by
  obtain ⟨i, rfl, rfl⟩ := int1_some e
  exact ⟨i, by rw [r.int_of], q F H _ (R.hold (.int _))⟩)
/-- a built-in of one argument or two -/
theorem biR12 {K : KX} {g1 : MH → D → Option D} {g2 : D → D → Option D} {r : List V → Hp → VK → Prop} {bi : Bi} (hb1 : ∀ x m, built bi [x] m = g1 m x) (hb2 : ∀ x y m, built bi [x, y] m = g2 x y)
    (h1 : ∀ b env hd G m ρ F σ H x v d (Q : VK), RS K b env hd G m ρ F σ H → Rep K F ρ m x v → g1 m x = some d → (∀ F' H' v, RS K b env ((d, v) :: hd) G m ρ F' σ H' → Q v H') → r [v] H Q)
    (h2 : ∀ b env hd G m ρ F σ H x y v u d (Q : VK), RS K b env hd G m ρ F σ H → Rep K F ρ m x v → Rep K F ρ m y u → g2 x y = some d → (∀ F' H' v, RS K b env ((d, v) :: hd) G m ρ F' σ H' → Q v H') → r [v, u] H Q) : BiR K (built bi) r := by
  intro b env hd G m ρ F σ H xs vs d Q R rr e q
  match xs, rr, e with
  | [], rr, e => cases e
  | [x], rr, e =>
    obtain ⟨v, rfl, r⟩ := repl1 rr
    exact h1 b env hd G m ρ F σ H x v d Q R r (by rw [← hb1]; exact e) q
  | [x, y], rr, e =>
    obtain ⟨v, u, rfl, r1, r2⟩ := repl2 rr
    exact h2 b env hd G m ρ F σ H x y v u d Q R r1 r2 (by rw [← hb2 x y m]; exact e) q
  | _ :: _ :: _ :: _, rr, e => cases e
theorem bi_max (hc : X.calm = true) : CallR X (.builtin "max") (biV (kx X) (built .max)) := biV_of ((call_max2 hc).or (cr_max hc)) (biR12 (fun _ _ => rfl) (fun _ _ _ => rfl)
  (fun b env hd G m ρ F σ H x v d Q R r e q => by
    obtain ⟨l, ns, e1, e3, hne, rfl⟩ := ints1_some e
    obtain ⟨a, vs, rfl, hs, z, rs⟩ := lst_of R.rl e1 r
    have := rs.ints e3
    subst this
    refine .inr ⟨a, ns, rfl, SqL.of hs, List.length_pos_iff.mpr hne, fun k h1 h2 => ?_⟩
    obtain ⟨g1, g2⟩ := maxI_spec hne
    have : k = maxI ns := Int.le_antisymm (g2 k h1) (h2 _ g1)
    rw [this]
    exact q F H _ (R.hold (.int _)))
  fun b env hd G m ρ F σ H x y v u d Q R r1 r2 e q => by
    obtain ⟨i, j, rfl, rfl, rfl⟩ := int2_some e
    exact .inl ⟨i, j, by rw [r1.int_of, r2.int_of], q F H _ (R.hold (.int _))⟩)
theorem bi_min (hc : X.calm = true) : CallR X (.builtin "min") (biV (kx X) (built .min)) := biV_of ((call_min2 hc).or (cr_min hc)) (biR12 (fun _ _ => rfl) (fun _ _ _ => rfl)
  (fun b env hd G m ρ F σ H x v d Q R r e q => by
    obtain ⟨l, ns, e1, e3, hne, rfl⟩ := ints1_some e
    obtain ⟨a, vs, rfl, hs, z, rs⟩ := lst_of R.rl e1 r
    have := rs.ints e3
    subst this
    refine .inr ⟨a, ns, rfl, SqL.of hs, List.length_pos_iff.mpr hne, fun k h1 h2 => ?_⟩
    obtain ⟨g1, g2⟩ := minI_spec hne
    have : k = minI ns := Int.le_antisymm (h2 _ g1) (g2 k h1)
    rw [this]
    exact q F H _ (R.hold (.int _)))
  fun b env hd G m ρ F σ H x y v u d Q R r1 r2 e q => by
    obtain ⟨i, j, rfl, rfl, rfl⟩ := int2_some e
    exact .inl ⟨i, j, by rw [r1.int_of, r2.int_of], q F H _ (R.hold (.int _))⟩)
theorem reprD_some {m : MH} {x : D} {z : Str} (e : reprD m x = some z) : ∃ p, dat m x = some p ∧ p.showable = true ∧ (p.hasDict = true → noList p = true) ∧ p.depth ≤ 60 ∧ p.shown.length ≤ sizeLine ∧ z = p.shown := by
  unfold reprD at e
  cases e2 : dat m x with
  | none => rw [e2] at e; cases e
  | some p =>
    rw [e2] at e
    simp only at e
    split at e
    · rename_i hc
      cases e
      simp only [Bool.and_eq_true, decide_eq_true_eq] at hc
      exact ⟨p, rfl, hc.1.1.1, fun z => by have := hc.1.1.2; rw [z] at this; simpa using this, hc.1.2, hc.2, rfl⟩
    · cases e
theorem bi_repr (hg : X.A.guards = some []) (hu : X.A.units + 64 < cLine) : CallR X (.builtin "repr") (biV (kx X) (built .repr)) := biV_of (call_reprD hg hu) (biR1 (g := fun m x => (reprD m x).map .str) (bi_one (fun _ _ => rfl) fun _ _ _ => rfl) fun b env hd G m ρ F σ H x v d Q R r e q => by
  obtain ⟨z, e1, rfl⟩ := Option.map_eq_some_iff.mp e
  obtain ⟨p, e2, h1, h2, h3, h4, rfl⟩ := reprD_some e1
  exact ⟨v, p, rfl, dq_dat R.rl e2 r, h1, h2, h3, h4, q F H _ (R.hold (.str _))⟩)
theorem bi_sum (hc : X.calm = true) : CallR X (.builtin "sum") (biV (kx X) (built .sum)) := biV_of ((cr_sum hc).or (call_sumT hc)) (biR1 (bi_one (fun _ _ => rfl) fun _ _ _ => rfl) fun b env hd G m ρ F σ H x v d Q R r e q => by
  obtain ⟨l, e1, e2⟩ := Option.bind_eq_some_iff.mp (show (seqOf m x).bind _ = some d from e)
  obtain ⟨ns, e3, rfl⟩ := Option.map_eq_some_iff.mp e2
  obtain ⟨a, vs, rfl, hs, z, rs⟩ := seq_of R.rl e1 r
  have := rs.ints e3
  subst this
  rcases hs with hs | hs
  · exact .inl ⟨a, ns, rfl, hs, q F H _ (R.hold (.int _))⟩
  · exact .inr ⟨a, ns, rfl, hs, q F H _ (R.hold (.int _))⟩)
theorem bi_all (hc : X.calm = true) : CallR X (.builtin "all") (biV (kx X) (built .all)) := biV_of (cr_all hc) (biR1 (bi_one (fun _ _ => rfl) fun _ _ _ => rfl) fun b env hd G m ρ F σ H x v d Q R r e q => by
  obtain ⟨l, ns, e1, e3, rfl⟩ := bls1_some e
  obtain ⟨a, vs, rfl, hs, z, rs⟩ := lst_of R.rl e1 r
  have := rs.bls e3
  subst this
  exact ⟨a, ns, rfl, SqL.of hs, q F H _ (R.hold (.bl _))⟩)
theorem bi_any (hc : X.calm = true) : CallR X (.builtin "any") (biV (kx X) (built .any)) := biV_of (cr_any hc) (biR1 (bi_one (fun _ _ => rfl) fun _ _ _ => rfl) fun b env hd G m ρ F σ H x v d Q R r e q => by
  obtain ⟨l, ns, e1, e3, rfl⟩ := bls1_some e
  obtain ⟨a, vs, rfl, hs, z, rs⟩ := lst_of R.rl e1 r
  have := rs.bls e3
  subst this
  exact ⟨a, ns, rfl, SqL.of hs, q F H _ (R.hold (.bl _))⟩)
theorem bi_tuple : CallR X (.type "tuple") (biV (kx X) (built .tuple)) := biV_of call_tuple_of (biR1 (g := fun m x => (seqOf m x).map .tup) (bi_one (fun _ _ => rfl) fun _ _ _ => rfl) fun b env hd G m ρ F σ H x v d Q R r e q => by
  obtain ⟨l, e1, rfl⟩ := Option.map_eq_some_iff.mp e
  obtain ⟨a, vs, rfl, hs, z, rs⟩ := seq_ofT R.rl e1 r
  refine ⟨a, vs, rfl, ?_⟩
  rcases hs with hs | ⟨hs, ys, rfl⟩
  · exact .inl ⟨hs, fun p hp => q _ _ _ ((R.newF (.tup vs) hp).hold (.tup (SqT.of upd_same) z (rs.ext (.newF (noF R.rl.fh hp)))))⟩
  · refine .inr ⟨hs, q F H _ (R.hold ?_)⟩
    have e1 : some ys = some l := e1
    cases e1; exact r)
theorem bi_list : CallR X (.type "list") (biV (kx X) (built .list)) := biV_of call_list_of (biR1 (g := fun m x => (seqOf m x).map .lst) (bi_one (fun _ _ => rfl) fun _ _ _ => rfl) fun b env hd G m ρ F σ H x v d Q R r e q => by
  obtain ⟨l, e1, rfl⟩ := Option.map_eq_some_iff.mp e
  obtain ⟨a, vs, rfl, hs, z, rs⟩ := seq_of R.rl e1 r
  exact ⟨a, vs, rfl, hs, fun p hp => q _ _ _ (new_lst R z rs hp)⟩)
theorem bi_int : CallR X (.type "int") (biV (kx X) (built .int)) := biV_of call_int1 (biR1 (g := fun m x => match x with
      | .bl b => some (.int (if b then 1 else 0))
      | .int i => some (.int i)
      | _ => none) (bi_one (fun _ _ => rfl) fun _ _ _ => rfl) fun b env hd G m ρ F σ H x v d Q R r e q => by
  cases x with
  | bl k =>
    cases e
    exact .inr ⟨k, by rw [r.bl_of], q F H _ (R.hold (.int _))⟩
  | int i =>
    cases e
    exact .inl ⟨i, by rw [r.int_of], q F H _ (R.hold (.int _))⟩
  | _ => cases e)
end

/-! ### isinstance -/
def tyName : Ty → String
  | .int => "int" | .bool => "bool" | .tuple => "tuple" | .list => "list" | .str => "str"
def dTy : D → String
  | .non => "NoneType" | .bl _ => "bool" | .int _ => "int" | .str _ => "str" | .tup _ => "tuple" | .lst _ => "list" | .ref _ _ => "list" | .scr _ => "list" | .dct _ _ => "dict" | .exc _ => ""
theorem ty_rep {K : KX} {F H : Hp} {ρ : Ro} {m : MH} (R : Rl K F ρ m H) {d : D} {v : V} (hk : tyKnown m d = true) (r : Rep K F ρ m d v) : TyX K.k H v (.type (dTy d)) := by
  cases d with
  | non => cases r.non_of; exact .base .non
  | bl b => cases r.bl_of; exact .base (.bl b)
  | int i => cases r.int_of; exact .base (.int i)
  | str x => cases r.str_of; exact .base (.str x)
  | tup xs =>
    obtain ⟨a, vs, rfl, hs, _⟩ := r.tup_of
    rcases SqT.ext R.fh hs with (h | ⟨o, h⟩) | ⟨o, its, n, h1, h2, _⟩
    · exact .base (.tup h)
    · exact .fTuple h
    · exact .kTuple h1 h2
  | lst xs =>
    obtain ⟨a, vs, rfl, hs, _⟩ := r.lst_of
    exact .base (.lst (R.fh _ _ hs))
  | scr xs =>
    obtain ⟨a, vs, rfl, hs, _⟩ := r.scr_of
    rcases SqL.ext R.fh hs with (h | ⟨o, h⟩) | ⟨o, its, n, h1, h2, _⟩
    · exact .base (.lst h)
    · exact .base (.frz h)
    · exact .kList h1 h2
  | ref l i =>
    obtain ⟨rfl, hl⟩ := r.ref_of
    obtain ⟨o, ho⟩ := Option.isSome_iff_exists.mp hl
    obtain ⟨_, hv⟩ := R.ob l i o ho
    cases o with
    | lst ys =>
      obtain ⟨vs', hv, _⟩ := hv
      exact .base (.lst hv)
  | dct ks xs =>
    obtain ⟨a, vs, rfl, hs, _⟩ := r.dct_of
    exact .base (.dK (R.fh _ _ hs))
  | exc => cases hk
theorem kit_all (t : Ty) (d : D) (m : MH) (hk : tyKnown m d = true) : kitB (dTy d) (tyName t) = some (isTy m t d) := by
  cases d with
  | ref l i =>
    unfold tyKnown at hk
    cases g : get m l i with
    | none => simp only [g] at hk; cases hk
    | some o =>
      cases o with
      | lst xs =>
        have : isTy m t (.ref l i) = (match t with | .list => true | _ => false) := by cases t <;> simp only [isTy, g]
        rw [this]
        clear g this hk
        show kitB "list" (tyName t) = _
        cases t <;> decide +kernel
  | non => show kitB "NoneType" (tyName t) = some _; cases t <;> (simp only [isTy]; decide +kernel)
  | bl b => show kitB "bool" (tyName t) = some _; cases t <;> (simp only [isTy]; decide +kernel)
  | int b => show kitB "int" (tyName t) = some _; cases t <;> (simp only [isTy]; decide +kernel)
  | str b => show kitB "str" (tyName t) = some _; cases t <;> (simp only [isTy]; decide +kernel)
  | tup b => show kitB "tuple" (tyName t) = some _; cases t <;> (simp only [isTy]; decide +kernel)
  | lst b => show kitB "list" (tyName t) = some _; cases t <;> (simp only [isTy]; decide +kernel)
  | dct ks b => show kitB "dict" (tyName t) = some _; cases t <;> (simp only [isTy]; decide +kernel)
  | exc => cases hk
  | scr b => show kitB "list" (tyName t) = some _; cases t <;> (simp only [isTy]; decide +kernel)
section
variable {X : Cx}
def rTy (K : KX) (t : Ty) : List V → Hp → VK → Prop := fun xs H Q => ∃ b env hd G m ρ F σ d v, xs = [v, .ty (tyName t)] ∧ RS K b env hd G m ρ F σ H ∧ Rep K F ρ m d v ∧ tyKnown m d = true ∧ Q (.bl (isTy m t d)) H
theorem call_isTy' (t : Ty) : CallR X (.builtin "isinstance") (rTy (kx X) t) := CallR.weak call_isi fun vs H Q ⟨b, env, hd, G, m, ρ, F, σ, d, v, e, R, r, hk, q⟩ =>
  ⟨v, .ty (tyName t), .type (dTy d), .type (tyName t), isTy m t d, e, .ty _, ty_rep R.rl hk r, kit_ty (kit_all t d m hk), q⟩
end
def tyStr : Ty → Str
  | .int => "int" | .bool => "bool" | .tuple => "tuple" | .list => "list" | .str => "str"
theorem boot_ty (t : Ty) : bootBuiltins (tyStr t) = some (.type (tyName t)) := by cases t <;> decide +kernel
theorem pe_isi {X : Cx} {rx : PySem.W.Frag → Exc → Value → Option Addr → Hp → Prop} {W : WX} {a : Expr} {fa : Env → MH → Res D} {p p2 pos : Pos} (t : Ty) (ha : PE X a (SE (kx X) rx W fa)) (hs : notStar a = true)
    (hg : Gl X "isinstance") (hm : X.mg "isinstance" = none) (hg2 : Gl X (tyStr t)) (hm2 : X.mg (tyStr t) = none) :
    PE X (.Call (.Name "isinstance" p) [a, .Name (tyStr t) p2] [] pos) (SE (kx X) rx W fun v m => (fa v m).bind fun x m => if tyKnown m x then .ok (.bl (isTy m t x)) m else .fail) := by
  have h2 : PE X (.Name (tyStr t) p2) (tC (.ty (tyName t))) := pe_bltn hg2 hm2 (boot_ty t) rfl (by cases t <;> decide) (by cases t <;> decide)
  have hpa := pa_cons ha (pa_cons h2 pa_nil rfl) (star_ok hs)
  refine PE.weak (pe_callB (call_isTy' t) hg hm (by decide +kernel) hpa (by decide) (by decide) (star_ok hs) (by rfl)) fun σ H Q ⟨b, env, hd, G, m, ρ, F, R, p⟩ => ?_
  refine ⟨b, env, hd, G, m, ρ, F, R, p.bind.imp (fun x m1 p1 ρ1 F1 H1 v R1 => ?_) fun _ _ z => z⟩
  split at p1
  · rename_i hk
    exact ⟨b, env, (x, v) :: hd, G, m1, ρ1, F1, σ, x, v, rfl, R1, R1.top, hk, p1 ρ1 F1 H1 _ ((R1.held fun _ => List.mem_cons_of_mem _).hold (.bl _))⟩
  · exact p1.elim
end Fw

set_option Elab.async false
set_option linter.all false
set_option maxRecDepth 100000
set_option maxHeartbeats 1000000
set_option autoImplicit false
/-! ## Fw5: defs and their calls (nothing is being shown around: guards) -/
namespace Fw
open PySem PySem.Spec PyProof.Rows L2

structure FnG (P : Program) (w : World) (K : PySem.W.Frag) (mg : Str → Option Value) (base : Heap) (k : Nat) (f : Addr) (fd : FuncData) (ps : List Str) (sp : Sp) : Prop where
  len : ∀ vs H Q E, sp vs H Q E → vs.length = ps.length
  run : ∀ (A : Around) (outer : List PySem.Env) (s : Shared) (H : Hp) (args : Args) (us : List Value) (vs : List V) (Q : VK) (E : XK), Room k A → A.guards = some [] → Env0 P w K mg base A outer s H → BindsTo s fd args (ps.zip us) →
    Vals vs us → sp vs H Q E → codeAny (model P w) A (.call (.ref f) args) (CR (L2.CX P w) outer P w H s Q E) s
theorem FnG.mono {P : Program} {w : World} {K : PySem.W.Frag} {mg : Str → Option Value} {base : Heap} {j k : Nat} {f : Addr} {fd : FuncData} {ps : List Str} {sp : Sp} (F : FnG P w K mg base j f fd ps sp) (h : j ≤ k) : FnG P w K mg base k f fd ps sp :=
  ⟨F.len, fun A outer s H args us vs Q E hr => F.run A outer s H args us vs Q E (hr.mono h)⟩
section
variable {X : Cx} {k : Nat} {f : Addr} {fd : FuncData} {ps : List Str} {sp : Sp} {dvs : List V} {ds : List Value} {E : L2.St → XK}
theorem callG {pins : List (Addr × Obj)} {σ : L2.St} {H : Hp} {s : Shared} {Q : VK} {us : List Value} {vs : List V} {args : Args} (F : FnG X.prog X.w X.K X.mg X.base k f fd ps sp) (hr : Room k X.A) (hg : X.A.guards = some []) (hx : PassesAt (L2.CX X.prog X.w) X σ (E σ))
    (I : Inv X pins σ H s) (hb : us.length = ps.length → BindsTo s fd args (ps.zip us)) (r : Vals vs us) (h : sp vs H Q (E σ)) : codeAny (model X.prog X.w) X.A (.call (.ref f) args) (fun r s' => match r with
      | .ok (.ret v) => EP X pins σ Q v s'
      | .ok _ => False
      | .error e => X.xe e s') s := by
  have hl : us.length = ps.length := r.length.symm.trans (F.len _ _ _ _ h)
  refine codeAny_mono (F.run X.A X.stack s H args us vs Q (E σ) hr hg I.env0 (hb hl) r h) fun r s' hq => ?_
  match r, hq with
  | .error e, hq => exact hx pins H s e s' I hq
  | .ok (.ret u), hq => exact I.after hq
  | .ok .next, hq => exact hq.elim
  | .ok .brk, hq => exact hq.elim
  | .ok .cont, hq => exact hq.elim
variable {x : Str} {p pos : Pos} {e : Expr} {es : List Expr} {t : TA}
theorem goG (F : FnG X.prog X.w X.K X.mg X.base k f fd ps sp) (hr : Room k X.A) (hgd : X.A.guards = some []) (hb : Binds X.K fd ps ds) (hd : Vals dvs ds) (hx : ∀ σ, PassesAt (L2.CX X.prog X.w) X σ (E σ))
    {pins : List (Addr × Obj)} {σ : L2.St} {Q : VK} {us : List Value} {s1 : Shared} {vs : List V} {H1 : Hp} (I1 : Inv X pins σ H1 s1) (r : Vals vs us) (q : sp (vs ++ dvs) H1 Q (E σ)) : wpAny (model X.prog X.w) X.A (call (.ref f) us) (EP X pins σ Q) X.xe s1 :=
  wpAny_call (callG F hr hgd (hx σ) I1 (fun hl => hb s1 us I1.kIn hl) (r.append hd) q)
theorem pe_callG (F : FnG X.prog X.w X.K X.mg X.base k f fd ps sp) (hr : Room k X.A) (hgd : X.A.guards = some []) (hg : Gl X x) (hm : X.mg x = some (.ref f)) (hk : PySem.W.keepIn X.K (.ref f) = true) (hb : Binds X.K fd ps ds) (hd : Vals dvs ds)
    (hx : ∀ σ, PassesAt (L2.CX X.prog X.w) X σ (E σ)) (ha : PA X (e :: es) t) (hdb : (x == ("__debug__" : Str)) = false) (hs : (e :: es).all notStar = true) :
    PE X (.Call (.Name x p) (e :: es) [] pos) (fun σ H Q => t σ H fun vs H1 => sp (vs ++ dvs) H1 Q (E σ)) := by
  refine ⟨fun pins s σ H Q I h => wpAny_Call_Name_kw (ld_glob I hg hm ?_ hdb)⟩
  simp only [List.all_cons, Bool.and_eq_true] at hs
  exact PySem.W.callWith_K (h₀ := X.base) I.ok.mod.kin hk (thn (ha.run pos pins s σ H _ I h) fun us s1 ⟨vs, H1, I1, r, q⟩ => ⟨I1.kIn, goG F hr hgd hb hd hx I1 r q⟩) (star_ok hs.1) (star_none hs.2)
theorem pe_callG0 (F : FnG X.prog X.w X.K X.mg X.base k f fd ps sp) (hr : Room k X.A) (hgd : X.A.guards = some []) (hg : Gl X x) (hm : X.mg x = some (.ref f)) (hk : PySem.W.keepIn X.K (.ref f) = true) (hb : Binds X.K fd ps ds) (hd : Vals dvs ds)
    (hx : ∀ σ, PassesAt (L2.CX X.prog X.w) X σ (E σ)) (hdb : (x == ("__debug__" : Str)) = false) : PE X (.Call (.Name x p) [] [] pos) (fun σ H Q => sp dvs H Q (E σ)) :=
  ⟨fun pins s σ H Q I h => wpAny_Call_Name_kw (ld_glob I hg hm (PySem.W.callWith_K0 I.kIn hk (goG (us := []) F hr hgd hb hd hx I .nil h)) hdb)⟩
end

section
variable {P : Program} {w : World} {K : PySem.W.Frag} {mg : Str → Option Value} {base : Heap} {k : Nat} {f : Addr} {x qual : Str} {params : Arguments} {body : List Stmt} {scope : Scope} {dvs : List V} {kws : List (Str × V)} {fd : FuncData} {N ps : List Str} {sp : Sp}
/-- the end of a body is the call's end -/
theorem end_of {A : Around} {outer : List PySem.Env} {s s' : Shared} {H : Hp} {Q : VK} {E : XK} {cdv : Value} {fl : Flow}
    (h : SP (cxOf (L2.CX P w) P w K mg base N qual scope f cdv A outer s H E) [] { nx := fun _ H' => Q .non H', rt := Q } fl s') : CR (L2.CX P w) outer P w H s Q E (.ok (.ret (match fl with | .ret u => u | _ => .none))) s' := by
  have fin : ∀ {σ' : L2.St} {H' : Hp} {v : V} {u : Value}, Inv (cxOf (L2.CX P w) P w K mg base N qual scope f cdv A outer s H E) [] σ' H' s' → RelV v u → Q v H' → CE outer P w H s Q u s' :=
    fun {σ' H' v u} J r q => ⟨v, H', J.os, J.bare, J.base, J.hok, r, q⟩
  match fl, h with
  | .ret u, ⟨v, σ', H', J, r, q⟩ => exact fin J r q
  | .next, ⟨σ', H', J, q⟩ => exact fin (v := .non) J rfl q
  | .brk, ⟨_, _, _, q⟩ => exact q.elim
  | .cont, ⟨_, _, _, q⟩ => exact q.elim
/-- a def by its body -/
theorem fnG_of (F : FunD K x qual params body scope dvs kws f fd) (S : FnScope N ps scope) (len : ∀ vs H Q E, sp vs H Q E → vs.length = ps.length)
    (hbody : ∀ (cdv : Value) (A : Around) (outer : List PySem.Env) (s : Shared) (H : Hp) (vs : List V) (Q : VK) (E : XK), Room k (A.deeper (envOfC qual scope s.heap.objs.size f cdv)) → (A.deeper (envOfC qual scope s.heap.objs.size f cdv)).guards = some [] → sp vs H Q E →
      ∃ t, PSs (cxOf (L2.CX P w) P w K mg base N qual scope f cdv A outer s H E) body t ∧ t { nx := fun _ H' => Q .non H', rt := Q } (start N vs) H) : FnG P w K mg base (k + 1) f fd ps sp := by
  obtain ⟨oc, od, dV, kV, doc, pm, an, cdv, ct, osl, rfl, lk, hcd, _, _⟩ := F.ex
  constructor
  · exact len
  intro A outer s H args us vs Q E hr hgd e0 hb r hsp
  have hin : K.In s.heap := e0.mod.kin.keeps fun b o e => (e0.bs b o e).1
  have hlim : s.heap.NoLimit := e0.mod.nolimit.keeps fun b o e => (e0.bs b o e).1
  refine codeAny_call_function hr.depth (hin _ _ lk) rfl S.co S.gen rfl (PySem.W.codeRec_of hin hcd) (hb _ _ _ _ (wpAny_newFunctionEnv_cells S.kind (fun y hy => ?_) fun env he s1 ic => ?_))
  · have hp : y.1 ∈ ps := by
      obtain ⟨n, v⟩ := y
      exact (List.of_mem_zip hy).1
    exact (S.par y.1 hp).imp id fun q => ⟨q, PySem.W.cellsFrom_some _ _ _ (.inl q)⟩
  · cases he
    obtain ⟨t, ht, hq⟩ := hbody cdv A outer s H vs Q E (hr.deeper _) hgd hsp
    have I := inv_start (E := E) (CX := L2.CX P w) (mg := mg) (f := f) (cd := cdv) (qual := qual) S hr.hd e0 (len _ _ _ _ hsp) r ic
    refine ⟨hlim.keeps ic.toInCall.keep, codeAny_func (wpAny_mono (ht.run [] s1 _ H _ I hq) (fun fl s' hs => ?_) fun _ _ hs => hs)⟩
    have q := end_of hs
    cases fl <;> exact q
end
end Fw

set_option Elab.async false
set_option linter.all false
set_option maxRecDepth 100000
set_option maxHeartbeats 1000000
set_option autoImplicit false
/-! ## Fw6: a call, what is walked, targets -/
namespace Fw
open PySem PySem.Spec PyProof.Rows L2

/-- what stands aside stays aside -/
def Keep (F : Hp) (ρ : Ro) (m : MH) (H : Hp) (F' : Hp) (ρ' : Ro) (m' : MH) (H' : Hp) : Prop :=
  ∀ a o, H a = some o → F a = none → (∀ l i, Lv m l i → ρ l i ≠ a) → H' a = some o ∧ F' a = none ∧ ∀ l i, Lv m' l i → ρ' l i ≠ a
section
variable (K : KX) (rx : PySem.W.Frag → Exc → Value → Option Addr → Hp → Prop)
/-- a def's promise from what it computes -/
def spF (c : List D → MH → Res D) : Sp := fun vs H Q E => ∃ F ρ m xs, Rl K F ρ m H ∧ RepL K F ρ m xs vs ∧
  Post (c xs m) (fun d m' => ∀ F' ρ' H' v, Ext F ρ m F' ρ' m' → Rl K F' ρ' m' H' → m'.length = m.length → Keep F ρ m H F' ρ' m' H' → Rep K F' ρ' m' d v → Q v H')
    (fun x m' => ∀ F' ρ' H' c dd, Ext F ρ m F' ρ' m' → Rl K F' ρ' m' H' → m'.length = m.length → Keep F ρ m H F' ρ' m' H' → rx K.k x c dd H' → E c dd H')
end
section
variable {K : KX} {rx : PySem.W.Frag → Exc → Value → Option Addr → Hp → Prop} {W : WX}
theorem RS.back {b : Bs} {env : Env} {hd : List (D × V)} {G : Hp} {m m' : MH} {ρ ρ' : Ro} {F F' : Hp} {σ : L2.St} {H H' : Hp} (R : RS K b env hd G m ρ F σ H) (x : Ext F ρ m F' ρ' m') (r : Rl K F' ρ' m' H') (hl : m'.length = m.length) (k : Keep F ρ m H F' ρ' m' H') :
    RS K b env hd G m' ρ' F' σ H' :=
  ⟨r, R.len, fun i d e => by
    obtain ⟨v, h1, h2⟩ := R.env i d e
    exact ⟨v, h1, h2.ext x⟩, fun p hp => (R.hd p hp).ext x, fun a o e => by
    obtain ⟨h1, h2, h3⟩ := R.pin a o e
    exact k a o h1 h2 h3, hl.trans R.ml, R.xt.trans x⟩
/-- a call in a state -/
theorem spF_of {c : List D → MH → Res D} {b : Bs} {env : Env} {hd : List (D × V)} {G : Hp} {m : MH} {ρ : Ro} {F : Hp} {σ : L2.St} {H : Hp} {xs : List D} {vs : List V} {Q : VK} (R : RS K b env hd G m ρ F σ H) (rr : RepL K F ρ m xs vs)
    (p : Post (c xs m) (fun d m' => ∀ ρ' F' H' v, RS K b env ((d, v) :: hd) G m' ρ' F' σ H' → Q v H') (Ex K rx W b env hd G σ)) : spF K rx c vs H Q (WE W σ) :=
  ⟨F, ρ, m, xs, R.rl, rr, p.imp (fun d m' q F' ρ' H' v x r hl k hv => q ρ' F' H' v ((R.back x r hl k).hold hv)) fun x m' q F' ρ' H' c dd xt r hl k hx => q ρ' F' H' c dd (R.back xt r hl k) hx⟩
end

/-! ### where code runs -/
structure CallOk {ι : Type} (rx : PySem.W.Frag → Exc → Value → Option Addr → Hp → Prop) (nm : ι → Str) (call : ι → List D → MH → Res D) (k : Nat) (P : Program) (w : World) (K : PySem.W.Frag) (mg : Str → Option Value) (base : Heap) (f : ι) : Prop where
  ex : ∃ fa fd ps, FnG P w K mg base k fa fd ps (spF (k0 K) rx (call f)) ∧ mg (nm f) = some (.ref fa) ∧ PySem.W.keepIn K (.ref fa) = true ∧ Binds K fd ps []
def freeNames : List Str := ["len", "abs", "min", "max", "repr", "sum", "all", "any", "tuple", "list", "sorted", "isinstance", "range", "int", "bool", "str", "enumerate", "zip", "ValueError"]
/-- what is known where a text is looked at: the defs' names, the slots' names, the scope, a block's own scope, whether an exception is being handled, the own exception classes, the module's whole numbers -/
structure Look (ι : Type) where
  nm : ι → Str
  N : List Str
  sc : Scope
  bc : Option Scope := none
  hot : Bool := false
  cl : List (Str × List Str) := []
  gl : List (Str × Int) := []
structure Ctx {ι : Type} (rx : PySem.W.Frag → Exc → Value → Option Addr → Hp → Prop) (L : Look ι) (call : ι → List D → MH → Res D) (k : Nat) (W : WX) (X : Cx) : Prop where
  hN : X.N = L.N
  hs : X.env.scope = L.sc
  nd : L.N.Nodup
  calm : L.hot = false → X.calm = true
  fn : ∀ x, (match L.bc with | none => True | some s => s.names.lookup x = some .cell) → X.fn x = true
  room : L.hot = false → Room k X.A
  units : X.A.units + 64 < cLine
  gd : X.A.guards = some []
  pass : L.hot = false → ∀ σ, PassesAt (L2.CX X.prog X.w) X σ (WE W σ)
  calls : ∀ f, CallOk rx L.nm call k X.prog X.w X.K X.mg X.base f
  free : ∀ x ∈ freeNames, X.mg x = none
  glb : ∀ p ∈ L.gl, ∃ t, X.mg p.1 = some (.int p.2 t)
  tk : L.hot = false → Takes X W
  top : L.hot = false → L.bc = none → X.stack = X.env :: X.outer ∧ X.env.frame = some X.env.locals
  cl : L.cl = clsOf X.prog
  rxd : rx = rxO L.cl
  exf : ∀ p ∈ L.cl, ExcFacts X.K X.mg L.cl p
section
variable {ι : Type} {rx : PySem.W.Frag → Exc → Value → Option Addr → Hp → Prop} {L : Look ι} {call : ι → List D → MH → Res D} {k : Nat} {W : WX} {X : Cx}
variable {e : Expr} {es : List Expr} {fl : Env → MH → Res (List D)} {p pos : Pos}
theorem pe_call' (C : Ctx rx L call k W X) (hh : L.hot = false) (f : ι) (hg : Gl X (L.nm f)) (hdb : (L.nm f == ("__debug__" : Str)) = false) (ha : PA X (e :: es) (SA (kx X) rx W fl)) (hs : (e :: es).all notStar = true) :
    PE X (.Call (.Name (L.nm f) p) (e :: es) [] pos) (SE (kx X) rx W fun v m => (fl v m).bind fun xs m => call f xs m) := by
  obtain ⟨fa, fd, ps, hF, hm, hk, hb⟩ := (C.calls f).ex
  rw [kx_calm (C.calm hh)] at ha ⊢
  refine PE.weak (pe_callG (E := WE W) hF (C.room hh) C.gd hg hm hk hb .nil (C.pass hh) ha hdb hs) fun σ H Q q => ?_
  refine sa_then (r := fun vs H1 Q => spF (k0 X.K) rx (call f) (vs ++ []) H1 Q (WE W σ)) (fun b env hd G m ρ F H xs vs R rr p => ?_) q
  rw [List.append_nil]
  exact spF_of R rr p
theorem pe_call0' (C : Ctx rx L call k W X) (hh : L.hot = false) (f : ι) (hg : Gl X (L.nm f)) (hdb : (L.nm f == ("__debug__" : Str)) = false) :
    PE X (.Call (.Name (L.nm f) p) [] [] pos) (SE (kx X) rx W fun v m => (Res.ok [] m).bind fun xs m => call f xs m) := by
  obtain ⟨fa, fd, ps, hF, hm, hk, hb⟩ := (C.calls f).ex
  rw [kx_calm (C.calm hh)]
  exact PE.weak (pe_callG0 (E := WE W) hF (C.room hh) C.gd hg hm hk hb .nil (C.pass hh) hdb) fun σ H Q ⟨b, env, hd, G, m, ρ, F, R, p⟩ => spF_of R .nil p
end

/-! ### what is walked -/
/-- an iterator walks what it should, while hs is held -/
def Walks' (K : KX) (hs : List (D × V)) (k : Wk) (J : It) : Prop := match k with
  | .items xs => ∀ i b env hd G m ρ F σ H, RS K b env (hs ++ hd) G m ρ F σ H →
      (∀ x, xs[i]? = some x → J.go i H ∧ ∀ v H', J.yld i H v H' → ∃ F', RS K b env ((x, v) :: (hs ++ hd)) G m ρ F' σ H') ∧ (xs.length ≤ i → J.stop i H)
  | .live l j n => ∀ i b env hd G m ρ F σ H, RS K b env (hs ++ hd) G m ρ F σ H → ∀ ys, get m l j = some (.lst ys) →
      (∀ x, ys[i]? = some x → J.go i H ∧ ∀ v H', J.yld i H v H' → H' = H ∧ Rep K F ρ m x v) ∧ (ys.length ≤ i → J.stop i H)
def SI (K : KX) (rx : PySem.W.Frag → Exc → Value → Option Addr → Hp → Prop) (W : WX) (w : Env → MH → Res Wk) : TI := fun σ H R => ∃ b env hd G m ρ F, RS K b env hd G m ρ F σ H ∧
  Post (w env m) (fun k m' => ∀ ρ' F' H' J hs, RS K b env (hs ++ hd) G m' ρ' F' σ H' → Walks' K hs k J → R J H') (Ex K rx W b env hd G σ)
theorem walks_tup {K : KX} {xs : List D} {a : Addr} : Walks' K [(.tup xs, .ref a)] (.items xs) (Itt K.k a) := by
  intro i b env hd G m1 ρ1 F1 σ H1 R
  obtain ⟨a', vs, e, hq, z, r⟩ := (R.hd (.tup xs, .ref a) (by simp)).tup_of
  cases e
  have h1 : SqT K.k H1 a vs := SqT.ext R.rl.fh hq
  refine ⟨fun d e => ?_, fun hl => ⟨vs, h1, by rw [← r.length]; exact hl⟩⟩
  obtain ⟨v, hv, rv⟩ := r.get e
  refine ⟨⟨vs, v, h1, hv⟩, fun u H' ⟨e1, e2⟩ => ?_⟩
  subst e1
  have := e2 vs h1
  rw [hv] at this
  cases this
  exact ⟨F1, R.hold rv⟩
theorem walks_lst {K : KX} {xs : List D} {a : Addr} : Walks' K [(.lst xs, .ref a)] (.items xs) (Itl K.k a) := by
  intro i b env hd G m1 ρ1 F1 σ H1 R
  obtain ⟨a', vs, e, hq, z, r⟩ := (R.hd (.lst xs, .ref a) (by simp)).lst_of
  cases e
  have h1 : SqL K.k H1 a vs := SqL.of (R.rl.fh _ _ hq)
  refine ⟨fun d e => ?_, fun hl => ⟨vs, h1, by rw [← r.length]; exact hl⟩⟩
  obtain ⟨v, hv, rv⟩ := r.get e
  refine ⟨⟨vs, v, h1, hv⟩, fun u H' ⟨e1, e2⟩ => ?_⟩
  subst e1
  have := e2 vs h1
  rw [hv] at this
  cases this
  exact ⟨F1, R.hold rv⟩
theorem walks_scr {K : KX} {xs : List D} {a : Addr} : Walks' K [(.scr xs, .ref a)] (.items xs) (Itl K.k a) := by
  intro i b env hd G m1 ρ1 F1 σ H1 R
  obtain ⟨a', vs, e, hq, z, r⟩ := (R.hd (.scr xs, .ref a) (by simp)).scr_of
  cases e
  have h1 : SqL K.k H1 a vs := SqL.ext R.rl.fh hq
  refine ⟨fun d e => ?_, fun hl => ⟨vs, h1, by rw [← r.length]; exact hl⟩⟩
  obtain ⟨v, hv, rv⟩ := r.get e
  refine ⟨⟨vs, v, h1, hv⟩, fun u H' ⟨e1, e2⟩ => ?_⟩
  subst e1
  have := e2 vs h1
  rw [hv] at this
  cases this
  exact ⟨F1, R.hold rv⟩
theorem walks_range {K : KX} (lo hi : Int) : Walks' K [] (.items (rangeD lo hi)) (Itr lo (hi - lo).toNat) := by
  intro i b env hd G m1 ρ1 F1 σ H1 R
  refine ⟨fun d e => ?_, fun hl => by simpa [rangeD, Itr] using hl⟩
  unfold rangeD at e
  rw [List.getElem?_map] at e
  obtain ⟨k, e1, rfl⟩ := Option.map_eq_some_iff.mp e
  have hk : k = i ∧ i < (hi - lo).toNat := by
    rw [List.getElem?_eq_some_iff] at e1
    obtain ⟨h1, h2⟩ := e1
    simp at h1 h2
    omega
  obtain ⟨rfl, hlt⟩ := hk
  refine ⟨hlt, fun u H' ⟨e1, e2⟩ => ?_⟩
  subst e1 e2
  exact ⟨F1, R.hold (.int _)⟩
theorem walks_live {K : KX} {l j n : Nat} {a : Addr} : Walks' K [(.ref l j, .ref a)] (.live l j n) (Itl K.k a) := by
  intro i b env hd G m1 ρ1 F1 σ H1 R zs g1
  obtain ⟨e, hl⟩ := (R.hd (.ref l j, .ref a) (by simp)).ref_of
  cases e
  obtain ⟨_, vs, hv, z, rr⟩ := R.rl.ob l j _ g1
  refine ⟨fun d hd' => ?_, fun hl => ⟨vs, SqL.of hv, by rw [← rr.length]; exact hl⟩⟩
  obtain ⟨v, hv', rv⟩ := rr.get hd'
  refine ⟨⟨vs, v, SqL.of hv, hv'⟩, fun u H' ⟨e1, e2⟩ => ?_⟩
  have := e2 vs (SqL.of hv)
  rw [hv'] at this
  cases this
  exact ⟨e1, rv⟩

section
variable {X : Cx} {tg l : Expr} {tl : TE}
/-- a list or a tuple, whichever it is -/
theorem pi_any (hl : PE X l tl) : PI X tg l (fun σ H R => tl σ H fun x H1 => ∃ a, x = .ref a ∧ (((∃ xs, SqL X.K H1 a xs) ∧ R (Itl X.K a) H1) ∨ ((∃ xs, SqT X.K H1 a xs) ∧ R (Itt X.K a) H1))) := by
  constructor
  intro pins s σ H R I h
  refine wpAny_mono (hl.run pins s σ H _ I h) (fun v s1 hv => ?_) fun _ _ z => z
  obtain ⟨x, H1, I1, r1, a, rfl, q⟩ := hv
  cases r1
  have new : ∀ o : Obj, Inv X pins σ H1 { s1 with heap := s1.heap.push o } := fun o => I1.kept (t' := s1.toks) fun _ _ => Heap.get?_push_of_some _
  have fresh : ∀ b ∈ [s1.heap.objs.size], FpOk X pins H1 b := fun b hb => by
    cases List.mem_singleton.mp hb
    exact I1.fpOk (Nat.le_refl _) (I1.hok.fresh (Nat.le_refl _))
  rcases q with ⟨⟨xs, hq⟩, q⟩ | ⟨⟨xs, hq⟩, q⟩
  · obtain ⟨its, _, p, _⟩ := I1.list hq
    exact wpAny_pyIter_list p.isList ⟨_, _, _, _, H1, rfl, new _, turn_list a _, ⟨_, Heap.get?_push_size _ rfl, rfl, rfl⟩, fresh, q⟩
  · obtain ⟨its, _, p, _⟩ := I1.tuple hq
    exact wpAny_pyIter_tuple p ⟨_, _, _, _, H1, rfl, new _, turn_tuple a _, ⟨_, Heap.get?_push_size _ rfl, rfl, rfl⟩, fresh, q⟩
end
section
variable {X : Cx} {rx : PySem.W.Frag → Exc → Value → Option Addr → Hp → Prop} {W : WX} {tg e a b : Expr} {es : List Expr} {fe fa fb : Env → MH → Res D} {fl : Env → MH → Res (List D)} {p pos : Pos}
theorem pi_val (h : PE X e (SE (kx X) rx W fe)) : PI X tg e (SI (kx X) rx W fun v m => (fe v m).bind fun x m => (match x with
    | .tup xs => .ok (.items xs) m
    | .lst xs => .ok (.items xs) m
    | .scr xs => .ok (.items xs) m
    | .ref l i => (match get m l i with
      | some (.lst xs) => .ok (.live l i xs.length) m
      | _ => .fail)
    | _ => .fail)) :=
  PI.weak (pi_any h) fun σ H R' ⟨b, env, hd, G, m, ρ, F, R, p⟩ => by
    refine ⟨b, env, hd, G, m, ρ, F, R, p.bind.imp (fun x m1 p1 ρ1 F1 H1 v R1 => ?_) fun _ _ z => z⟩
    cases x with
    | tup xs =>
      obtain ⟨a, vs, rfl, hs, z, rr⟩ := R1.top.tup_of
      exact ⟨a, rfl, .inr ⟨⟨vs, SqT.ext R1.rl.fh hs⟩, p1 ρ1 F1 H1 _ [_] R1 walks_tup⟩⟩
    | lst xs =>
      obtain ⟨a, vs, rfl, hs, z, rr⟩ := R1.top.lst_of
      exact ⟨a, rfl, .inl ⟨⟨vs, SqL.of (R1.rl.fh _ _ hs)⟩, p1 ρ1 F1 H1 _ [_] R1 walks_lst⟩⟩
    | scr xs =>
      obtain ⟨a, vs, rfl, hs, z, rr⟩ := R1.top.scr_of
      exact ⟨a, rfl, .inl ⟨⟨vs, SqL.ext R1.rl.fh hs⟩, p1 ρ1 F1 H1 _ [_] R1 walks_scr⟩⟩
    | ref l i =>
      obtain ⟨e, hl⟩ := R1.top.ref_of
      cases e
      cases g : get m1 l i with
      | none => unfold Lv at hl; rw [g] at hl; cases hl
      | some o =>
        cases o with
        | lst xs =>
          simp only [g] at p1
          obtain ⟨_, vs, hv, z, rr⟩ := R1.rl.ob l i _ g
          exact ⟨_, rfl, .inl ⟨⟨vs, SqL.of hv⟩, p1 ρ1 F1 H1 _ [_] R1 walks_live⟩⟩
    | _ => exact p1.elim
theorem pi_rng1 (hg : Gl X "range") (hm : X.mg "range" = none) (h : PE X a (SE (kx X) rx W fa)) (hs : notStar a = true) : PI X tg (.Call (.Name "range" p) [a] [] pos) (SI (kx X) rx W fun v m => (fa v m).bind fun x m => (match x with
    | .int n => if -(2 ^ 62) ≤ n ∧ n < 2 ^ 62 then .ok (.items (rangeD 0 n)) m else .fail
    | _ => .fail)) :=
  PI.weak (pi_range1 hg hm (pa_cons h pa_nil (star_ok hs)) (star_ok hs)) fun σ H R' ⟨b, env, hd, G, m, ρ, F, R, p⟩ => by
    refine ⟨b, env, hd, G, m, ρ, F, R, p.bind.imp (fun x m1 p1 ρ1 F1 H1 v R1 => ?_) fun _ _ z => z⟩
    have R2 := R1.held (hd' := hd) fun _ => List.mem_cons_of_mem _
    cases x with
    | int n =>
      simp only at p1
      split at p1
      · rename_i z
        refine ⟨n, by rw [R1.top.int_of], z.1, z.2, p1 ρ1 F1 H1 _ [] R2 ?_⟩
        have := walks_range (K := (kx X)) 0 n
        rwa [Int.sub_zero] at this
      · exact p1.elim
    | _ => exact p1.elim
theorem pi_rng2 (hg : Gl X "range") (hm : X.mg "range" = none) (ha : PE X a (SE (kx X) rx W fa)) (hb : PE X b (SE (kx X) rx W fb)) (hs : notStar a = true) (hs2 : notStar b = true) : PI X tg (.Call (.Name "range" p) [a, b] [] pos) (SI (kx X) rx W fun v m => (fa v m).bind fun x m => (fb v m).bind fun y m => (match x, y with
    | .int i, .int n => if (-(2 ^ 62) ≤ i ∧ i < 2 ^ 62) ∧ (-(2 ^ 62) ≤ n ∧ n < 2 ^ 62) then .ok (.items (rangeD i n)) m else .fail
    | _, _ => .fail)) :=
  PI.weak (pi_range2 hg hm (pa_cons ha (pa_cons hb pa_nil (star_ok hs2)) (star_ok hs)) (by rw [star_ok hs, star_ok hs2]; rfl) (star_ok hs2)) fun σ H R' ⟨b, env, hd, G, m, ρ, F, R, p⟩ => by
    refine ⟨b, env, hd, G, m, ρ, F, R, p.bind.imp (fun x m1 p1 ρ1 F1 H1 v R1 => ?_) fun _ _ z => z⟩
    refine ⟨b, env, (x, v) :: hd, G, m1, ρ1, F1, R1, p1.bind.imp (fun y m2 p2 ρ2 F2 H2 u R2 => ?_) fun _ _ z ρ' F' H' c dd R' => z ρ' F' H' c dd (R'.held fun _ => List.mem_cons_of_mem _)⟩
    have hx : Rep (kx X) F2 ρ2 m2 x v := R2.hd (x, v) (by simp)
    have hy := R2.top
    have R3 := R2.held (hd' := hd) fun _ z => List.mem_cons_of_mem _ (List.mem_cons_of_mem _ z)
    cases x with
    | int i =>
      cases y with
      | int n =>
        simp only at p2
        split at p2
        · rename_i z
          exact ⟨i, n, by rw [hx.int_of, hy.int_of], ⟨z.1.1, z.1.2, z.2.1, z.2.2⟩, p2 ρ2 F2 H2 _ [] R3 (walks_range i n)⟩
        · exact p2.elim
      | _ => exact p2.elim
    | _ => cases y <;> exact p2.elim
end

/-! ### targets -/
section
variable (K : KX) (rx : PySem.W.Frag → Exc → Value → Option Addr → Hp → Prop) (W : WX)
def SG (g : D → Env → MH → Res Env) : TG := fun v σ H Q => ∃ b env hd G m ρ F d, RS K b env ((d, v) :: hd) G m ρ F σ H ∧
  Post (g d env m) (fun env' m' => ∀ ρ' F' σ' H', RS K b env' hd G m' ρ' F' σ' H' → Q σ' H') (fun x m' => ∀ ρ' F' σ' H' c dd env', RS K b env' hd G m' ρ' F' σ' H' → rx K.k x c dd H' → W c dd σ' H')
def SGs (g : List D → Env → MH → Res Env) : TGs := fun vs σ H Q => ∃ b env hd G m ρ F ds, RS K b env (ds.zip vs ++ hd) G m ρ F σ H ∧ ds.length = vs.length ∧
  Post (g ds env m) (fun env' m' => ∀ ρ' F' σ' H', RS K b env' hd G m' ρ' F' σ' H' → Q σ' H') (fun x m' => ∀ ρ' F' σ' H' c dd env', RS K b env' hd G m' ρ' F' σ' H' → rx K.k x c dd H' → W c dd σ' H')
end
theorem PG.weak {X : Cx} {e : Expr} {t t' : TG} (h : PG X e t') (k : ∀ v σ H Q, t v σ H Q → t' v σ H Q) : PG X e t := ⟨fun pins s σ H v u Q I r q => h.run pins s σ H v u Q I r (k v σ H Q q)⟩
theorem PGs.weak {X : Cx} {e : List Expr} {t t' : TGs} (h : PGs X e t') (k : ∀ v σ H Q, t v σ H Q → t' v σ H Q) : PGs X e t := ⟨fun pins s σ H v u Q I r q => h.run pins s σ H v u Q I r (k v σ H Q q)⟩
theorem at_set {e : Env} {i j : Nat} {d : D} (hi : i < e.length) : Env.at_ (e.set i (some d)) j = if j = i then some d else e.at_ j := by
  unfold Env.at_
  rw [List.getElem?_set]
  by_cases h : i = j
  · subst h; simp [hi]
  · simp [h, Ne.symm h]
theorem RS.store {K : KX} {b : Bs} {env : Env} {hd : List (D × V)} {G : Hp} {m : MH} {ρ : Ro} {F : Hp} {σ : L2.St} {H : Hp} {d : D} {v : V} {i : Nat} (R : RS K b env hd G m ρ F σ H) (r : Rep K F ρ m d v) (hi : i < env.length) :
    RS K b (env.set i (some d)) hd G m ρ F (σ.set i (some v)) H :=
  ⟨R.rl, by simpa using R.len, fun j e h => by
    rw [at_set hi] at h
    by_cases hj : j = i
    · subst hj
      rw [if_pos rfl] at h
      cases h
      exact ⟨v, List.getElem?_set_self (by rw [← R.len]; exact hi), r⟩
    · rw [if_neg hj] at h
      obtain ⟨u, h1, h2⟩ := R.env j e h
      exact ⟨u, by rw [List.getElem?_set_ne (Ne.symm hj)]; exact h1, h2⟩, R.hd, R.pin, R.ml, R.xt⟩
section
variable {X : Cx} {rx : PySem.W.Frag → Exc → Value → Option Addr → Hp → Prop} {W : WX} {o i : Expr} {es : List Expr} {fo fi : Env → MH → Res D} {ga : D → Env → MH → Res Env} {gb : List D → Env → MH → Res Env} {pos : Pos}
theorem pg_name' {j : Nat} {x : Str} (hN : X.N.Nodup) (hi : X.N[j]? = some x) (hx : Loc X.env.scope x) (hf : X.fn x = true ∨ X.env.scope.names.lookup x = some .local) : PG X (.Name x pos) (SG (kx X) rx W fun d v m => if j < v.length then .ok (v.set j (some d)) m else .fail) :=
  PG.weak (pg_name hN hi hx hf) fun v σ H Q ⟨b, env, hd, G, m, ρ, F, d, R, p⟩ => by
    dsimp only at p
    split at p
    · rename_i z
      exact p ρ F _ H ((R.held fun _ => List.mem_cons_of_mem _).store R.top z)
    · exact p.elim
theorem pgs_nil' : PGs X [] (SGs (kx X) rx W fun ds v m => (match ds with
    | [] => .ok v m
    | _ => .fail)) :=
  PGs.weak pgs_nil fun vs σ H Q ⟨b, env, hd, G, m, ρ, F, ds, R, hl, p⟩ => by
    cases ds with
    | nil =>
      cases vs with
      | nil => exact ⟨rfl, p ρ F σ H R⟩
      | cons => simp at hl
    | cons => exact p.elim
theorem pgs_cons' {a : Expr} (h1 : PG X a (SG (kx X) rx W ga)) (h2 : PGs X es (SGs (kx X) rx W gb)) (hs : notStar a = true) : PGs X (a :: es) (SGs (kx X) rx W fun ds v m => (match ds with
    | d :: r => (ga d v m).bind fun v m => gb r v m
    | _ => .fail)) := by
  refine PGs.weak (pgs_cons h1 h2 (by cases a <;> first | rfl | cases hs)) fun vs σ H Q ⟨b, env, hd, G, m, ρ, F, ds, R, hl, p⟩ => ?_
  cases ds with
  | nil => exact p.elim
  | cons d r =>
    cases vs with
    | nil => simp at hl
    | cons v vr =>
      simp only [List.zip_cons_cons, List.cons_append] at R
      refine ⟨v, vr, rfl, b, env, r.zip vr ++ hd, G, m, ρ, F, d, R, p.bind.imp (fun env1 m1 p1 ρ1 F1 σ1 H1 R1 => ?_) fun x m' q ρ' F' σ' H' c dd env' R' => q ρ' F' σ' H' c dd env' (R'.held fun _ z => List.mem_append_right _ z)⟩
      exact ⟨b, env1, hd, G, m1, ρ1, F1, r, R1, by simpa using hl, p1⟩
theorem pg_tup' {n : Nat} {k : Nat} (hc : X.calm = true) (h : PGs X es (SGs (kx X) rx W gb)) (hn : es.length = n) (hs : es.all notStar = true) : PG X (.Tuple es k pos) (SG (kx X) rx W fun d v m => (match d with
    | .tup xs => if xs.length = n then gb xs v m else .fail
    | _ => .fail)) := by
  have e1 : ∀ es : List Expr, es.all notStar = true → (assignEach es X.env).length = es.length ∧ (assignEach es X.env).findIdx? (·.1) = none := by
    intro es
    induction es with
    | nil => intro _; exact ⟨rfl, rfl⟩
    | cons a as ih =>
      intro h
      simp only [List.all_cons, Bool.and_eq_true] at h
      obtain ⟨i1, i2⟩ := ih h.2
      have : assignEach (a :: as) X.env = (false, assign a X.env) :: assignEach as X.env := by cases a <;> first | rfl | cases h.1
      rw [this]
      exact ⟨by simp [i1], by rw [List.findIdx?_cons]; simp only [Bool.false_eq_true, if_false]; rw [i2]; rfl⟩
  refine PG.weak (pg_tup hc h (n := n) (by rw [(e1 es hs).1, hn]) (e1 es hs).2) fun v σ H Q ⟨b, env, hd, G, m, ρ, F, d, R, p⟩ => ?_
  cases d with
  | tup xs =>
    simp only at p
    split at p
    · rename_i z
      obtain ⟨a, vs, rfl, hq, hz, rr⟩ := R.top.tup_of
      refine ⟨a, vs, rfl, SqT.ext R.rl.fh hq, by rw [← rr.length]; exact z, b, env, hd, G, m, ρ, F, xs, ?_, rr.length, p⟩
      have R1 := R.held (hd' := hd) fun _ => List.mem_cons_of_mem _
      refine ⟨R1.rl, R1.len, R1.env, fun q hq => ?_, R1.pin, R1.ml, R1.xt⟩
      rcases List.mem_append.mp hq with hq | hq
      · obtain ⟨i, hi, e⟩ := List.mem_iff_getElem.mp hq
        have hi1 : i < xs.length := by simp at hi; omega
        obtain ⟨w, hw, rw'⟩ := rr.get (List.getElem?_eq_getElem hi1)
        rw [← e, List.getElem_zip]
        have hi2 : i < vs.length := by simp at hi; omega
        rw [List.getElem?_eq_getElem hi2] at hw
        cases hw
        exact rw'
      · exact R1.hd q hq
    · exact p.elim
  | _ => exact p.elim
end
end Fw

set_option Elab.async false
set_option linter.all false
set_option maxRecDepth 100000
set_option maxHeartbeats 1000000
set_option autoImplicit false
/-! ## Fw7: statements -/
namespace Fw
open PySem PySem.Spec PyProof.Rows L2

section
variable (K : KX) (rx : PySem.W.Frag → Exc → Value → Option Addr → Hp → Prop) (W : WX)
abbrev noE : Exc → MH → Prop := fun _ _ => False
def Oks (b : Bs) (hd : List (D × V)) (G : Hp) (En : Ends) : Fl → MH → Prop := fun fl m' => match fl with
  | .nx env' => ∀ ρ' F' σ' H', RS K b env' hd G m' ρ' F' σ' H' → En.nx σ' H'
  | .rt d => ∀ ρ' F' σ' H' v env', RS K b env' ((d, v) :: hd) G m' ρ' F' σ' H' → En.rt v H'
  | .ex x env' => ∀ ρ' F' σ' H' c dd, RS K b env' hd G m' ρ' F' σ' H' → rx K.k x c dd H' → W c dd σ' H'
def SS (x : Env → MH → Res Fl) : TS := fun En σ H => ∃ b env hd G m ρ F, RS K b env hd G m ρ F σ H ∧ Post (x env m) (Oks K rx W b hd G En) noE
end
theorem PS.weak {X : Cx} {e : Stmt} {t t' : TS} (h : PS X e t') (k : ∀ En σ H, t En σ H → t' En σ H) : PS X e t := ⟨fun pins s σ H En I q => h.run pins s σ H En I (k En σ H q)⟩
theorem PSs.weak {X : Cx} {e : List Stmt} {t t' : TS} (h : PSs X e t') (k : ∀ En σ H, t En σ H → t' En σ H) : PSs X e t := ⟨fun pins s σ H En I q => h.run pins s σ H En I (k En σ H q)⟩
theorem Post.thn {r : Res Fl} {f : Env → MH → Res Fl} {ok : Fl → MH → Prop} (h : Post (r.then_ f) ok noE) : Post r (fun fl m => match fl with
    | .nx v => Post (f v m) ok noE
    | fl => ok fl m) noE := by
  cases r with
  | ok a m => cases a <;> exact h
  | exc => exact h
  | fail => exact h
theorem Post.st {α : Type} {r : Res α} {v : Env} {f : α → MH → Res Fl} {ok : Fl → MH → Prop} (h : Post (r.st v f) ok noE) : Post r (fun a m => Post (f a m) ok noE) (fun x m => ok (.ex x v) m) := by
  cases r <;> exact h
theorem Post.tg {r : Res Env} {f : Env → MH → Res Fl} {ok : Fl → MH → Prop} (h : Post (r.tg f) ok noE) : Post r (fun v m => Post (f v m) ok noE) noE := by
  cases r <;> exact h
section
variable {X : Cx} {rx : PySem.W.Frag → Exc → Value → Option Addr → Hp → Prop} {W : WX} {e c tg it : Expr} {st : Stmt} {rest body : List Stmt} {fe : Env → MH → Res D} {ft : Env → MH → Res Bool} {fl : Env → MH → Res (List D)} {fw : Env → MH → Res Wk} {g : D → Env → MH → Res Env} {xa xb : Env → MH → Res Fl} {pos : Pos}
theorem pss_nil' : PSs X [] (SS (kx X) rx W fun v m => .ok (.nx v) m) := PSs.weak pss_nil fun En σ H ⟨b, env, hd, G, m, ρ, F, R, p⟩ => p ρ F σ H R
theorem pss_cons' (h1 : PS X st (SS (kx X) rx W xa)) (h2 : PSs X rest (SS (kx X) rx W xb)) : PSs X (st :: rest) (SS (kx X) rx W fun v m => (xa v m).then_ fun v m => xb v m) :=
  PSs.weak (pss_cons h1 h2) fun En σ H ⟨b, env, hd, G, m, ρ, F, R, p⟩ => by
    refine ⟨b, env, hd, G, m, ρ, F, R, p.thn.imp (fun fl m1 p1 => ?_) fun _ _ z => z⟩
    cases fl with
    | nx v => exact fun ρ1 F1 σ1 H1 R1 => ⟨b, v, hd, G, m1, ρ1, F1, R1, p1⟩
    | rt d => exact p1
    | ex x v => exact p1
theorem ps_pass' : PS X (.Pass pos) (SS (kx X) rx W fun v m => .ok (.nx v) m) := PS.weak ps_pass fun En σ H ⟨b, env, hd, G, m, ρ, F, R, p⟩ => p ρ F σ H R
def noComp : Expr → Bool
  | .ListComp .. => false
  | .SetComp .. => false
  | .DictComp .. => false
  | _ => true
theorem swaps_ok {e : Expr} {t : Option Expr} {l : Nat} {env : PySem.Env} (h : noComp e = true) : swapsWith e t l env = pure false := by
  cases e <;> first | rfl | cases h
theorem ps_exp' (h : PE X e (SE (kx X) rx W fe)) (hc : noComp e = true) : PS X (.Expr e pos) (SS (kx X) rx W fun v m => (fe v m).st v fun _ m => .ok (.nx v) m) :=
  PS.weak (ps_expr h (swaps_ok hc)) fun En σ H ⟨b, env, hd, G, m, ρ, F, R, p⟩ =>
    ⟨b, env, hd, G, m, ρ, F, R, p.st.imp (fun x m1 p1 ρ1 F1 H1 v R1 => p1 ρ1 F1 σ H1 (R1.held fun _ => List.mem_cons_of_mem _)) fun _ _ z ρ' F' H' c dd R' => z ρ' F' σ H' c dd R'⟩
theorem ps_ret' (h : PE X e (SE (kx X) rx W fe)) : PS X (.Return (some e) pos) (SS (kx X) rx W fun v m => (fe v m).st v fun x m => .ok (.rt x) m) :=
  PS.weak (ps_ret h) fun En σ H ⟨b, env, hd, G, m, ρ, F, R, p⟩ =>
    ⟨b, env, hd, G, m, ρ, F, R, p.st.imp (fun x m1 p1 ρ1 F1 H1 v R1 => p1 ρ1 F1 σ H1 v env R1) fun _ _ z ρ' F' H' c dd R' => z ρ' F' σ H' c dd R'⟩
theorem ps_retN' : PS X (.Return none pos) (SS (kx X) rx W fun _ m => .ok (.rt .non) m) :=
  PS.weak ps_retN fun En σ H ⟨b, env, hd, G, m, ρ, F, R, p⟩ => p ρ F σ H .non env (R.hold .non)
theorem ps_ifs' {sa sb : List Stmt} (h : PT X c (ST (kx X) rx W ft)) (h1 : PSs X sa (SS (kx X) rx W xa)) (h2 : PSs X sb (SS (kx X) rx W xb)) : PS X (.If c sa sb pos) (SS (kx X) rx W fun v m => (ft v m).st v fun t m => if t then xa v m else xb v m) :=
  PS.weak (ps_if h h1 h2) fun En σ H ⟨b, env, hd, G, m, ρ, F, R, p⟩ => by
    refine ⟨b, env, hd, G, m, ρ, F, R, p.st.imp (fun t m1 p1 ρ1 F1 H1 R1 => ?_) fun _ _ z ρ' F' H' c dd R' => z ρ' F' σ H' c dd R'⟩
    cases t with
    | true => exact ⟨b, env, hd, G, m1, ρ1, F1, R1, p1⟩
    | false => exact ⟨b, env, hd, G, m1, ρ1, F1, R1, p1⟩
/-- a target's outcome behind the value -/
theorem sg_of {b : Bs} {env : Env} {hd : List (D × V)} {G : Hp} {m : MH} {ρ : Ro} {F : Hp} {σ : L2.St} {H : Hp} {d : D} {v : V} {En : L2.St → Hp → Prop} (R : RS (kx X) b env ((d, v) :: hd) G m ρ F σ H)
    (p : Post (g d env m) (fun env' m' => ∀ ρ' F' σ' H', RS (kx X) b env' hd G m' ρ' F' σ' H' → En σ' H') noE) : SG (kx X) rx W g v σ H En := ⟨b, env, hd, G, m, ρ, F, d, R, p.imp (fun _ _ z => z) fun _ _ z => z.elim⟩
theorem ps_asg' (h : PE X e (SE (kx X) rx W fe)) (hg : PG X tg (SG (kx X) rx W g)) (hs : swapsWithSole [tg] e pos.line X.env = pure false) (hw : swappedStores [tg] e X.env = pure none) (hn : notStar tg = true) :
    PS X (.Assign [tg] e pos) (SS (kx X) rx W fun v m => (fe v m).st v fun x m => (g x v m).tg fun v m => .ok (.nx v) m) :=
  PS.weak (ps_asg h hg hs hw (by cases tg <;> first | rfl | cases hn)) fun En σ H ⟨b, env, hd, G, m, ρ, F, R, p⟩ =>
    ⟨b, env, hd, G, m, ρ, F, R, p.st.imp (fun x m1 p1 ρ1 F1 H1 v R1 => sg_of R1 (p1.tg.imp (fun env' m' q => q) fun _ _ z => z)) fun _ _ z ρ' F' H' c dd R' => z ρ' F' σ H' c dd R'⟩
theorem ps_par' {i j : Nat} {x y : Str} {a b : Expr} {px py pt : Pos} {kt k2 : Nat} {pt2 : Pos} (hc : X.calm = true) (hN : X.N.Nodup) (hi : X.N[i]? = some x) (hj : X.N[j]? = some y) (hij : i ≠ j)
    (hx : X.env.scope.names.lookup x = some .local) (hy : X.env.scope.names.lookup y = some .local) (ha : PA X [a, b] (SA (kx X) rx W fl))
    (hw : swappedStores [.Tuple [.Name x px, .Name y py] kt pt] (.Tuple [a, b] k2 pt2) X.env = pure (some [x, y])) :
    PS X (.Assign [.Tuple [.Name x px, .Name y py] kt pt] (.Tuple [a, b] k2 pt2) pos) (SS (kx X) rx W fun v m => (fl v m).st v fun xs m => (match xs with
    | [x, y] => if i < v.length ∧ j < v.length then .ok (.nx ((v.set i (some x)).set j (some y))) m else .fail
    | _ => .fail)) :=
  PS.weak (ps_par hc hN hi hj hij hx hy ha hw rfl) fun En σ H ⟨b, env, hd, G, m, ρ, F, R, p⟩ => by
    refine ⟨b, env, hd, G, m, ρ, F, R, p.st.imp (fun xs m1 p1 ρ1 F1 H1 vs R1 hl => ?_) fun _ _ z ρ' F' H' c dd R' => z ρ' F' σ H' c dd R'⟩
    match xs, vs, hl, R1, p1 with
    | [d1, d2], [v1, v2], _, R1, p1 =>
      dsimp only at p1
      split at p1
      · rename_i z
        have r1 : Rep (kx X) F1 ρ1 m1 d1 v1 := R1.hd (d1, v1) (by simp)
        have r2 : Rep (kx X) F1 ρ1 m1 d2 v2 := R1.hd (d2, v2) (by simp)
        have R2 := R1.held (hd' := hd) fun _ z => List.mem_append_right _ z
        exact ⟨v1, v2, rfl, p1 ρ1 F1 _ H1 ((R2.store r1 z.1).store r2 (by simpa using z.2))⟩
      · exact p1.elim
/-! loops -/
theorem whl_some {c : Env → MH → Res Bool} {b : Env → MH → Res Fl} {v : Env} {m : MH} (h : whl c b v m ≠ .fail) : ∃ k, whl c b v m = whlN c b k v m := by
  unfold whl at h ⊢
  split at h
  · rename_i e
    rw [dif_pos e]
    exact ⟨_, rfl⟩
  · exact absurd rfl h
theorem Post.ne {α : Type} {r : Res α} {ok : α → MH → Prop} {ex : Exc → MH → Prop} (h : Post r ok ex) : r ≠ .fail := by
  intro e; rw [e] at h; exact h
theorem ps_whl' (hp : PassesOwn (model X.prog X.w) X.A X.env X.xe) (h : PT X c (ST (kx X) rx W ft)) (hb : PSs X body (SS (kx X) rx W xa)) : PS X (.While c body [] pos) (SS (kx X) rx W fun v m => whl ft xa v m) :=
  PS.weak (ps_while hp h hb) fun En σ H ⟨b, env, hd, G, m, ρ, F, R, p⟩ => by
    obtain ⟨k, hk⟩ := whl_some p.ne
    dsimp only at p
    rw [hk] at p
    refine ⟨fun k σ H => ∃ env m ρ F, RS (kx X) b env hd G m ρ F σ H ∧ Post (whlN ft xa k env m) (Oks (kx X) rx W b hd G En) noE, ⟨k, env, m, ρ, F, R, p⟩, ?_⟩
    rintro k σ H ⟨env, m, ρ, F, R, p⟩
    cases k with
    | zero => exact p.elim
    | succ k =>
      refine ⟨b, env, hd, G, m, ρ, F, R, p.st.imp (fun t m1 p1 ρ1 F1 H1 R1 => ?_) fun _ _ z ρ' F' H' c dd R' => z ρ' F' σ H' c dd R'⟩
      cases t with
      | false => exact p1 ρ1 F1 σ H1 R1
      | true =>
        refine ⟨fun σ' H' => ∃ env m ρ F, RS (kx X) b env hd G m ρ F σ' H' ∧ Post (whlN ft xa k env m) (Oks (kx X) rx W b hd G En) noE, fun σ' H' n => ⟨k, Nat.lt_succ_self k, n⟩, ?_⟩
        refine ⟨b, env, hd, G, m1, ρ1, F1, R1, (Post.thn p1).imp (fun fl m2 p2 => ?_) fun _ _ z => z⟩
        cases fl with
        | nx v => exact fun ρ2 F2 σ2 H2 R2 => ⟨v, m2, ρ2, F2, R2, p2⟩
        | rt d => exact p2
        | ex x v => exact p2
theorem ps_for' (hp : PassesOwn (model X.prog X.w) X.A X.env X.xe) (hc : X.calm = true) (hi : PI X tg it (SI (kx X) rx W fw)) (hg : PG X tg (SG (kx X) rx W g)) (hb : PSs X body (SS (kx X) rx W xa)) (hs : ∀ x, foldedSetIterable it X.env x = pure x) :
    PS X (.For tg it body [] pos) (SS (kx X) rx W fun v m => (fw v m).st v fun w m => (match w with
    | .items xs => forL g xa xs v m
    | .live l i n => forN g xa l i n n v m)) :=
  PS.weak (ps_for hp hc hi hg hb hs) fun En σ H ⟨b, env, hd, G, m, ρ, F, R, p⟩ => by
    refine ⟨b, env, hd, G, m, ρ, F, R, p.st.imp (fun w m1 p1 ρ1 F1 H1 J hs R1 wk => ?_) fun _ _ z ρ' F' H' c dd R' => z ρ' F' σ H' c dd R'⟩
    have up : ∀ p ∈ hd, p ∈ hs ++ hd := fun _ z => List.mem_append_right _ z
    cases w with
    | items xs =>
      refine ⟨fun i k σ H => ∃ env m ρ F, RS (kx X) b env (hs ++ hd) G m ρ F σ H ∧ i + k = xs.length ∧ Post (forL g xa (xs.drop i) env m) (Oks (kx X) rx W b hd G En) noE, ⟨xs.length, env, m1, ρ1, F1, R1, by omega, p1⟩, ?_⟩
      rintro i k σ H ⟨env, m, ρ, F, R, hk, p⟩
      obtain ⟨w1, w2⟩ := wk i b env hd G m ρ F σ H R
      rcases Nat.lt_or_ge i xs.length with hlt | hge
      · refine .inr ?_
        obtain ⟨g1, g2⟩ := w1 xs[i] (List.getElem?_eq_getElem hlt)
        refine ⟨g1, fun σ' H' => ∃ env m ρ F, RS (kx X) b env (hs ++ hd) G m ρ F σ' H' ∧ Post (forL g xa (xs.drop (i + 1)) env m) (Oks (kx X) rx W b hd G En) noE, fun σ' H' ⟨env, m, ρ, F, R', q⟩ => ⟨k - 1, by omega, env, m, ρ, F, R', by omega, q⟩, fun v H' hy => ?_⟩
        obtain ⟨F', R'⟩ := g2 v H' hy
        rw [List.drop_eq_getElem_cons hlt] at p
        refine ⟨b, env, hs ++ hd, G, m, ρ, F', xs[i], R', (Post.tg p).imp (fun env' m2 p2 ρ2 F2 σ2 H2 R2 => ?_) fun _ _ z => z.elim⟩
        refine ⟨b, env', hs ++ hd, G, m2, ρ2, F2, R2, (Post.thn p2).imp (fun fl m3 p3 => ?_) fun _ _ z => z⟩
        cases fl with
        | nx v => exact fun ρ2 F2 σ2 H2 R2 => ⟨v, m3, ρ2, F2, R2, p3⟩
        | rt d => exact fun ρ2 F2 σ2 H2 v env' R2 => p3 ρ2 F2 σ2 H2 v env' (R2.held fun q hq => by
            rcases List.mem_cons.mp hq with rfl | hq
            · simp
            · exact List.mem_cons_of_mem _ (up _ hq))
        | ex x v => exact fun ρ2 F2 σ2 H2 c dd R2 => p3 ρ2 F2 σ2 H2 c dd (R2.held up)
      · refine .inl ⟨w2 hge, ?_⟩
        rw [List.drop_eq_nil_of_le hge] at p
        exact p ρ F σ H (R.held up)
    | live l j n =>
      refine ⟨fun i k σ H => ∃ env m ρ F, RS (kx X) b env (hs ++ hd) G m ρ F σ H ∧ i + k = n ∧ Post (forN g xa l j n k env m) (Oks (kx X) rx W b hd G En) noE, ⟨n, env, m1, ρ1, F1, R1, by omega, p1⟩, ?_⟩
      rintro i k σ H ⟨env, m, ρ, F, R, hk, p⟩
      have w0 := wk i b env hd G m ρ F σ H R
      cases k with
      | zero =>
        unfold forN at p
        cases gg : get m l j with
        | none => simp only [gg] at p; exact p.elim
        | some o =>
          cases o with
          | lst ys =>
            simp only [gg] at p
            obtain ⟨w1, w2⟩ := w0 ys gg
            split at p
            · exact .inl ⟨w2 (by omega), p ρ F σ H (R.held up)⟩
            · exact p.elim
      | succ k =>
        unfold forN at p
        cases gg : get m l j with
        | none => simp only [gg] at p; exact p.elim
        | some o =>
          cases o with
          | lst ys =>
            simp only [gg] at p
            obtain ⟨w1, w2⟩ := w0 ys gg
            have hi : n - (k + 1) = i := by omega
            rw [hi] at p
            cases hx : ys[i]? with
            | none => rw [hx] at p; exact p.elim
            | some x =>
              rw [hx] at p
              obtain ⟨g1, g2⟩ := w1 x hx
              refine .inr ⟨g1, fun σ' H' => ∃ env m ρ F, RS (kx X) b env (hs ++ hd) G m ρ F σ' H' ∧ Post (forN g xa l j n k env m) (Oks (kx X) rx W b hd G En) noE, fun σ' H' ⟨env, m, ρ, F, R', q⟩ => ⟨k, by omega, env, m, ρ, F, R', by omega, q⟩, fun v H' hy => ?_⟩
              obtain ⟨rfl, rv⟩ := g2 v H' hy
              refine ⟨b, env, hs ++ hd, G, m, ρ, F, x, R.hold rv, (Post.tg p).imp (fun env' m2 p2 ρ2 F2 σ2 H2 R2 => ?_) fun _ _ z => z.elim⟩
              refine ⟨b, env', hs ++ hd, G, m2, ρ2, F2, R2, (Post.thn p2).imp (fun fl m3 p3 => ?_) fun _ _ z => z⟩
              cases fl with
              | nx v => exact fun ρ2 F2 σ2 H2 R2 => ⟨v, m3, ρ2, F2, R2, p3⟩
              | rt d => exact fun ρ2 F2 σ2 H2 v env' R2 => p3 ρ2 F2 σ2 H2 v env' (R2.held fun q hq => by
                  rcases List.mem_cons.mp hq with rfl | hq
                  · simp
                  · exact List.mem_cons_of_mem _ (up _ hq))
              | ex x v => exact fun ρ2 F2 σ2 H2 c dd R2 => p3 ρ2 F2 σ2 H2 c dd (R2.held up)
end
end Fw

set_option Elab.async false
set_option linter.all false
set_option maxRecDepth 100000
set_option maxHeartbeats 1000000
set_option autoImplicit false
/-! ## Fw7a: chains, parts, module numbers, dict displays, what a caught exception is -/
namespace Fw
open PySem PySem.Spec PyProof.Rows L2
section
variable {X : Cx} {rx : PySem.W.Frag → Exc → Value → Option Addr → Hp → Prop} {W : WX} {e a b c : Expr} {fa fb fc : Env → MH → Res D} {pos : Pos}
theorem chain_read (o o2 : Cm) {σ : L2.St} {H : Hp} {Q : VK} (q : SE (kx X) rx W (fun v m => (fa v m).bind fun x m => (fb v m).bind fun y m => (Res.of (compare m o x y) m).bind fun t m => if t then (fc v m).bind fun z m => .of ((compare m o2 y z).map .bl) m else .ok (.bl false) m) σ H Q) : tChain (cmR X.K o) (cmR X.K o2) (SE (kx X) rx W fa) (SE (kx X) rx W fb) (SE (kx X) rx W fc) σ H Q := by
    obtain ⟨b0, env, hd, G, m, ρ, F, R, p⟩ := q
    refine ⟨b0, env, hd, G, m, ρ, F, R, p.bind.imp (fun x m1 p1 ρ1 F1 H1 v R1 => ?_) fun _ _ z => z⟩
    refine ⟨b0, env, (x, v) :: hd, G, m1, ρ1, F1, R1, p1.bind.imp (fun y m2 p2 ρ2 F2 H2 u R2 => ?_) fun _ _ z ρ' F' H' c dd R' => z ρ' F' H' c dd (R'.held fun _ => List.mem_cons_of_mem _)⟩
    obtain ⟨t, e1, p3⟩ := (Post.bind p2).of
    have hx : Rep (kx X) F2 ρ2 m2 x v := R2.hd (x, v) (by simp)
    have hy := R2.top
    have R3 : RS (kx X) b0 env ((y, u) :: hd) G m2 ρ2 F2 σ H2 := R2.held fun q hq => by
      rcases List.mem_cons.mp hq with rfl | hq
      · simp
      · simp [hq]
    refine cm_rep (K := kx X) o b0 env ((y, u) :: hd) G m2 ρ2 F2 σ H2 x y v u _ noE R3 hx hy ?_
    show Post (Res.of ((compare m2 o x y).map D.bl) m2) _ _
    rw [e1]
    intro ρ' F' H' w' R'
    cases R'.top.bl_of
    refine ⟨t, rfl, ?_⟩
    have R4 : RS (kx X) b0 env ((y, u) :: hd) G m2 ρ' F' σ H' := R'.held fun _ => List.mem_cons_of_mem _
    cases t with
    | false => exact p3 ρ' F' H' _ ((R4.held fun _ => List.mem_cons_of_mem _).hold (.bl _))
    | true =>
      simp only [if_true] at p3 ⊢
      refine ⟨b0, env, (y, u) :: hd, G, m2, ρ', F', R4, (Post.bind p3).imp (fun z m3 p4 ρ3 F3 H3 w3 R5 => ?_) fun _ _ z ρ' F' H' c dd R' => z ρ' F' H' c dd (R'.held fun _ => List.mem_cons_of_mem _)⟩
      have hy3 : Rep (kx X) F3 ρ3 m3 y u := R5.hd (y, u) (by simp)
      have hz := R5.top
      exact cm_rep (K := kx X) o2 b0 env hd G m3 ρ3 F3 σ H3 y z u w3 Q _ (R5.held fun _ z => List.mem_cons_of_mem _ (List.mem_cons_of_mem _ z)) hy3 hz p4

theorem pe_chain' (hu : X.A.units + 64 < cLine) (o o2 : Cm) (ha : PE X a (SE (kx X) rx W fa)) (hb : PE X b (SE (kx X) rx W fb)) (hc : PE X c (SE (kx X) rx W fc)) :
    PE X (.Compare a [cmOf o, cmOf o2] [b, c] pos) (SE (kx X) rx W (fun v m => (fa v m).bind fun x m => (fb v m).bind fun y m => (Res.of (compare m o x y) m).bind fun t m => if t then (fc v m).bind fun z m => .of ((compare m o2 y z).map .bl) m else .ok (.bl false) m)) :=
  PE.weak (pe_chain (cm_op hu o) (cm_op hu o2) ha hb hc (cmOf_in o2 c)) fun σ H Q q => chain_read o o2 q
theorem pt_chain' (hu : X.A.units + 64 < cLine) (o o2 : Cm) (ha : PE X a (SE (kx X) rx W fa)) (hb : PE X b (SE (kx X) rx W fb)) (hc : PE X c (SE (kx X) rx W fc)) :
    PT X (.Compare a [cmOf o, cmOf o2] [b, c] pos) (ST (kx X) rx W fun v m => ((fun v m => (fa v m).bind fun x m => (fb v m).bind fun y m => (Res.of (compare m o x y) m).bind fun t m => if t then (fc v m).bind fun z m => .of ((compare m o2 y z).map .bl) m else .ok (.bl false) m) v m : Res D).bind fun x m => .of (truth m x) m) :=
  PT.weak (pt_chain (cm_op hu o) (cm_op hu o2) ha hb hc (cmOf_in o2 c)) fun σ H Q q => chain_read o o2 (st_of q)
/-! parts -/
def SO (K : KX) (rx : PySem.W.Frag → Exc → Value → Option Addr → Hp → Prop) (W : WX) (o : Env → MH → Res (Option Int)) : TO := fun σ H Q => ∃ b env hd G m ρ F, RS K b env hd G m ρ F σ H ∧
  Post (o env m) (fun l m' => ∀ ρ' F' H', RS K b env hd G m' ρ' F' σ H' → Q l H') (Ex K rx W b env hd G σ)
theorem PO.weak {X : Cx} {e : Option Expr} {t t' : TO} (h : PO X e t') (k : ∀ σ H Q, t σ H Q → t' σ H Q) : PO X e t := ⟨fun pins s σ H Q I q => h.run pins s σ H Q I (k σ H Q q)⟩
theorem po_none' : PO X none (SO (kx X) rx W fun _ m => .ok none m) := PO.weak po_none fun σ H Q ⟨b, env, hd, G, m, ρ, F, R, p⟩ => p ρ F H R
theorem po_some' (h : PE X a (SE (kx X) rx W fa)) : PO X (some a) (SO (kx X) rx W fun v m => (fa v m).bind fun x m => (match x with
    | .int i => .ok (some i) m
    | _ => .fail)) := PO.weak (po_some h) fun σ H Q ⟨b, env, hd, G, m, ρ, F, R, p⟩ => by
  refine ⟨b, env, hd, G, m, ρ, F, R, p.bind.imp (fun x m1 p1 ρ1 F1 H1 v R1 => ?_) fun _ _ z => z⟩
  cases x with
  | int i => exact ⟨i, R1.top.int_of, p1 ρ1 F1 H1 (R1.held fun _ => List.mem_cons_of_mem _)⟩
  | _ => exact p1.elim
theorem RepL.drop {K : KX} {F : Hp} {ρ : Ro} {m : MH} : ∀ (n : Nat) {ds : List D} {vs : List V}, RepL K F ρ m ds vs → RepL K F ρ m (ds.drop n) (vs.drop n)
  | 0, _, _, h => h
  | n + 1, [], vs, h => by
    unfold RepL at h; subst h; exact .nil
  | n + 1, d :: ds, vs, h => by
    unfold RepL at h
    obtain ⟨v, r, rfl, h1, h2⟩ := h
    exact RepL.drop n h2
theorem RepL.take {K : KX} {F : Hp} {ρ : Ro} {m : MH} : ∀ (n : Nat) {ds : List D} {vs : List V}, RepL K F ρ m ds vs → RepL K F ρ m (ds.take n) (vs.take n)
  | 0, _, _, h => .nil
  | n + 1, [], vs, h => by
    unfold RepL at h; subst h; exact .nil
  | n + 1, d :: ds, vs, h => by
    unfold RepL at h
    obtain ⟨v, r, rfl, h1, h2⟩ := h
    exact .cons h1 (RepL.take n h2)
theorem RepL.cut {K : KX} {F : Hp} {ρ : Ro} {m : MH} {ds : List D} {vs : List V} (h : RepL K F ρ m ds vs) (lo hi : Option Int) : RepL K F ρ m (Fw.cut ds lo hi) (cutV vs lo hi) := by
  unfold Fw.cut cutV
  rw [← h.length]
  exact (h.drop _).take _
theorem cut_len (ds : List D) (lo hi : Option Int) : (cut ds lo hi).length ≤ ds.length := by
  unfold cut
  simp only [List.length_take, List.length_drop]
  omega
theorem cut_whole {ds : List D} {lo hi : Option Int} (h : HT.sIx ds.length 0 lo = 0 ∧ HT.sIx ds.length ds.length hi = ds.length) : cut ds lo hi = ds := by
  unfold cut
  rw [h.1, h.2]
  simp
theorem pe_sl' {lo hi : Option Expr} {fl fh : Env → MH → Res (Option Int)} {p2 : Pos} (ha : PE X a (SE (kx X) rx W fa)) (hl : PO X lo (SO (kx X) rx W fl)) (hh : PO X hi (SO (kx X) rx W fh)) :
    PE X (.Subscript a (.Slice lo hi none p2) pos) (SE (kx X) rx W fun v m => (fa v m).bind fun x m => (fl v m).bind fun l m => (fh v m).bind fun h m => .of (slD m x l h) m) :=
  PE.weak (pe_slice (sl_tupA.or sl_list) ha hl hh) fun σ H Q ⟨b, env, hd, G, m, ρ, F, R, p⟩ => by
    refine ⟨b, env, hd, G, m, ρ, F, R, p.bind.imp (fun x m1 p1 ρ1 F1 H1 v R1 => ?_) fun _ _ z => z⟩
    have up : ∀ q ∈ hd, q ∈ (x, v) :: hd := fun _ => List.mem_cons_of_mem _
    refine ⟨b, env, (x, v) :: hd, G, m1, ρ1, F1, R1, p1.bind.imp (fun l m2 p2 ρ2 F2 H2 R2 => ?_) fun _ _ z ρ' F' H' c dd R' => z ρ' F' H' c dd (R'.held up)⟩
    refine ⟨b, env, (x, v) :: hd, G, m2, ρ2, F2, R2, (Post.bind p2).imp (fun h m3 p3 ρ3 F3 H3 R3 => ?_) fun _ _ z ρ' F' H' c dd R' => z ρ' F' H' c dd (R'.held up)⟩
    obtain ⟨d, e, q⟩ := Post.of p3
    have hx := R3.top
    have R4 := R3.held up
    by_cases ht : ∃ xs, x = .tup xs
    · obtain ⟨xs, rfl⟩ := ht
      cases e
      obtain ⟨t, vs, rfl, hs, z, rr⟩ := hx.tup_of
      refine .inl ⟨t, vs, rfl, SqT.ext R3.rl.fh hs, fun hw => ?_, fun hw p hp => ?_⟩
      · rw [← rr.length] at hw
        rw [cut_whole hw] at q
        exact q ρ3 F3 H3 _ (R4.hold hx)
      · exact q _ _ _ _ (new_tup R4 (Nat.le_trans (cut_len _ _ _) z) (rr.cut l h) hp)
    · have e' : (lstOf m3 x).map (fun xs => D.lst (cut xs l h)) = some d := by
        unfold slD at e
        split at e
        · exact absurd ⟨_, rfl⟩ ht
        · exact e
      obtain ⟨xs, e1, rfl⟩ := Option.map_eq_some_iff.mp e'
      obtain ⟨t, vs, rfl, hs, z, rr⟩ := lst_of R3.rl e1 hx
      exact .inr ⟨t, vs, rfl, SqL.of hs, fun p hp => q _ _ _ _ (new_lst R4 (Nat.le_trans (cut_len _ _ _) z) (rr.cut l h) hp)⟩
/-! a module's number -/
theorem pe_glob' {x : Str} {i : Int} {t : Tok} (hg : Gl X x) (hm : X.mg x = some (.int i t)) (hd : (x == ("__debug__" : Str)) = false) : PE X (.Name x pos) (SE (kx X) rx W fun _ m => .ok (.int i) m) :=
  pe_ret (d := .int i) (pe_glob (v := .int i) hg hm ⟨t, rfl⟩ hd) rfl rfl
/-! dict displays -/
theorem pe_dict0 : PE X (.Dict [] [] pos) (SE (kx X) rx W fun _ m => .ok (.dct [] []) m) :=
  PE.weak pe_dnewK fun σ H Q ⟨b, env, hd, G, m, ρ, F, R, p⟩ q hq => p ρ _ _ _ ((R.newF (.dK []) hq).hold (.dct (vs := []) upd_same rfl .nil))
theorem pe_dict1 {i j : Int} {k k2 : Nat} {p1 p2 : Pos} : PE X (.Dict [some (.Constant (.int i) k p1)] [.Constant (.int j) k2 p2] pos) (SE (kx X) rx W fun _ m => .ok (.dct [i] [.int j]) m) :=
  PE.weak (pe_disp (pps_cons (pe_int (i := i)) (pe_int (i := j)) pps_nil) rfl rfl (fun z => by cases z) (by simp)) fun σ H Q ⟨b, env, hd, G, m, ρ, F, R, p⟩ q hq => by
    refine ⟨upd_same, [(.inl i, .int j)], rfl, by simp, ?_⟩
    rw [show upd (upd H q (.dK [])) q (.dK (mergeK [] [(Sum.inl i, V.int j)])) = upd H q (.dK [(.inl i, .int j)]) from by
      funext z
      by_cases e : z = q
      · subst e; simp only [upd_same]; rfl
      · simp only [upd_ne e]]
    exact p ρ _ _ _ ((R.newF (.dK [(.inl i, .int j)]) hq).hold (.dct (vs := [.int j]) upd_same rfl (.cons (.int j) .nil)))
end
end Fw

set_option Elab.async false
set_option linter.all false
set_option maxRecDepth 100000
set_option maxHeartbeats 1000000
set_option autoImplicit false
/-! ## Fw7b: what is raised, what is caught -/
namespace Fw
open PySem PySem.Spec PyProof.Rows L2
/-! ### values without exceptions -/
section
variable {k : PySem.W.Frag} {e1 e2 : Exc → Addr → Prop} {F : Hp} {ρ : Ro} {m : MH}
mutual
theorem Rep.noX : ∀ {d : D} {v : V}, Rep (k0 k) F ρ m d v → noX d = true
  | .non, _, _ => rfl
  | .bl _, _, _ => rfl
  | .int _, _, _ => rfl
  | .str _, _, _ => rfl
  | .ref _ _, _, _ => rfl
  | .tup xs, _, h => by
    unfold Rep at h
    obtain ⟨a, vs, e, q, z, r⟩ := h
    exact RepL.noX r
  | .lst xs, _, h => by
    unfold Rep at h
    obtain ⟨a, vs, e, q, z, r⟩ := h
    exact RepL.noX r
  | .scr xs, _, h => by
    unfold Rep at h
    obtain ⟨a, vs, e, q, z, r⟩ := h
    exact RepL.noX r
  | .dct ks xs, _, h => by
    unfold Rep at h
    obtain ⟨a, vs, e, q, z, r⟩ := h
    exact RepL.noX r
  | .exc x, _, h => by
    unfold Rep at h
    obtain ⟨a, _, z⟩ := h
    exact z.elim
theorem RepL.noX : ∀ {ds : List D} {vs : List V}, RepL (k0 k) F ρ m ds vs → noXL ds = true
  | [], _, _ => rfl
  | d :: ds, _, h => by
    unfold RepL at h
    obtain ⟨v, r, e, h1, h2⟩ := h
    unfold noXL
    rw [Rep.noX h1, RepL.noX h2]; rfl
end
mutual
theorem Rep.to : ∀ {d : D} {v : V}, Fw.noX d = true → Rep ⟨k, e1⟩ F ρ m d v → Rep ⟨k, e2⟩ F ρ m d v
  | .non, _, _, h => h
  | .bl _, _, _, h => h
  | .int _, _, _, h => h
  | .str _, _, _, h => h
  | .ref _ _, _, _, h => h
  | .tup xs, _, n, h => by
    unfold Rep at h ⊢
    obtain ⟨a, vs, e, q, z, r⟩ := h
    exact ⟨a, vs, e, q, z, RepL.to n r⟩
  | .lst xs, _, n, h => by
    unfold Rep at h ⊢
    obtain ⟨a, vs, e, q, z, r⟩ := h
    exact ⟨a, vs, e, q, z, RepL.to n r⟩
  | .scr xs, _, n, h => by
    unfold Rep at h ⊢
    obtain ⟨a, vs, e, q, z, r⟩ := h
    exact ⟨a, vs, e, q, z, RepL.to n r⟩
  | .dct ks xs, _, n, h => by
    unfold Rep at h ⊢
    obtain ⟨a, vs, e, q, z, r⟩ := h
    exact ⟨a, vs, e, q, z, RepL.to n r⟩
  | .exc x, _, n, h => by cases n
theorem RepL.to : ∀ {ds : List D} {vs : List V}, noXL ds = true → RepL ⟨k, e1⟩ F ρ m ds vs → RepL ⟨k, e2⟩ F ρ m ds vs
  | [], _, _, h => h
  | d :: ds, _, n, h => by
    unfold RepL at h ⊢
    unfold noXL at n
    simp only [Bool.and_eq_true] at n
    obtain ⟨v, r, e, h1, h2⟩ := h
    exact ⟨v, r, e, Rep.to n.1 h1, RepL.to n.2 h2⟩
end
mutual
theorem bd_noX (n : Nat) : ∀ d : D, d.bd n = true → Fw.noX d = true
  | .non, _ => rfl
  | .bl _, _ => rfl
  | .int _, _ => rfl
  | .str _, _ => rfl
  | .ref _ _, _ => rfl
  | .tup xs, h => by unfold D.bd at h; exact bdL_noX n xs h
  | .lst xs, h => by unfold D.bd at h; exact bdL_noX n xs h
  | .scr xs, h => by unfold D.bd at h; exact bdL_noX n xs h
  | .dct _ xs, h => by unfold D.bd at h; exact bdL_noX n xs h
  | .exc _, h => by unfold D.bd at h; cases h
theorem bdL_noX (n : Nat) : ∀ ds : List D, bdL n ds = true → noXL ds = true
  | [], _ => rfl
  | d :: ds, h => by
    unfold bdL at h
    simp only [Bool.and_eq_true] at h
    unfold noXL
    rw [bd_noX n d h.1, bdL_noX n ds h.2]; rfl
end
theorem Rl.to {H : Hp} (R : Rl ⟨k, e1⟩ F ρ m H) : Rl ⟨k, e2⟩ F ρ m H := ⟨R.fh, fun l i o e => by
  obtain ⟨h1, h2⟩ := R.ob l i o e
  have hw := R.wf l i o e
  refine ⟨h1, ?_⟩
  cases o with
  | lst xs =>
    obtain ⟨vs, a, z, r⟩ := h2
    exact ⟨vs, a, z, r.to (bdL_noX _ _ hw)⟩, R.inj, R.wf⟩
theorem RS.to {b : Bs} {env : Env} {hd : List (D × V)} {G : Hp} {σ : L2.St} {H : Hp} (R : RS ⟨k, e1⟩ b env hd G m ρ F σ H) (he : ∀ i d, env.at_ i = some d → Fw.noX d = true) (hh : ∀ p ∈ hd, Fw.noX p.1 = true) : RS ⟨k, e2⟩ b env hd G m ρ F σ H :=
  ⟨R.rl.to, R.len, fun i d e => by
    obtain ⟨v, h1, h2⟩ := R.env i d e
    exact ⟨v, h1, h2.to (he i d e)⟩, fun p hp => (R.hd p hp).to (hh p hp), R.pin, R.ml, R.xt⟩
end
theorem noXE_at {v : Env} (h : noXE v = true) (i : Nat) (d : D) (e : v.at_ i = some d) : noX d = true := by
  unfold Env.at_ at e
  cases g : v[i]? with
  | none => rw [g] at e; cases e
  | some o =>
    rw [g] at e
    have e' : o = some d := e
    subst e'
    have := List.all_eq_true.mp h _ (List.mem_of_getElem? g)
    exact this
theorem RS.clear {K : KX} {b : Bs} {env : Env} {hd : List (D × V)} {G : Hp} {m : MH} {ρ : Ro} {F : Hp} {σ : L2.St} {H : Hp} (R : RS K b env hd G m ρ F σ H) (i : Nat) : RS K b (env.set i none) hd G m ρ F (σ.set i none) H :=
  ⟨R.rl, by simpa using R.len, fun j d e => by
    by_cases hj : j = i
    · subst hj
      unfold Env.at_ at e
      rw [List.getElem?_set] at e
      simp only [if_true] at e
      split at e <;> cases e
    · have e' : env.at_ j = some d := by
        unfold Env.at_ at e ⊢
        rw [List.getElem?_set_ne (Ne.symm hj)] at e
        exact e
      obtain ⟨v, h1, h2⟩ := R.env j d e'
      exact ⟨v, by rw [List.getElem?_set_ne (Ne.symm hj)]; exact h1, h2⟩, R.hd, R.pin, R.ml, R.xt⟩

theorem at_bare (n i : Nat) : Env.at_ (List.replicate n none) i = none := by
  unfold Env.at_
  rw [List.getElem?_replicate]
  split <;> rfl
theorem RS.bare {K : KX} {b : Bs} {env : Env} {hd : List (D × V)} {G : Hp} {m : MH} {ρ : Ro} {F : Hp} {σ : L2.St} {H : Hp} (R : RS K b env hd G m ρ F σ H) : RS K b (List.replicate env.length none) hd G m ρ F σ H :=
  ⟨R.rl, by simpa using R.len, fun j d e => (by rw [at_bare] at e; cases e), R.hd, R.pin, R.ml, R.xt⟩
/-! ### isinstance of a caught one -/
def rIsX (X : Cx) : List V → Hp → VK → Prop := fun vs H Q => ∃ (z : Exc) (a : Addr) (c : V) (cv : Value) (b : Bool), vs = [.ref a, c] ∧ ExcAt X z a ∧ ExcC X.K (He.ga X.K z.cls) ∧ (∀ u, RelV c u → u = cv) ∧ PySem.W.kitOne X.K (.ref (He.ga X.K z.cls)) cv = some b ∧ Q (.bl b) H
theorem call_isX {X : Cx} : CallR X (.builtin "isinstance") (rIsX X) := by
  intro pins s σ H vs us Q I r h
  obtain ⟨z, a, c, cv, b, rfl, ⟨X0, oe, pn, e, hz, hf, _⟩, hC, hcv, hk, q⟩ := h
  subst e
  exact call_isE hC hz hf pins s σ H _ us Q I r ⟨c, cv, b, rfl, hcv, hk, q⟩
section
variable {X : Cx} {rx : PySem.W.Frag → Exc → Value → Option Addr → Hp → Prop} {W : WX} {a : Expr} {fa : Env → MH → Res D} {p p2 pos : Pos} {x : Str}
theorem pe_isE0 {c : V} {cv : Value} (ha : PE X a (SE (kx X) rx W fa)) (hs : notStar a = true) (hg : Gl X "isinstance") (hm : X.mg "isinstance" = none) (hc : PE X (.Name x p2) (tC c)) (hcv : ∀ u, RelV c u → u = cv)
    (hk : ∀ z : Exc, (z.cls, z.sups) ∈ clsOf X.prog → ExcC X.K (He.ga X.K z.cls) ∧ PySem.W.kitOne X.K (.ref (He.ga X.K z.cls)) cv = some (decide (x ∈ z.sups))) :
    PE X (.Call (.Name "isinstance" p) [a, .Name x p2] [] pos) (SE (kx X) rx W fun v m => (fa v m).bind fun y m => .of (isED x y) m) := by
  have hpa := pa_cons ha (pa_cons hc pa_nil rfl) (star_ok hs)
  refine PE.weak (pe_callB call_isX hg hm (by decide +kernel) hpa (by decide) (by decide) (star_ok hs) (by rfl)) fun σ H Q ⟨b, env, hd, G, m, ρ, F, R, p⟩ => ?_
  refine ⟨b, env, hd, G, m, ρ, F, R, p.bind.imp (fun y m1 p1 ρ1 F1 H1 v R1 => ?_) fun _ _ z => z⟩
  obtain ⟨d, e, q⟩ := Post.of p1
  cases y with
  | exc z =>
    cases e
    obtain ⟨a', rfl, hat⟩ := R1.top.exc_of
    have hat' : ExcAt X z a' := hat
    obtain ⟨_, _, _, _, _, _, hmem⟩ := id hat'
    obtain ⟨h1, h2⟩ := hk z hmem
    exact ⟨z, a', c, cv, _, rfl, hat', h1, hcv, h2, q ρ1 F1 H1 _ ((R1.held fun _ => List.mem_cons_of_mem _).hold (.bl _))⟩
  | _ => cases e
end

/-! ### raise -/
theorem ps_raise' {X : Cx} {W : WX} {x msg : Str} {sups : List Str} {cl : List (Str × List Str)} {j : Nat} {p p2 cp pos : Pos} (hc : X.calm = true) (tk : Takes X W) (hm : (x, sups) ∈ cl) (Fx : ExcFacts X.K X.mg cl (x, sups)) (hg : Gl X x) (hd : (x == ("__debug__" : Str)) = false) :
    PS X (.Raise (some (.Call (.Name x p) [.Constant (.str msg) j p2] [] cp)) none pos) (SS (kx X) (rxO cl) W fun v m => .ok (.ex ⟨x, sups, []⟩ v) m) :=
  PS.weak (ps_raise hc tk (pmk_own PySem.F.excBase_ValueError Fx.exc Fx.gl Fx.kp (raises_own Fx.sub Fx.ty) hg hd)) fun En σ H ⟨b, env, hd, G, m, ρ, F, R, p⟩ => p ρ F σ H _ none R ⟨hm, rfl, rfl⟩

/-! ### try -/
theorem ps_try' {X : Cx} {W : WX} {x n : Str} {i : Nat} {cl : List (Str × List Str)} {body suite : List Stmt} {b₀ : Stmt} {np pos pos' : Pos} {xa xb : Env → MH → Res Fl} (hcl : cl = clsOf X.prog) (hcalm : X.calm = true)
    (hs : X.stack = X.env :: X.outer) (hf : X.env.frame = some X.env.locals) (hN : X.N.Nodup) (hi : X.N[i]? = some n) (hln : X.env.kindOf n = some .local) (hg : Gl X x) (hdb : (x == ("__debug__" : Str)) = false) (hx : x ∈ cl.map (·.1)) (exf : ∀ p ∈ cl, ExcFacts X.K X.mg cl p) (tk : Takes X W)
    (hb : ∀ (W : WX) (pn : List (Addr × Obj)) (xe : Value → Shared → Prop), Takes (X.tr pn xe) W → PassesOwn (model X.prog X.w) X.A X.env xe → PSs (X.tr pn xe) body (SS (kx (X.tr pn xe)) (rxO cl) W xa))
    (hsu : ∀ (a : Addr) (oe : Obj) (pn : List (Addr × Obj)), PSs (X.suite a ((a, oe) :: pn)) (b₀ :: suite) (SS (kx (X.suite a ((a, oe) :: pn))) (rxO cl) (fun _ _ _ _ => False) xb)) :
    PS X (.Try body [.ExceptHandler (some (.Name x np)) (some n) (b₀ :: suite) pos'] [] [] pos) (SS (kx X) (rxO cl) W fun v m => tryF x i (xa v m) xb) := by
  obtain ⟨q, hq, hqx⟩ := List.mem_map.mp hx
  have hname : Names X x (.ref (He.ga X.K x)) := ⟨hg, hdb, .inl (by have := (exf q hq).gl; rw [hqx] at this; exact this)⟩
  have hk : ∀ pn xe, kx (X.tr pn xe) = k0 X.K := fun pn xe => kx_calm (X := X.tr pn xe) hcalm
  refine PS.weak (ps_try_as (ts := fun a cls d En σ H => ∀ oe pn, Zc cls d oe → (∃ vs, oe.data = .fields vs) → SS (kx (X.suite a ((a, oe) :: pn))) (rxO cl) (fun _ _ _ _ => False) xb En σ H) (tb := fun W => SS (k0 X.K) (rxO cl) W xa) (Wout := W) hs hf hN hi hln hname tk
    (fun W pn xe tk hp => by
      have := hb W pn xe tk hp
      rw [hk] at this
      exact this) (fun a oe cls d pn hz hff => PSs.weak (hsu a oe pn) fun En σ H h => h oe pn hz hff)) fun En σ H ⟨b, env, hd, G, m, ρ, F, R, p⟩ => ?_
  rw [kx_calm hcalm] at R p
  refine ⟨b, env, hd, G, m, ρ, F, R, ?_⟩
  have hh : ∀ p ∈ hd, noX p.1 = true := fun p hp => (R.hd p hp).noX
  dsimp only at p
  cases hxa : xa env m with
  | fail => rw [hxa] at p; exact p.elim
  | exc z m' => rw [hxa] at p; exact p.elim
  | ok fl m' =>
    rw [hxa] at p
    cases fl with
    | nx v => exact p
    | rt d => exact p
    | ex z v =>
      intro ρ' F' σ' H' c dd R' hrx
      obtain ⟨hmem, rfl, rfl⟩ := hrx
      have hE := (exf _ hmem).exm q hq
      rw [hqx] at hE
      refine ⟨_, hE, fun hyes a na => ?_, fun hno => ?_⟩
      · have hyes := of_decide_eq_true hyes
        simp only [tryF_ex, if_pos hyes] at p
        split at p
        · rename_i hlt
          intro oe pn hz hff
          have R1 : RS (kx (X.suite a ((a, oe) :: pn))) b v hd G m' ρ' F' σ' H' := R'.to (fun j d e => by
            obtain ⟨w, _, h2⟩ := R'.env j d e
            exact h2.noX) hh
          have hexc : Rep (kx (X.suite a ((a, oe) :: pn))) F' ρ' m' (.exc z) (.ref a) := by
            unfold Rep
            exact ⟨a, rfl, X, oe, pn, rfl, hz, hff, by rw [← hcl]; exact hmem⟩
          refine ⟨b, v.set i (some (.exc z)), hd, G, m', ρ', F', R1.store hexc hlt, ?_⟩
          cases hxb : xb (v.set i (some (.exc z))) m' with
          | fail => rw [hxb] at p; exact p.elim
          | exc z m' => rw [hxb] at p; exact p.elim
          | ok fl m2 =>
            rw [hxb] at p
            cases fl with
            | nx v2 =>
              simp only [Res.gone_nx] at p
              split at p
              · rename_i hnx
                intro ρ2 F2 σ2 H2 R2
                exact p ρ2 F2 _ H2 (RS.to (R2.clear i) (noXE_at hnx) hh)
              · exact p.elim
            | rt d =>
              simp only [Res.gone_rt] at p
              split at p
              · rename_i hnx
                intro ρ2 F2 σ2 H2 w env2 R2
                exact p ρ2 F2 σ2 H2 w _ (RS.to R2.bare (fun j d e => by rw [at_bare] at e; cases e) fun q hq => by
                  rcases List.mem_cons.mp hq with rfl | hq
                  · exact hnx
                  · exact hh q hq)
              · exact p.elim
            | ex z2 v2 => exact p.elim
        · exact p.elim
      · have hno := of_decide_eq_false hno
        simp only [tryF_ex, if_neg hno] at p
        exact p ρ' F' σ' H' _ none R' ⟨hmem, rfl, rfl⟩
end Fw

set_option Elab.async false
set_option linter.all false
set_option maxRecDepth 100000
set_option maxHeartbeats 1000000
set_option autoImplicit false
/-! ## Fw7c: list comprehensions -/
namespace Fw
open PySem PySem.Spec PyProof.Rows L2
/-! ### slots of a block -/
theorem wipe_set {σ : L2.St} {j : Nat} {x : Option V} : ∀ {vs : List Nat}, j ∈ vs → wipe (σ.set j x) vs = wipe σ vs
  | [], h => by cases h
  | v :: vs, h => by
    unfold wipe
    by_cases hj : j ∈ vs
    · rw [wipe_set hj]
    · have hv : j = v := by
        rcases List.mem_cons.mp h with e | e
        · exact e
        · exact absurd e hj
      subst hv
      clear h
      have : ∀ us : List Nat, j ∉ us → wipe (σ.set j x) us = (wipe σ us).set j x := by
        intro us
        induction us with
        | nil => intro _; rfl
        | cons u us ih =>
          intro hn
          simp only [List.mem_cons, not_or] at hn
          unfold wipe
          rw [ih hn.2, List.set_comm _ _ (fun e => hn.1 e)]
      rw [this vs hj, List.set_set]
theorem wipe_wipe (σ : L2.St) : ∀ (us vs : List Nat), (∀ i ∈ us, i ∈ vs) → wipe (wipe σ us) vs = wipe σ vs
  | [], _, _ => rfl
  | u :: us, vs, h => by
    show wipe ((wipe σ us).set u none) vs = _
    rw [wipe_set (h u List.mem_cons_self), wipe_wipe σ us vs fun i hi => h i (List.mem_cons_of_mem _ hi)]
theorem wipeE_length (v : Env) : ∀ is : List Nat, (wipeE v is).length = v.length
  | [] => rfl
  | i :: is => by unfold wipeE; rw [List.length_set, wipeE_length v is]
section
variable {K : KX} {b : Bs} {env : Env} {hd : List (D × V)} {G : Hp} {m : MH} {ρ : Ro} {F : Hp} {σ : L2.St} {H : Hp}
theorem RS.wipe (R : RS K b env hd G m ρ F σ H) : ∀ vs : List Nat, RS K b (wipeE env vs) hd G m ρ F (L2.wipe σ vs) H
  | [] => R
  | v :: vs => (RS.wipe R vs).clear v
/-- the slots' values held -/
def envP (env : Env) (σ : L2.St) : List (D × V) := (env.zip σ).filterMap fun p => match p with
  | (some d, some v) => some (d, v)
  | _ => none
theorem envP_mem {i : Nat} {d : D} {v : V} (h1 : env.at_ i = some d) (h2 : σ[i]? = some (some v)) : (d, v) ∈ envP env σ := by
  unfold Env.at_ at h1
  cases g : env[i]? with
  | none => rw [g] at h1; cases h1
  | some o =>
    rw [g] at h1
    have e : o = some d := h1
    subst e
    refine List.mem_filterMap.mpr ⟨(some d, some v), ?_, rfl⟩
    refine List.mem_of_getElem? (i := i) ?_
    rw [List.getElem?_zip_eq_some]
    exact ⟨g, h2⟩
theorem envP_of {p : D × V} (h : p ∈ envP env σ) : ∃ i, env.at_ i = some p.1 ∧ σ[i]? = some (some p.2) := by
  obtain ⟨q, hq, e⟩ := List.mem_filterMap.mp h
  obtain ⟨i, hi, e2⟩ := List.mem_iff_getElem.mp hq
  have hi1 : i < env.length := by simp at hi; omega
  have hi2 : i < σ.length := by simp at hi; omega
  rw [List.getElem_zip] at e2
  subst e2
  refine ⟨i, ?_, ?_⟩
  · unfold Env.at_
    rw [List.getElem?_eq_getElem hi1]
    revert e
    cases env[i] <;> cases σ[i] <;> intro e <;> first | cases e; rfl | cases e
  · rw [List.getElem?_eq_getElem hi2]
    revert e
    cases env[i] <;> cases σ[i] <;> intro e <;> first | cases e; rfl | cases e
theorem RS.keepEnv (R : RS K b env hd G m ρ F σ H) : RS K b env (envP env σ ++ hd) G m ρ F σ H :=
  ⟨R.rl, R.len, R.env, fun p hp => by
    rcases List.mem_append.mp hp with hp | hp
    · obtain ⟨i, h1, h2⟩ := envP_of hp
      obtain ⟨v, h3, h4⟩ := R.env i p.1 h1
      rw [h2] at h3
      cases h3
      exact h4
    · exact R.hd p hp, R.pin, R.ml, R.xt⟩
/-- the slots again -/
theorem RS.envBack {env2 : Env} {σ2 : L2.St} (R : RS K b env2 hd G m ρ F σ2 H) (hl : env.length = σ.length) (hs : ∀ i d, env.at_ i = some d → ∃ v, σ[i]? = some (some v) ∧ (d, v) ∈ hd) : RS K b env hd G m ρ F σ H :=
  ⟨R.rl, hl, fun i d e => by
    obtain ⟨v, h1, h2⟩ := hs i d e
    exact ⟨v, h1, R.hd _ h2⟩, R.hd, R.pin, R.ml, R.xt⟩
/-! ### the list that is being made stands aside -/
theorem RS.neR (R : RS K b env hd G m ρ F σ H) {p : Addr} (hp : H p = none) {l i : Nat} (q : Lv m l i) : ρ l i ≠ p := fun z => by
  obtain ⟨o, e⟩ := Option.isSome_iff_exists.mp q
  obtain ⟨h', e2, _⟩ := (R.rl.ob l i o e).2.some
  rw [z, hp] at e2; cases e2
theorem RS.pinNew (R : RS K b env hd G m ρ F σ H) {p : Addr} (o : HO) (hp : H p = none) : RS K b env hd (upd G p o) m ρ F σ (upd H p o) := by
  have hF := noF R.rl.fh hp
  refine ⟨⟨fun a u e => ?_, fun l i u e => ?_, R.rl.inj, R.rl.wf⟩, R.len, R.env, R.hd, fun a u e => ?_, R.ml, R.xt⟩
  · have : a ≠ p := fun z => by rw [z, hF] at e; cases e
    rw [upd_ne this]; exact R.rl.fh a u e
  · have hl : Lv m l i := by unfold Lv; rw [e]; rfl
    have := R.rl.ob l i u e
    rw [upd_ne (R.neR hp hl)]
    exact this
  · by_cases h : a = p
    · subst h
      rw [upd_same] at e ⊢
      exact ⟨e, hF, fun l i q => R.neR hp q⟩
    · rw [upd_ne h] at e ⊢
      exact R.pin a u e
theorem RS.pinSet (R : RS K b env hd G m ρ F σ H) {p : Addr} {o : HO} (o' : HO) (hp : G p = some o) : RS K b env hd (upd G p o') m ρ F σ (upd H p o') := by
  obtain ⟨h1, h2, h3⟩ := R.pin p o hp
  refine ⟨⟨fun a u e => ?_, fun l i u e => ?_, R.rl.inj, R.rl.wf⟩, R.len, R.env, R.hd, fun a u e => ?_, R.ml, R.xt⟩
  · have : a ≠ p := fun z => by rw [z, h2] at e; cases e
    rw [upd_ne this]; exact R.rl.fh a u e
  · have hl : Lv m l i := by unfold Lv; rw [e]; rfl
    rw [upd_ne (h3 l i hl)]
    exact R.rl.ob l i u e
  · by_cases h : a = p
    · subst h
      rw [upd_same] at e ⊢
      exact ⟨e, h2, h3⟩
    · rw [upd_ne h] at e ⊢
      exact R.pin a u e
/-- it is fixed -/
theorem RS.pinF {G' : Hp} (R : RS K b env hd G m ρ F σ H) {p : Addr} {o : HO} (hp : G p = some o) (hG : G' p = none) (hs : ∀ a u, G' a = some u → G a = some u) : RS K b env hd G' m ρ (upd F p o) σ H := by
  obtain ⟨h1, h2, h3⟩ := R.pin p o hp
  have x : Ext F ρ m (upd F p o) ρ m := .newF h2
  refine ⟨⟨fun a u e => ?_, fun l i u e => ?_, R.rl.inj, R.rl.wf⟩, R.len, fun i d e => ?_, fun q hq => (R.hd q hq).ext x, fun a u e => ?_, R.ml, R.xt.trans x⟩
  · by_cases h : a = p
    · subst h; rw [upd_same] at e; rw [← e]; exact h1
    · rw [upd_ne h] at e; exact R.rl.fh a u e
  · have hl : Lv m l i := by unfold Lv; rw [e]; rfl
    have := R.rl.ob l i u e
    rw [upd_ne (h3 l i hl)]
    exact ⟨this.1, this.2.ext x⟩
  · obtain ⟨v, q1, q2⟩ := R.env i d e
    exact ⟨v, q1, q2.ext x⟩
  · have : a ≠ p := fun z => by rw [z, hG] at e; cases e
    rw [upd_ne this]
    exact R.pin a u (hs a u e)
/-- it is a changed object -/
theorem RS.pinM {G' : Hp} {fr : List MO} {r : MH} (R : RS K b env hd G (fr :: r) ρ F σ H) {p : Addr} {xs : List D} {vs : List V} (hp : G p = some (.lst vs)) (hG : G' p = none) (hs : ∀ a u, G' a = some u → G a = some u) (hz : xs.length ≤ sizeLine) (hb : bdL (r.length + 1) xs = true) (hr : RepL K F ρ (fr :: r) xs vs) :
    RS K b env hd G' ((fr ++ [.lst xs]) :: r) (ρ.put r.length fr.length p) F σ H := by
  obtain ⟨h1, h2, h3⟩ := R.pin p _ hp
  have x : Ext F ρ (fr :: r) F (ρ.put r.length fr.length p) ((fr ++ [.lst xs]) :: r) := ⟨fun _ _ h => h, fun l' i' q => ⟨Ro.put_ne fun z => not_lv_end (z.1 ▸ z.2 ▸ q), Lv.snoc.mpr (.inr q)⟩⟩
  have old : ∀ l i, Lv (fr :: r) l i → (ρ.put r.length fr.length p) l i = ρ l i := fun l i q => (x.r l i q).1
  refine ⟨⟨R.rl.fh, fun l' i' u e => ?_, fun a c a' c' g1 g2 z => ?_, fun l' i' u e => ?_⟩, R.len, fun i d e => ?_, fun q hq => (R.hd q hq).ext x, fun a u e => ?_, R.ml, R.xt.trans x⟩
  · rw [get_snoc] at e
    by_cases q : l' = r.length ∧ i' = fr.length
    · rw [if_pos q] at e
      obtain ⟨rfl, rfl⟩ := q
      cases e
      rw [Ro.put_same]
      exact ⟨h2, vs, h1, hz, hr.ext x⟩
    · rw [if_neg q] at e
      have hlv' : Lv (fr :: r) l' i' := by unfold Lv; rw [e]; rfl
      rw [old _ _ hlv']
      have := R.rl.ob l' i' u e
      exact ⟨this.1, this.2.ext x⟩
  · rcases Lv.snoc.mp g1 with ⟨rfl, rfl⟩ | g1 <;> rcases Lv.snoc.mp g2 with ⟨rfl, rfl⟩ | g2
    · exact ⟨rfl, rfl⟩
    · rw [Ro.put_same, old _ _ g2] at z
      exact absurd z.symm (h3 _ _ g2)
    · rw [Ro.put_same, old _ _ g1] at z
      exact absurd z (h3 _ _ g1)
    · rw [old _ _ g1, old _ _ g2] at z
      exact R.rl.inj _ _ _ _ g1 g2 z
  · rw [get_snoc] at e
    by_cases q : l' = r.length ∧ i' = fr.length
    · rw [if_pos q] at e
      obtain ⟨rfl, rfl⟩ := q
      cases e
      exact hb
    · rw [if_neg q] at e
      exact R.rl.wf l' i' u e
  · obtain ⟨v, q1, q2⟩ := R.env i d e
    exact ⟨v, q1, q2.ext x⟩
  · obtain ⟨q1, q2, q3⟩ := R.pin a u (hs a u e)
    have : a ≠ p := fun z => by rw [z, hG] at e; cases e
    refine ⟨q1, q2, fun l i q => ?_⟩
    rcases Lv.snoc.mp q with ⟨rfl, rfl⟩ | q
    · rw [Ro.put_same]; exact this.symm
    · rw [old _ _ q]; exact q3 _ _ q
/-- a turn of what is walked -/
theorem walk_step {hs : List (D × V)} {w : Wk} {J : It} {i : Nat} (wk : Walks' K hs w J) (R : RS K b env (hs ++ hd) G m ρ F σ H) :
    (∀ x, stepW w i m = some (some x) → J.go i H ∧ ∀ v H', J.yld i H v H' → ∃ F', RS K b env ((x, v) :: (hs ++ hd)) G m ρ F' σ H') ∧ (stepW w i m = some none → J.stop i H) := by
  cases w with
  | items xs =>
    obtain ⟨w1, w2⟩ := wk i b env hd G m ρ F σ H R
    refine ⟨fun x e => w1 x (Option.some.inj e), fun e => w2 ?_⟩
    have e' : xs[i]? = none := Option.some.inj e
    exact List.getElem?_eq_none_iff.mp e'
  | live l j n =>
    have w0 := wk i b env hd G m ρ F σ H R
    cases g : get m l j with
    | none => exact ⟨fun x e => (by simp [stepW, g] at e), fun e => (by simp [stepW, g] at e)⟩
    | some o =>
      cases o with
      | lst ys =>
        obtain ⟨w1, w2⟩ := w0 ys g
        refine ⟨fun x e => ?_, fun e => w2 ?_⟩
        · have e' : ys[i]? = some x := by simpa [stepW, g] using e
          obtain ⟨g1, g2⟩ := w1 x e'
          refine ⟨g1, fun v H' hy => ?_⟩
          obtain ⟨rfl, hr⟩ := g2 v H' hy
          exact ⟨F, R.hold hr⟩
        · have e' : ys[i]? = none := by simpa [stepW, g] using e
          exact List.getElem?_eq_none_iff.mp e'
end

/-! ### targets of a block -/
def SP (K : KX) (own : List Nat) (f : D → Env → Option Env) : TG := fun v σ H Q => ∃ b env hd G m ρ F d env', RS K b env ((d, v) :: hd) G m ρ F σ H ∧ f d env = some env' ∧ ∀ ρ' F' σ' H', RS K b env' hd G m ρ' F' σ' H' → wipe σ' own = wipe σ own → Q σ' H'
def SPs (K : KX) (own : List Nat) (f : List D → Env → Option Env) : TGs := fun vs σ H Q => ∃ b env hd G m ρ F ds env', RS K b env (ds.zip vs ++ hd) G m ρ F σ H ∧ ds.length = vs.length ∧ f ds env = some env' ∧ ∀ ρ' F' σ' H', RS K b env' hd G m ρ' F' σ' H' → wipe σ' own = wipe σ own → Q σ' H'
section
variable {X : Cx} {own : List Nat} {pos : Pos} {es : List Expr}
theorem pv_name {j : Nat} {x : Str} (hN : X.N.Nodup) (hi : X.N[j]? = some x) (hx : Loc X.env.scope x) (hf : X.fn x = true ∨ X.env.scope.names.lookup x = some .local) (ho : j ∈ own) : PG X (.Name x pos) (SP (kx X) own (ptg (.name j)).1) :=
  PG.weak (pg_name hN hi hx hf) fun v σ H Q ⟨b, env, hd, G, m, ρ, F, d, env', R, e, q⟩ => by
    simp only [ptg] at e
    split at e
    · rename_i z
      cases e
      exact q ρ F _ H ((R.held fun _ => List.mem_cons_of_mem _).store R.top z) (wipe_set ho)
    · cases e
theorem pvs_nil : PGs X [] (SPs (kx X) own (ptg .nil).2) :=
  PGs.weak pgs_nil fun vs σ H Q ⟨b, env, hd, G, m, ρ, F, ds, env', R, hl, e, q⟩ => by
    cases ds with
    | nil =>
      cases vs with
      | nil => cases e; exact ⟨rfl, q ρ F σ H R rfl⟩
      | cons => simp at hl
    | cons => cases e
theorem pvs_cons {a : Expr} {p1 p2 : Pt} (h1 : PG X a (SP (kx X) own (ptg p1).1)) (h2 : PGs X es (SPs (kx X) own (ptg p2).2)) (hs : notStar a = true) : PGs X (a :: es) (SPs (kx X) own (ptg (.cons p1 p2)).2) := by
  refine PGs.weak (pgs_cons h1 h2 (by cases a <;> first | rfl | cases hs)) fun vs σ H Q ⟨b, env, hd, G, m, ρ, F, ds, env', R, hl, e, q⟩ => ?_
  cases ds with
  | nil => cases e
  | cons d r =>
    cases vs with
    | nil => simp at hl
    | cons v vr =>
      simp only [List.zip_cons_cons, List.cons_append] at R
      obtain ⟨env1, e1, e2⟩ := Option.bind_eq_some_iff.mp e
      exact ⟨v, vr, rfl, b, env, r.zip vr ++ hd, G, m, ρ, F, d, env1, R, e1, fun ρ1 F1 σ1 H1 R1 hw => ⟨b, env1, hd, G, m, ρ1, F1, r, env', R1, by simpa using hl, e2, fun ρ' F' σ' H' R' hw' => q ρ' F' σ' H' R' (hw'.trans hw)⟩⟩
theorem starT {X : Cx} : ∀ es : List Expr, es.all notStar = true → (assignEach es X.env).length = es.length ∧ (assignEach es X.env).findIdx? (·.1) = none := by
  intro es
  induction es with
  | nil => intro _; exact ⟨rfl, rfl⟩
  | cons a as ih =>
    intro h
    simp only [List.all_cons, Bool.and_eq_true] at h
    obtain ⟨i1, i2⟩ := ih h.2
    have : assignEach (a :: as) X.env = (false, assign a X.env) :: assignEach as X.env := by cases a <;> first | rfl | cases h.1
    rw [this]
    exact ⟨by simp [i1], by rw [List.findIdx?_cons]; simp only [Bool.false_eq_true, if_false]; rw [i2]; rfl⟩
theorem pv_tup {n k : Nat} {ts : Pt} (hc : X.calm = true) (h : PGs X es (SPs (kx X) own (ptg ts).2)) (hn : es.length = n) (hs : es.all notStar = true) : PG X (.Tuple es k pos) (SP (kx X) own (ptg (.tup n ts)).1) := by
  refine PG.weak (pg_tup hc h (n := n) (by rw [(starT es hs).1, hn]) (starT es hs).2) fun v σ H Q ⟨b, env, hd, G, m, ρ, F, d, env', R, e, q⟩ => ?_
  simp only [ptg] at e
  cases d with
  | tup xs =>
    simp only at e
    split at e
    · rename_i z
      obtain ⟨a, vs, rfl, hq, hz, rr⟩ := R.top.tup_of
      refine ⟨a, vs, rfl, SqT.ext R.rl.fh hq, by rw [← rr.length]; exact z, b, env, hd, G, m, ρ, F, xs, env', ?_, rr.length, e, q⟩
      have R1 := R.held (hd' := hd) fun _ => List.mem_cons_of_mem _
      refine ⟨R1.rl, R1.len, R1.env, fun q hq => ?_, R1.pin, R1.ml, R1.xt⟩
      rcases List.mem_append.mp hq with hq | hq
      · obtain ⟨i, hi, e⟩ := List.mem_iff_getElem.mp hq
        have hi1 : i < xs.length := by simp at hi; omega
        obtain ⟨w, hw, rw'⟩ := rr.get (List.getElem?_eq_getElem hi1)
        rw [← e, List.getElem_zip]
        have hi2 : i < vs.length := by simp at hi; omega
        rw [List.getElem?_eq_getElem hi2] at hw
        cases hw
        exact rw'
      · exact R1.hd q hq
    · cases e
  | _ => cases e
end
/-! ### a list comprehension -/
theorem Post.nox {α : Type} {r : Res α} {ok : α → MH → Prop} {ex : Exc → MH → Prop} (h : Post r.nox ok ex) : Post r ok noE := by
  cases r with
  | ok a m => exact h
  | exc => exact h.elim
  | fail => exact h
abbrev W0 : WX := fun _ _ _ _ => False
/-- the list is made -/
theorem lc_turns {k : PySem.W.Frag} {rx : PySem.W.Frag → Exc → Value → Option Addr → Hp → Prop} {W : WX} {b : Bs} {env : Env} {hd hs : List (D × V)} {G : Hp} {m : MH} {ρ : Ro} {F : Hp} {σ : L2.St} {H1 : Hp} {w : Wk} {J : It} {vs : List Nat} {f : D → Env → Option Env} {ft : Env → MH → Res Bool} {fe : Env → MH → Res D} {mu : Bool} {Q : VK}
    (R : RS (k0 k) b env (hs ++ hd) G m ρ F σ H1) (wk : Walks' (k0 k) hs w J) (hz : lenW w ≤ sizeLine)
    (p : Post (lcW f ft fe (wipeE env vs) w (lenW w + 1) 0 m) (fun ys m => Post (if mu then alloc m (.lst ys) else .ok (.lst ys) m) (fun d m' => ∀ ρ' F' H' v, RS (k0 k) b env ((d, v) :: hd) G m' ρ' F' σ H' → Q v H') (Ex (k0 k) rx W b env hd G σ)) noE) :
    ∀ A, H1 A = none → ∃ T : Nat → Nat → Hp → Prop, (∃ n, T 0 n (upd H1 A (.lst []))) ∧ ∀ i n H, T i n H → (J.stop i H ∧ Q (.ref A) H) ∨ (J.go i H ∧ ∃ Nx : Hp → Prop, (∀ H', Nx H' → ∃ n', n' < n ∧ T (i + 1) n' H') ∧ ∀ x H', J.yld i H x H' → SP (k0 k) vs f x (wipe σ vs) H' fun σ2 H2 => wipe σ2 vs = wipe σ vs ∧ ST (k0 k) rx W0 ft σ2 H2 fun t H3 =>
      if t = true then SE (k0 k) rx W0 fe σ2 H3 fun y H4 => ∃ acc, H4 A = some (.lst acc) ∧ acc.length < sizeLine ∧ Nx (upd H4 A (.lst (acc ++ [y]))) else Nx H3) := by
  intro A hA
  have hGA : G A = none := by
    cases e : G A with
    | none => rfl
    | some u => rw [(R.pin A u e).1] at hA; cases hA
  have RP := R.keepEnv
  have hlen := R.len
  have hslots : ∀ i d, env.at_ i = some d → ∃ v, σ[i]? = some (some v) ∧ (d, v) ∈ envP env σ := fun i d e => by
    obtain ⟨v, h1, _⟩ := R.env i d e
    exact ⟨v, h1, envP_mem e h1⟩
  generalize hPe : envP env σ = P at RP hslots
  clear hPe
  let rest := P ++ hd
  let T : Nat → Nat → Hp → Prop := fun i n H => ∃ ds us m ρ F, RS (k0 k) b (wipeE env vs) (hs ++ (ds.zip us ++ rest)) (upd G A (.lst us)) m ρ F (wipe σ vs) H ∧ ds.length = us.length ∧ us.length ≤ i ∧ i + n = lenW w + 1 ∧
    Post (lcW f ft fe (wipeE env vs) w n i m) (fun ys m => Post (if mu then alloc m (.lst (ds ++ ys)) else .ok (.lst (ds ++ ys)) m) (fun d m' => ∀ ρ' F' H' v, RS (k0 k) b env ((d, v) :: hd) G m' ρ' F' σ H' → Q v H') (Ex (k0 k) rx W b env hd G σ)) noE
  refine ⟨T, ⟨lenW w + 1, [], [], m, ρ, F, ((RP.wipe vs).pinNew (.lst []) hA).held (fun q hq => ?_), rfl, Nat.le_refl _, by omega, by simpa using p⟩, ?_⟩
  · simp only [List.zip_nil_left, List.nil_append, rest, List.mem_append] at hq ⊢
    rcases hq with hq | hq | hq <;> simp [hq]
  rintro i n H ⟨ds, us, m, ρ, F, R, hdu, hui, hin, p⟩
  cases n with
  | zero => exact p.elim
  | succ n =>
    obtain ⟨w1, w2⟩ := walk_step (i := i) wk R
    unfold lcW at p
    cases hst : stepW w i m with
    | none => rw [hst] at p; exact p.elim
    | some o =>
      rw [hst] at p
      cases o with
      | none =>
        refine .inl ⟨w2 hst, ?_⟩
        have p : Post (if mu = true then alloc m (.lst (ds ++ [])) else .ok (.lst (ds ++ [])) m) _ _ := p
        rw [List.append_nil] at p
        have hpin : (upd G A (.lst us)) A = some (.lst us) := upd_same
        have hrest : ∀ a u, G a = some u → (upd G A (.lst us)) a = some u := fun a u e => by
          rw [upd_ne (fun z => by rw [z, hGA] at e; cases e)]
          exact e
        have hrep : RepL (k0 k) F ρ m ds us := RS.list (hd := rest) (R.held fun q hq => by
          simp only [List.mem_append] at hq ⊢
          exact .inr hq) hdu
        have hz2 : ds.length ≤ sizeLine := by omega
        have Rb : RS (k0 k) b env (hs ++ (ds.zip us ++ rest)) (upd G A (.lst us)) m ρ F σ H := R.envBack hlen fun j d e => by
          obtain ⟨v, h1, h2⟩ := hslots j d e
          exact ⟨v, h1, by simp [rest, h2]⟩
        have hup : ∀ q ∈ hd, q ∈ hs ++ (ds.zip us ++ rest) := fun q hq => by simp [rest, hq]
        cases mu with
        | false =>
          have R2 := (Rb.pinF hpin hGA hrest).held hup
          refine p ρ _ H _ (R2.hold ?_)
          refine .lst upd_same hz2 (hrep.ext (.newF (R.pin A _ hpin).2.1))
        | true =>
          simp only [if_true] at p
          cases m with
          | nil => exact p.elim
          | cons fr r =>
            simp only [alloc] at p
            split at p
            · rename_i hb
              have R2 := (Rb.pinM hpin hGA hrest hz2 hb hrep).held hup
              have := p _ _ H _ (R2.hold (.ref (Lv.snoc.mpr (.inl ⟨rfl, rfl⟩))))
              rw [Ro.put_same] at this
              exact this
            · exact p.elim
      | some x =>
        obtain ⟨g1, g2⟩ := w1 x hst
        refine .inr ⟨g1, fun H' => ∃ n', n' < n + 1 ∧ T (i + 1) n' H', fun H' h => h, fun xv H' hy => ?_⟩
        obtain ⟨F', R'⟩ := g2 xv H' hy
        dsimp only at p
        cases hf : f x (wipeE env vs) with
        | none => rw [hf] at p; exact p.elim
        | some env' =>
          rw [hf] at p
          refine ⟨b, wipeE env vs, _, _, m, ρ, F', x, env', R', hf, fun ρ2 F2 σ2 H2 R2 hw => ⟨hw.trans (wipe_wipe σ vs vs fun _ z => z), ?_⟩⟩
          refine ⟨b, env', _, _, m, ρ2, F2, R2, (Post.bind p).imp (fun t m3 p3 ρ3 F3 H3 R3 => ?_) fun _ _ z => z.elim⟩
          have back : ∀ {env4 : Env} {σ4 : L2.St} {hd4 : List (D × V)} {G4 : Hp} {m4 : MH} {ρ4 : Ro} {F4 H4 : Hp}, RS (k0 k) b env4 (hd4 ++ (hs ++ (ds.zip us ++ rest))) G4 m4 ρ4 F4 σ4 H4 → RS (k0 k) b (wipeE env vs) (hd4 ++ (hs ++ (ds.zip us ++ rest))) G4 m4 ρ4 F4 (wipe σ vs) H4 := fun {env4 σ4 hd4 G4 m4 ρ4 F4 H4} R4 => by
            have : RS (k0 k) b env (hd4 ++ (hs ++ (ds.zip us ++ rest))) G4 m4 ρ4 F4 σ H4 := R4.envBack hlen fun j d e => by
              obtain ⟨v, h1, h2⟩ := hslots j d e
              exact ⟨v, h1, by simp [rest, h2]⟩
            exact this.wipe vs
          have hn0 : ∀ {m4 : MH} {r : List D → MH → Prop}, Post (lcW f ft fe (wipeE env vs) w n (i + 1) m4) r noE → 0 < n := fun {m4 r} q => by
            cases n with
            | zero => exact q.elim
            | succ => omega
          cases t with
          | false =>
            simp only [Bool.false_eq_true, if_false] at p3 ⊢
            exact ⟨n, by omega, ds, us, m3, ρ3, F3, back (hd4 := []) R3, hdu, by omega, by omega, p3⟩
          | true =>
            simp only [if_true] at p3 ⊢
            refine ⟨b, env', _, _, m3, ρ3, F3, R3, (Post.bind p3).imp (fun y m4 p4 ρ4 F4 H4 u R4 => ?_) fun _ _ z => z.elim⟩
            have p5 := Post.bind p4
            have hn := hn0 p5
            have hpin : (upd G A (.lst us)) A = some (.lst us) := upd_same
            refine ⟨us, (R4.pin A _ hpin).1, by omega, n, by omega, ds ++ [y], us ++ [u], m4, ρ4, F4, ?_, by simp [hdu], by simp; omega, by omega, p5.imp (fun ys m q => by
              have q : Post (if mu = true then alloc m (.lst (ds ++ (y :: ys))) else .ok (.lst (ds ++ (y :: ys))) m) _ _ := q
              rw [List.append_assoc]
              exact q) fun _ _ z => z⟩
            have R5 := (back (hd4 := [(y, u)]) R4).pinSet (.lst (us ++ [u])) hpin
            have e1 : upd (upd G A (.lst us)) A (.lst (us ++ [u])) = upd G A (.lst (us ++ [u])) := by
              funext z
              by_cases e : z = A
              · subst e; simp only [upd_same]
              · simp only [upd_ne e]
            rw [e1] at R5
            refine R5.held fun q hq => ?_
            rw [List.zip_append hdu] at hq
            simp only [List.zip_cons_cons, List.zip_nil_right, List.mem_append, List.mem_cons, List.not_mem_nil, or_false] at hq ⊢
            rcases hq with hq | (hq | hq) | hq <;> simp [hq]
section
variable {X : Cx} {rx : PySem.W.Frag → Exc → Value → Option Addr → Hp → Prop} {W : WX} {elt tg iter : Expr} {ifs : List Expr} {scope : Scope} {own : List (Str × Nat)} {pos : Pos} {fw : Env → MH → Res Wk} {f : D → Env → Option Env} {ft : Env → MH → Res Bool} {fe : Env → MH → Res D}
def lcF (fw : Env → MH → Res Wk) (f : D → Env → Option Env) (ft : Env → MH → Res Bool) (fe : Env → MH → Res D) (own : List Nat) (mu : Bool) : Env → MH → Res D := fun v m => (fw v m).bind fun w m => if lenW w ≤ sizeLine then (lcW f ft fe (wipeE v own) w (lenW w + 1) 0 m).nox.bind fun ys m => if mu then alloc m (.lst ys) else .ok (.lst ys) m else .fail
theorem lc_read {σ : L2.St} {H : Hp} {Q : VK} {mu : Bool} (q : SE (k0 X.K) rx W (lcF fw f ft fe (own.map (·.2)) mu) σ H Q) : tLc (SI (k0 X.K) rx W fw) (SP (k0 X.K) (own.map (·.2)) f) (ST (k0 X.K) rx W0 ft) (SE (k0 X.K) rx W0 fe) (own.map (·.2)) σ H Q := by
  obtain ⟨b, env, hd, G, m, ρ, F, R, p⟩ := q
  refine ⟨b, env, hd, G, m, ρ, F, R, p.bind.imp (fun w m1 p1 ρ1 F1 H1 J hs R1 wk => ?_) fun _ _ z => z⟩
  split at p1
  · rename_i hz
    exact lc_turns R1 wk hz (Post.bind p1).nox
  · exact p1.elim
theorem pe_lc' {mu : Bool} (hc : X.calm = true) (hN : X.N.Nodup) (hi : PI X tg iter (SI (k0 X.K) rx W fw)) (ok : BlkOk X.N X.env.scope scope own)
    (hg : ∀ (s : Shared) (H : Hp) (C : Addr) (cl : List (Str × Addr)) (fp : List Addr), PG (X.blk s H scope (compEnvC scope cl C X.env) fp) tg (SP (k0 X.K) (own.map (·.2)) f)) (ht : ∀ (s : Shared) (H : Hp) (C : Addr) (cl : List (Str × Addr)) (fp : List Addr), PTs (X.blk s H scope (compEnvC scope cl C X.env) fp) ifs (ST (k0 X.K) rx W0 ft))
    (he : ∀ (s : Shared) (H : Hp) (C : Addr) (cl : List (Str × Addr)) (fp : List Addr), PE (X.blk s H scope (compEnvC scope cl C X.env) fp) elt (SE (k0 X.K) rx W0 fe)) (hs : ∀ x, foldedSetIterable iter X.env x = pure x) :
    PE X (.ListComp elt [⟨tg, iter, ifs, 0⟩] scope pos) (SE (k0 X.K) rx W (lcF fw f ft fe (own.map (·.2)) mu)) :=
  PE.weak (pe_lc hc hN hi ok hg ht he hs) fun σ H Q q => lc_read q
theorem ps_setLc' {mu : Bool} {i : Nat} {y : Str} {py spos : Pos} (hc : X.calm = true) (hN : X.N.Nodup) (hy : X.N[i]? = some y) (hyl : X.env.scope.names.lookup y = some .local)
    (hsw : swapsWith (.ListComp elt [⟨tg, iter, ifs, 0⟩] scope pos) (some (.Name y py)) spos.line X.env = pure true) (hi : PI X tg iter (SI (k0 X.K) rx W fw)) (ok : BlkOk X.N X.env.scope scope own)
    (hg : ∀ (s : Shared) (H : Hp) (C : Addr) (cl : List (Str × Addr)) (fp : List Addr), PG (X.blk s H scope (compEnvC scope cl C X.env) fp) tg (SP (k0 X.K) (own.map (·.2)) f)) (ht : ∀ (s : Shared) (H : Hp) (C : Addr) (cl : List (Str × Addr)) (fp : List Addr), PTs (X.blk s H scope (compEnvC scope cl C X.env) fp) ifs (ST (k0 X.K) rx W0 ft))
    (he : ∀ (s : Shared) (H : Hp) (C : Addr) (cl : List (Str × Addr)) (fp : List Addr), PE (X.blk s H scope (compEnvC scope cl C X.env) fp) elt (SE (k0 X.K) rx W0 fe)) (hs : ∀ x, foldedSetIterable iter X.env x = pure x) :
    PS X (.Assign [.Name y py] (.ListComp elt [⟨tg, iter, ifs, 0⟩] scope pos) spos) (SS (k0 X.K) rx W fun v m => (lcF fw f ft fe (own.map (·.2)) mu v m).st v fun x m => if i < v.length then .ok (.nx (v.set i (some x))) m else .fail) :=
  PS.weak (ps_setLc hc hN hy hyl hsw hi ok hg ht he hs) fun En σ H ⟨b, env, hd, G, m, ρ, F, R, p⟩ => by
    refine lc_read (mu := mu) (X := X) ⟨b, env, hd, G, m, ρ, F, R, p.st.imp (fun d m1 p1 ρ1 F1 H1 v R1 => ?_) fun _ _ z ρ' F' H' c dd R' => z ρ' F' σ H' c dd R'⟩
    split at p1
    · rename_i z
      exact p1 ρ1 F1 _ H1 ((R1.held fun _ => List.mem_cons_of_mem _).store R1.top z)
    · exact p1.elim
end
end Fw

set_option Elab.async false
set_option linter.all false
set_option maxRecDepth 100000
set_option maxHeartbeats 2000000
set_option autoImplicit false
/-! ## Fw8: a program in the small language is the written one -/
namespace Fw
open PySem PySem.Spec PyProof.Rows L2

/-! ### the look -/
def visB (sc : Scope) (x : Str) : Bool := (match sc.names.lookup x with
  | some .local => true
  | some .cell => true
  | some .free => true
  | _ => false) && (!(x == ("__debug__" : Str)) && !(x == ("__classdict__" : Str)))
theorem visB_ok {sc : Scope} {x : Str} (h : visB sc x = true) : Vis sc x ∧ (x == ("__debug__" : Str)) = false ∧ (x == ("__classdict__" : Str)) = false := by
  unfold visB at h
  simp only [Bool.and_eq_true, Bool.not_eq_true'] at h
  obtain ⟨h1, h2, h3⟩ := h
  refine ⟨?_, h2, h3⟩
  unfold Vis
  split at h1 <;> first | exact .inl (by assumption) | exact .inr (.inl (by assumption)) | exact .inr (.inr (by assumption)) | cases h1
def glB (sc : Scope) (x : Str) : Bool := decide (sc.names.lookup x = some .globalImplicit) && !(x == ("__debug__" : Str))
def litB : Lit → Expr → Bool
  | .non, .Constant .none _ _ => true
  | .bl b, .Constant (.bool b') _ _ => b == b'
  | .int i, .Constant (.int j) _ _ => decide (i = j)
  | .str x, .Constant (.str y) _ _ => decide (x = y)
  | _, _ => false
def biOk (hot : Bool) : Bi → Bool
  | .sorted => false
  | .min => !hot
  | .max => !hot
  | .sum => !hot
  | .all => !hot
  | .any => !hot
  | _ => true
def notCall : Expr → Bool
  | .Call .. => false
  | _ => true
def tupE : Expr → Bool
  | .Tuple .. => true
  | .List .. => true
  | _ => false
def setE : Expr → Bool
  | .Set .. => true
  | _ => false
def locB (sc : Scope) (bc : Option Scope) (x : Str) : Bool := match sc.names.lookup x with
  | some .local => true
  | some .cell => (match bc with
    | none => true
    | some s => decide (s.names.lookup x = some .cell))
  | _ => false
/-- a class whose instances may be asked for: an own one, ValueError -/
def excB {ι : Type} (L : Look ι) (u : Str) : Bool := (L.cl.any fun p => decide (p.1 = u)) || decide (u = ("ValueError" : Str))
section
variable {ι : Type}
mutual
def chkP (own : List Nat) (L : Look ι) : Pt → Expr → Bool
  | .name i, x => (match x with
    | .Name y _ => decide (L.N[i]? = some y) && (locB L.sc L.bc y && decide (i ∈ own))
    | _ => false)
  | .tup n ts, x => (match x with
    | .Tuple xs _ _ => decide (xs.length = n) && chkPs own L ts xs
    | _ => false)
  | _, _ => false
def chkPs (own : List Nat) (L : Look ι) : Pt → List Expr → Bool
  | .nil, xs => (match xs with
    | [] => true
    | _ => false)
  | .cons a b, xs => (match xs with
    | y :: ys => notStar y && (chkP own L a y && chkPs own L b ys)
    | _ => false)
  | _, _ => false
end
end
section
variable {ι : Type}
def isNil : E ι → Bool
  | .nil => true
  | _ => false
mutual
def chk : E ι → Look ι → Expr → Bool
  | .lit c, L, x => litB c x
  | .var i, L, x => (match x with
    | .Name y _ => decide (L.N[i]? = some y) && visB L.sc y
    | _ => false)
  | .nil, _, _ => false
  | .cons _ _, _, _ => false
  | .tup es, L, x => (match x with
    | .Tuple xs _ _ => chkL es L xs
    | _ => false)
  | .lst es, L, x => (match x with
    | .List xs _ => chkL es L xs
    | _ => false)
  | .new es, L, x => (match x with
    | .List xs _ => chkL es L xs
    | _ => false)
  | .bin o a b, L, x => (match x with
    | .BinOp y op z _ => decide (op = opOf o) && (chk a L y && chk b L z)
    | _ => false)
  | .neg a, L, x => (match x with
    | .UnaryOp .USub y _ => chk a L y
    | _ => false)
  | .cmp o a b, L, x => (match x with
    | .Compare y [op] [z] _ => decide (op = cmOf o) && (chk a L y && chk b L z)
    | _ => false)
  | .and a b, L, x => (match x with
    | .BoolOp .And (y :: [z]) _ => chk a L y && chk b L z
    | .BoolOp .And (y :: z :: z2 :: r) pos => chk a L y && chk b L (.BoolOp .And (z :: z2 :: r) pos)
    | _ => false)
  | .or a b, L, x => (match x with
    | .BoolOp .Or (y :: [z]) _ => chk a L y && chk b L z
    | .BoolOp .Or (y :: z :: z2 :: r) pos => chk a L y && chk b L (.BoolOp .Or (z :: z2 :: r) pos)
    | _ => false)
  | .not a, L, x => (match x with
    | .UnaryOp .Not y _ => chk a L y
    | _ => false)
  | .ite c a b, L, x => (match x with
    | .IfExp y z w _ => chk c L y && (chk a L z && chk b L w)
    | _ => false)
  | .call f es, L, x => (match x with
    | .Call (.Name y _) xs [] _ => !L.hot && (decide (y = L.nm f) && (glB L.sc y && chkL es L xs))
    | _ => false)
  | .bi b es, L, x => (match x with
    | .Call (.Name y _) (z :: zs) [] _ => decide (y = biName b) && (biOk L.hot b && (glB L.sc y && chkL es L (z :: zs)))
    | _ => false)
  | .isi a t, L, x => (match x with
    | .Call (.Name y _) [z, .Name u _] [] _ => decide (y = ("isinstance" : Str)) && (glB L.sc y && (decide (u = tyStr t) && (glB L.sc u && (notStar z && chk a L z))))
    | _ => false)
  | .idx a i, L, x => (match x with
    | .Subscript y z _ => plainIx z && (chk a L y && chk i L z)
    | _ => false)
  | .app a b, L, x => (match x with
    | .Call (.Attribute y u ap) [z] [] cp => decide (u = ("append" : Str)) && (notCall y && (ap.endLine == cp.line && (notStar z && (chk a L y && chk b L z))))
    | _ => false)
  | .rng1 a, L, x => (match x with
    | .Call (.Name y _) [z] [] _ => decide (y = ("range" : Str)) && (glB L.sc y && (notStar z && chk a L z))
    | _ => false)
  | .rng2 a b, L, x => (match x with
    | .Call (.Name y _) [z, w] [] _ => decide (y = ("range" : Str)) && (glB L.sc y && (notStar z && (notStar w && (chk a L z && chk b L w))))
    | _ => false)
  | .chain o o2 a b c, L, x => (match x with
    | .Compare y [op, op2] [z, w] _ => decide (op = cmOf o) && (decide (op2 = cmOf o2) && (chk a L y && (chk b L z && chk c L w)))
    | _ => false)
  | .sl a lo hi, L, x => (match x with
    | .Subscript y (.Slice l h none _) _ => chk a L y && ((if isNil lo then l.isNone else (match l with
      | some y => chk lo L y
      | none => false)) && (if isNil hi then h.isNone else (match h with
      | some y => chk hi L y
      | none => false)))
    | _ => false)
  | .glob u i, L, x => (match x with
    | .Name y _ => decide (y = u) && (glB L.sc y && decide ((u, i) ∈ L.gl))
    | _ => false)
  | .dlit ks vs, _, x => (match ks, vs, x with
    | [], [], .Dict [] [] _ => true
    | [i], [j], .Dict [some (.Constant (.int i') _ _)] [.Constant (.int j') _ _] _ => decide (i = i') && decide (j = j')
    | _, _, _ => false)
  | .lc _ own t it c e, L, x => (match x with
    | .ListComp elt [⟨tg, iter, ifs, 0⟩] scope _ => !L.hot && (blkC L.N L.sc scope own && (!(setE iter) && (chk it L iter && (chkP (own.map (·.2)) { L with sc := relS scope L.sc, bc := some scope } t tg &&
      ((if isNil c then ifs.isEmpty else (match ifs with
      | [y] => chk c { L with sc := relS scope L.sc, bc := some scope } y
      | _ => false)) && chk e { L with sc := relS scope L.sc, bc := some scope } elt)))))
    | _ => false)
  | .isE a u, L, x => (match x with
    | .Call (.Name y _) [z, .Name w _] [] _ => decide (y = ("isinstance" : Str)) && (glB L.sc y && (decide (w = u) && (glB L.sc w && (notStar z && (chk a L z && excB L u)))))
    | _ => false)
  | .bad, _, _ => true
def chkL : E ι → Look ι → List Expr → Bool
  | .nil, L, xs => (match xs with
    | [] => true
    | _ => false)
  | .cons a b, L, xs => (match xs with
    | y :: ys => notStar y && (chk a L y && chkL b L ys)
    | _ => false)
  | _, _, _ => false
end
end

section
variable {ι : Type} {rx : PySem.W.Frag → Exc → Value → Option Addr → Hp → Prop} {L : Look ι} {call : ι → List D → MH → Res D} {k : Nat} {W : WX} {X : Cx}
structure SimE (X : Cx) (rx : PySem.W.Frag → Exc → Value → Option Addr → Hp → Prop) (W : WX) (s : Sm) (x : Expr) : Prop where
  pe : PE X x (SE (kx X) rx W s.e)
  pt : PT X x (ST (kx X) rx W s.t)
  pw : ∀ op vs pos, x = .BoolOp op vs pos → PW X x (ST (kx X) rx W s.t)
  pi : ∀ tg, PI X tg x (SI (kx X) rx W s.w)
def notBool : Expr → Bool
  | .BoolOp .. => false
  | _ => true
theorem SimE.mk' {f : Env → MH → Res D} {x : Expr} (h : PE X x (SE (kx X) rx W f)) (hp : plainTest x = true) : SimE X rx W { e := f } x :=
  ⟨h, pt_plain h hp, fun op vs pos e => (by subst e; cases hp), fun tg => pi_val h⟩
theorem glB_ok {x : Str} (C : Ctx rx L call k W X) (h : glB L.sc x = true) : Gl X x ∧ (x == ("__debug__" : Str)) = false := by
  unfold glB at h
  simp only [Bool.and_eq_true, decide_eq_true_eq, Bool.not_eq_true'] at h
  refine ⟨?_, h.2⟩
  show X.env.scope.names.lookup x = _
  rw [C.hs]
  exact h.1
theorem lit_ok (c : Lit) {x : Expr} (h : litB c x = true) : SimE X rx W { e := fun _ m => .ok (litD c) m } x := by
  cases c with
  | non => cases x <;> first | cases h | (rename_i v _ _; cases v <;> first | exact .mk' (pe_ret (d := .non) pe_non rfl rfl) rfl | cases h)
  | bl b => cases x <;> first | cases h | (rename_i v _ _; cases v <;> first | cases h | (rename_i b'; cases (show b = b' from by simpa [litB] using h); exact .mk' (pe_ret pe_bl rfl rfl) rfl))
  | int i => cases x <;> first | cases h | (rename_i v _ _; cases v <;> first | cases h | (rename_i j; cases (show i = j from by simpa [litB] using h); exact .mk' (pe_ret pe_int rfl rfl) rfl))
  | str i => cases x <;> first | cases h | (rename_i v _ _; cases v <;> first | cases h | (rename_i j; cases (show i = j from by simpa [litB] using h); exact .mk' (pe_ret pe_str rfl rfl) rfl))
theorem allStar : ∀ {e : E ι} {xs : List Expr}, chkL e L xs = true → xs.all notStar = true
  | .nil, xs, h => by cases xs with
    | nil => rfl
    | cons => simp [chkL] at h
  | .cons a b, xs, h => by cases xs with
    | nil => simp [chkL] at h
    | cons y ys =>
      simp only [chkL, Bool.and_eq_true] at h
      simp only [List.all_cons, Bool.and_eq_true]
      exact ⟨h.1, allStar h.2.2⟩
  | .lit _, _, h | .var _, _, h | .tup _, _, h | .lst _, _, h | .new _, _, h | .bin _ _ _, _, h | .neg _, _, h | .cmp _ _ _, _, h | .and _ _, _, h | .or _ _, _, h | .not _, _, h | .ite _ _ _, _, h | .call _ _, _, h | .bi _ _, _, h | .isi _ _, _, h
  | .idx _ _, _, h | .app _ _, _, h | .rng1 _, _, h | .rng2 _ _, _, h | .chain _ _ _ _ _, _, h | .sl _ _ _, _, h | .glob _ _, _, h | .dlit _ _, _, h | .lc _ _ _ _ _ _, _, h | .isE _ _, _, h | .bad, _, h => by simp [chkL] at h
theorem bi_ok (C : Ctx rx L call k W X) (b : Bi) {e : Expr} {es : List Expr} {fl : Env → MH → Res (List D)} {p pos : Pos} (hg : Gl X (biName b)) (ha : PA X (e :: es) (SA (kx X) rx W fl)) (hs : (e :: es).all notStar = true) (hb : biOk L.hot b = true) :
    PE X (.Call (.Name (biName b) p) (e :: es) [] pos) (SE (kx X) rx W fun v m => (fl v m).bind fun xs m => .of (built b xs m) m) := by
  have hm : X.mg (biName b) = none := C.free _ (by cases b <;> simp [biName, freeNames])
  have hdb : (biName b == ("__debug__" : Str)) = false := by cases b <;> decide
  have hn : biName b ≠ "__name__" := by cases b <;> decide
  cases b with
  | len => exact pe_bi bi_len hg hm (by decide +kernel) ha hn hdb hs
  | abs => exact pe_bi bi_abs hg hm (by decide +kernel) ha hn hdb hs
  | min => exact pe_bi (bi_min (C.calm (by simpa [biOk] using hb))) hg hm (by decide +kernel) ha hn hdb hs
  | max => exact pe_bi (bi_max (C.calm (by simpa [biOk] using hb))) hg hm (by decide +kernel) ha hn hdb hs
  | repr => exact pe_bi (bi_repr C.gd C.units) hg hm (by decide +kernel) ha hn hdb hs
  | sum => exact pe_bi (bi_sum (C.calm (by simpa [biOk] using hb))) hg hm (by decide +kernel) ha hn hdb hs
  | all => exact pe_bi (bi_all (C.calm (by simpa [biOk] using hb))) hg hm (by decide +kernel) ha hn hdb hs
  | any => exact pe_bi (bi_any (C.calm (by simpa [biOk] using hb))) hg hm (by decide +kernel) ha hn hdb hs
  | tuple => exact pe_biT bi_tuple hg hm (by decide +kernel) ha hn hdb hs
  | list => exact pe_biT bi_list hg hm (by decide +kernel) ha hn hdb hs
  | int => exact pe_biT bi_int hg hm (by decide +kernel) ha hn hdb hs
  | sorted => cases hb
theorem locB_ok (C : Ctx rx L call k W X) {x : Str} (h : locB L.sc L.bc x = true) : Loc X.env.scope x ∧ (X.fn x = true ∨ X.env.scope.names.lookup x = some .local) := by
  rw [C.hs]
  unfold locB at h
  split at h
  · exact ⟨.inl (by assumption), .inr (by assumption)⟩
  · refine ⟨.inr (by assumption), .inl (C.fn x ?_)⟩
    cases hbc : L.bc with
    | none => trivial
    | some s =>
      rw [hbc] at h
      exact of_decide_eq_true h
  · cases h
mutual
theorem chkP_ok {own : List Nat} (C : Ctx rx L call k W X) (hh : L.hot = false) : ∀ (t : Pt) {x : Expr}, chkP own L t x = true → PG X x (SP (kx X) own (ptg t).1)
  | .name i, x, h => by
    cases x <;> first | cases h | skip
    simp only [chkP, Bool.and_eq_true, decide_eq_true_eq] at h
    obtain ⟨h1, h2, h3⟩ := h
    obtain ⟨l1, l2⟩ := locB_ok C h2
    exact pv_name (by rw [C.hN]; exact C.nd) (by rw [C.hN]; exact h1) l1 l2 h3
  | .tup n ts, x, h => by
    cases x <;> first | cases h | skip
    simp only [chkP, Bool.and_eq_true, decide_eq_true_eq] at h
    exact pv_tup (C.calm hh) (chkPs_ok C hh ts h.2).1 h.1 (chkPs_ok C hh ts h.2).2
  | .nil, x, h => by cases h
  | .cons _ _, x, h => by cases h
theorem chkPs_ok {own : List Nat} (C : Ctx rx L call k W X) (hh : L.hot = false) : ∀ (t : Pt) {xs : List Expr}, chkPs own L t xs = true → PGs X xs (SPs (kx X) own (ptg t).2) ∧ xs.all notStar = true
  | .nil, xs, h => by
    cases xs with
    | nil => exact ⟨pvs_nil, rfl⟩
    | cons => cases h
  | .cons a b, xs, h => by
    cases xs with
    | nil => cases h
    | cons y ys =>
      simp only [chkPs, Bool.and_eq_true] at h
      obtain ⟨i1, i2⟩ := chkPs_ok C hh b h.2.2
      exact ⟨pvs_cons (chkP_ok C hh a h.2.1) i1 h.1, by simp only [List.all_cons, Bool.and_eq_true]; exact ⟨h.1, i2⟩⟩
  | .name _, xs, h => by cases h
  | .tup _ _, xs, h => by cases h
end
theorem pts_nil' : PTs X [] (ST (kx X) rx W fun _ m => .ok true m) := ⟨fun pins s σ H Q I ⟨b, env, hd, G, m, ρ, F, R, p⟩ => pts_nil.run pins s σ H Q I (p ρ F H R)⟩
/-- a block's context -/
theorem Ctx.blk (C : Ctx rx L call k W X) (hh : L.hot = false) (scope : Scope) (s : Shared) (H : Hp) (Cc : Addr) (cl : List (Str × Addr)) (fp : List Addr) : Ctx rx { L with sc := relS scope L.sc, bc := some scope } call k W0 (X.blk s H scope (compEnvC scope cl Cc X.env) fp) :=
  have tk0 : Takes (X.blk s H scope (compEnvC scope cl Cc X.env) fp) W0 := fun u s' ⟨_, _, _, _, _, _, _, _, _, _, _, _, _, _, _, _, w⟩ => w.elim
  { hN := C.hN, hs := by rw [← C.hs]; rfl, nd := C.nd, calm := C.calm, fn := fun x h => by
      have h' : scope.names.lookup x = some .cell := h
      show (scope.names.lookup x == some .cell) = true
      rw [h']; rfl
    room := C.room, units := C.units, gd := C.gd, pass := fun _ => passAt tk0, calls := C.calls, free := C.free, glb := C.glb, tk := fun _ => tk0, top := fun _ e => (by cases e), cl := C.cl, rxd := C.rxd, exf := C.exf }
theorem isNil_eq {e : E ι} (h : isNil e = true) : e = .nil := by cases e <;> first | rfl | cases h
theorem part_ok {e : E ι} {l : Option Expr} (hp : ∀ y, chk e L y = true → PE X y (SE (kx X) rx W (sem call e).e)) (h : (if isNil e then l.isNone else (match l with
      | some y => chk e L y
      | none => false)) = true) : PO X l (SO (kx X) rx W (sem call e).o) := by
  by_cases hn : isNil e = true
  · rw [if_pos hn] at h
    have := isNil_eq hn
    subst this
    cases l with
    | none => exact po_none'
    | some => cases h
  · rw [if_neg hn] at h
    cases l with
    | none => cases h
    | some y =>
      have := po_some' (hp y h)
      cases e <;> first | exact this | exact absurd rfl hn
theorem ifs_ok {e : E ι} {ifs : List Expr} (hp : ∀ y, chk e L y = true → PT X y (ST (kx X) rx W (sem call e).t)) (h : (if isNil e then ifs.isEmpty else (match ifs with
      | [y] => chk e L y
      | _ => false)) = true) : PTs X ifs (ST (kx X) rx W (sem call e).t) := by
  by_cases hn : isNil e = true
  · rw [if_pos hn] at h
    have := isNil_eq hn
    subst this
    cases ifs with
    | nil => exact pts_nil'
    | cons => cases h
  · rw [if_neg hn] at h
    match ifs, h with
    | [y], h => exact pts_one (hp y h)
theorem isE_ok (C : Ctx rx L call k W X) {a : Expr} {fa : Env → MH → Res D} {u : Str} {p p2 pos : Pos} (hs : notStar a = true) (hg : Gl X "isinstance") (hg2 : Gl X u ∧ (u == ("__debug__" : Str)) = false) (ha : PE X a (SE (kx X) rx W fa)) (hx : excB L u = true) :
    PE X (.Call (.Name "isinstance" p) [a, .Name u p2] [] pos) (SE (kx X) rx W fun v m => (fa v m).bind fun y m => .of (isED u y) m) := by
  have hm : X.mg "isinstance" = none := C.free _ (by simp [freeNames])
  unfold excB at hx
  rcases Bool.or_eq_true_iff.mp hx with hx | hx
  · obtain ⟨q, hq, e⟩ := List.any_eq_true.mp hx
    have e := of_decide_eq_true e
    subst e
    refine pe_isE0 (cv := .ref (He.ga X.K q.1)) ha hs hg hm (pe_glob (v := .ref (He.ga X.K q.1)) hg2.1 (C.exf q hq).gl rfl hg2.2) (fun u r => r) fun z hz => ?_
    rw [← C.cl] at hz
    exact ⟨(C.exf _ hz).cc, (C.exf _ hz).kit q hq⟩
  · have e := of_decide_eq_true hx
    subst e
    refine pe_isE0 (cv := .type "ValueError") ha hs hg hm (pe_bltn (v := .ty "ValueError") hg2.1 (C.free _ (by simp [freeNames])) (by decide +kernel) rfl (by decide) (by decide)) (fun u r => r) fun z hz => ?_
    rw [← C.cl] at hz
    exact ⟨(C.exf _ hz).cc, (C.exf _ hz).kitV⟩
mutual
theorem chk_ok : ∀ (e : E ι) {L : Look ι} {W : WX} {X : Cx} (C : Ctx rx L call k W X) {x : Expr}, chk e L x = true → SimE X rx W (sem call e) x
  | .lit c, L, W, X, C, x, h => lit_ok c h
  | .var i, L, W, X, C, x, h => by
    cases x <;> first | cases h | skip
    rename_i y _
    simp only [chk, Bool.and_eq_true, decide_eq_true_eq] at h
    obtain ⟨h1, h2⟩ := h
    obtain ⟨v1, v2, v3⟩ := visB_ok h2
    exact .mk' (pe_local (by rw [C.hN]; exact h1) (by rw [C.hs]; exact v1) v2 v3) rfl
  | .nil, L, W, X, C, x, h => by cases h
  | .cons _ _, L, W, X, C, x, h => by cases h
  | .tup es, L, W, X, C, x, h => by
    cases x <;> first | cases h | exact .mk' (pe_tup' (chkL_ok es C h)) rfl
  | .lst es, L, W, X, C, x, h => by
    cases x <;> first | cases h | exact .mk' (pe_lst' (chkL_ok es C h)) rfl
  | .new es, L, W, X, C, x, h => by
    cases x <;> first | cases h | exact .mk' (pe_new' (chkL_ok es C h)) rfl
  | .bin o a b, L, W, X, C, x, h => by
    cases x <;> first | cases h | skip
    simp only [chk, Bool.and_eq_true, decide_eq_true_eq] at h
    obtain ⟨rfl, h1, h2⟩ := h
    exact .mk' (pe_bin o (chk_ok a C h1).pe (chk_ok b C h2).pe) rfl
  | .neg a, L, W, X, C, x, h => by
    cases x <;> first | cases h | skip
    rename_i op y _
    cases op <;> first | cases h | exact .mk' (pe_neg (chk_ok a C h).pe) rfl
  | .cmp o a b, L, W, X, C, x, h => by
    cases x <;> first | cases h | skip
    rename_i y ops zs pos
    match ops, zs, h with
    | [op], [z], h =>
      simp only [chk, Bool.and_eq_true, decide_eq_true_eq] at h
      obtain ⟨rfl, h1, h2⟩ := h
      have ha := (chk_ok a C h1).pe
      have hb := (chk_ok b C h2).pe
      exact ⟨pe_cm C.units o ha hb, pt_cm C.units o ha hb, fun _ _ _ e => (by cases e), fun tg => pi_val (pe_cm C.units o ha hb)⟩
  | .and a b, L, W, X, C, x, h => by
    cases x <;> first | cases h | skip
    rename_i op vs pos
    cases op
    · match vs, h with
      | [y, z], h =>
        simp only [chk, Bool.and_eq_true] at h
        have ha := chk_ok a C h.1
        have hb := chk_ok b C h.2
        have hp := pe_and' (pos := pos) ha.pe (pe_one' hb.pe)
        have hw := pw_and' (pos := pos) ha.pt (pw_and1 hb.pt)
        exact ⟨hp, hw.pt, fun _ _ _ e => (by cases e; exact hw), fun tg => pi_val hp⟩
      | y :: z :: z2 :: r, h =>
        simp only [chk, Bool.and_eq_true] at h
        have ha := chk_ok a C h.1
        have hb := chk_ok b C h.2
        have hp := pe_and' (pos := pos) ha.pe hb.pe
        have hw := pw_and' (pos := pos) ha.pt (hb.pw _ _ _ rfl)
        exact ⟨hp, hw.pt, fun _ _ _ e => (by cases e; exact hw), fun tg => pi_val hp⟩
    · cases h
  | .or a b, L, W, X, C, x, h => by
    cases x <;> first | cases h | skip
    rename_i op vs pos
    cases op
    · cases h
    · match vs, h with
      | [y, z], h =>
        simp only [chk, Bool.and_eq_true] at h
        have ha := chk_ok a C h.1
        have hb := chk_ok b C h.2
        have hp := pe_or' (pos := pos) ha.pe (pe_one' hb.pe)
        have hw := pw_or' (pos := pos) ha.pt (pw_or1 hb.pt)
        exact ⟨hp, hw.pt, fun _ _ _ e => (by cases e; exact hw), fun tg => pi_val hp⟩
      | y :: z :: z2 :: r, h =>
        simp only [chk, Bool.and_eq_true] at h
        have ha := chk_ok a C h.1
        have hb := chk_ok b C h.2
        have hp := pe_or' (pos := pos) ha.pe hb.pe
        have hw := pw_or' (pos := pos) ha.pt (hb.pw _ _ _ rfl)
        exact ⟨hp, hw.pt, fun _ _ _ e => (by cases e; exact hw), fun tg => pi_val hp⟩
  | .not a, L, W, X, C, x, h => by
    cases x <;> first | cases h | skip
    rename_i op y pos
    cases op <;> first | cases h | skip
    have ha := chk_ok a C h
    have hp := pe_not' (pos := pos) ha.pe
    exact ⟨hp, pt_not' ha.pt, fun _ _ _ e => (by cases e), fun tg => pi_val hp⟩
  | .ite c a b, L, W, X, C, x, h => by
    cases x <;> first | cases h | skip
    simp only [chk, Bool.and_eq_true] at h
    obtain ⟨h0, h1, h2⟩ := h
    rename_i tt bb oo pos
    have hp := pe_ite (pos := pos) (chk_ok c C h0).pt (chk_ok a C h1).pe (chk_ok b C h2).pe
    exact ⟨hp, PT.no fun σ H Q ⟨b, env, hd, G, m, ρ, F, R, p⟩ => p, fun _ _ _ e => (by cases e), fun tg => pi_val hp⟩
  | .call f es, L, W, X, C, x, h => by
    cases x <;> first | cases h | skip
    rename_i fn xs kws pos
    cases fn <;> first | cases h | skip
    rename_i y p
    match kws, h with
    | [], h =>
      simp only [chk, Bool.and_eq_true, decide_eq_true_eq, Bool.not_eq_true'] at h
      obtain ⟨hh, rfl, hg, hl⟩ := h
      obtain ⟨g1, g2⟩ := glB_ok C hg
      cases es with
      | nil =>
        cases xs with
        | nil => exact .mk' (pe_call0' C hh f g1 g2) rfl
        | cons => simp [chkL] at hl
      | cons a b =>
        cases xs with
        | nil => simp [chkL] at hl
        | cons z zs => exact .mk' (pe_call' C hh f g1 g2 (chkL_ok (.cons a b) C hl) (allStar hl)) rfl
      | _ => simp [chkL] at hl
  | .bi b es, L, W, X, C, x, h => by
    cases x <;> first | cases h | skip
    rename_i fn xs kws pos
    cases fn <;> first | cases h | skip
    rename_i y p
    match xs, kws, h with
    | z :: zs, [], h =>
      simp only [chk, Bool.and_eq_true, decide_eq_true_eq] at h
      obtain ⟨rfl, hb, hg, hl⟩ := h
      exact .mk' (bi_ok C b (glB_ok C hg).1 (chkL_ok es C hl) (allStar hl) hb) rfl
  | .isi a t, L, W, X, C, x, h => by
    cases x <;> first | cases h | skip
    rename_i fn xs kws pos
    cases fn <;> first | cases h | skip
    rename_i y p
    match xs, kws, h with
    | [z, .Name u _], [], h =>
      simp only [chk, Bool.and_eq_true, decide_eq_true_eq] at h
      obtain ⟨rfl, hg, rfl, hg2, hs, ha⟩ := h
      exact .mk' (pe_isi t (chk_ok a C ha).pe hs (glB_ok C hg).1 (C.free _ (by simp [freeNames])) (glB_ok C hg2).1 (C.free _ (by cases t <;> simp [tyStr, freeNames]))) rfl
  | .idx a i, L, W, X, C, x, h => by
    cases x <;> first | cases h | skip
    simp only [chk, Bool.and_eq_true] at h
    obtain ⟨h0, h1, h2⟩ := h
    exact .mk' (pe_idx (chk_ok a C h1).pe (chk_ok i C h2).pe h0) rfl
  | .app a b, L, W, X, C, x, h => by
    cases x <;> first | cases h | skip
    rename_i fn xs kws pos
    cases fn <;> first | cases h | skip
    rename_i y u ap
    match xs, kws, h with
    | [z], [], h =>
      simp only [chk, Bool.and_eq_true, decide_eq_true_eq] at h
      obtain ⟨rfl, h0, h1, h2, ha, hb⟩ := h
      exact .mk' (pe_app (chk_ok a C ha).pe (chk_ok b C hb).pe h2 (by cases y <;> first | rfl | cases h0) h1) rfl
  | .rng1 a, L, W, X, C, x, h => by
    cases x <;> first | cases h | skip
    rename_i fn xs kws pos
    cases fn <;> first | cases h | skip
    rename_i y u
    match xs, kws, h with
    | [z], [], h =>
      simp only [chk, Bool.and_eq_true, decide_eq_true_eq] at h
      obtain ⟨rfl, hg, hs, ha⟩ := h
      exact ⟨PE.no fun σ H Q ⟨b, env, hd, G, m, ρ, F, R, p⟩ => p, PT.no fun σ H Q ⟨b, env, hd, G, m, ρ, F, R, p⟩ => p, fun _ _ _ e => (by cases e), fun tg => pi_rng1 (glB_ok C hg).1 (C.free _ (by simp [freeNames])) (chk_ok a C ha).pe hs⟩
  | .rng2 a b, L, W, X, C, x, h => by
    cases x <;> first | cases h | skip
    rename_i fn xs kws pos
    cases fn <;> first | cases h | skip
    rename_i y u
    match xs, kws, h with
    | [z, w], [], h =>
      simp only [chk, Bool.and_eq_true, decide_eq_true_eq] at h
      obtain ⟨rfl, hg, hs, hs2, ha, hb⟩ := h
      exact ⟨PE.no fun σ H Q ⟨b, env, hd, G, m, ρ, F, R, p⟩ => p, PT.no fun σ H Q ⟨b, env, hd, G, m, ρ, F, R, p⟩ => p, fun _ _ _ e => (by cases e), fun tg => pi_rng2 (glB_ok C hg).1 (C.free _ (by simp [freeNames])) (chk_ok a C ha).pe (chk_ok b C hb).pe hs hs2⟩
  | .chain o o2 a b c, L, W, X, C, x, h => by
    cases x <;> first | cases h | skip
    rename_i y ops zs pos
    match ops, zs, h with
    | [op, op2], [z, w], h =>
      simp only [chk, Bool.and_eq_true, decide_eq_true_eq] at h
      obtain ⟨rfl, rfl, h1, h2, h3⟩ := h
      have ha := (chk_ok a C h1).pe
      have hb := (chk_ok b C h2).pe
      have hc := (chk_ok c C h3).pe
      exact ⟨pe_chain' C.units o o2 ha hb hc, pt_chain' C.units o o2 ha hb hc, fun _ _ _ e => (by cases e), fun tg => pi_val (pe_chain' C.units o o2 ha hb hc)⟩
  | .sl a lo hi, L, W, X, C, x, h => by
    cases x <;> first | cases h | skip
    rename_i y z pos
    cases z <;> first | cases h | skip
    rename_i l hh st p2
    cases st with
    | some => cases h
    | none =>
      simp only [chk, Bool.and_eq_true] at h
      obtain ⟨h1, h2, h3⟩ := h
      exact .mk' (pe_sl' (chk_ok a C h1).pe (part_ok (fun y q => (chk_ok lo C q).pe) h2) (part_ok (fun y q => (chk_ok hi C q).pe) h3)) rfl
  | .glob u i, L, W, X, C, x, h => by
    cases x <;> first | cases h | skip
    rename_i y pos
    simp only [chk, Bool.and_eq_true, decide_eq_true_eq] at h
    obtain ⟨rfl, h1, h2⟩ := h
    obtain ⟨t, ht⟩ := C.glb _ h2
    obtain ⟨g1, g2⟩ := glB_ok C h1
    exact .mk' (pe_glob' g1 ht g2) rfl
  | .dlit ks vs, L, W, X, C, x, h => by
    unfold chk at h
    split at h
    · exact .mk' pe_dict0 rfl
    · simp only [Bool.and_eq_true, decide_eq_true_eq] at h
      obtain ⟨rfl, rfl⟩ := h
      exact .mk' pe_dict1 rfl
    · cases h
  | .lc mu own t it c e, L, W, X, C, x, h => by
    cases x <;> first | cases h | skip
    rename_i elt gs scope pos
    match gs, h with
    | [⟨tg, iter, ifs, 0⟩], h =>
      simp only [chk, Bool.and_eq_true, Bool.not_eq_true'] at h
      obtain ⟨hh, h1, h2, h3, h4, h5, h6⟩ := h
      have hc := C.calm hh
      have hB : ∀ (s : Shared) (H : Hp) (Cc : Addr) (cl : List (Str × Addr)) (fp : List Addr), Ctx rx { L with sc := relS scope L.sc, bc := some scope } call k W0 (X.blk s H scope (compEnvC scope cl Cc X.env) fp) := fun s H Cc cl fp => C.blk hh scope s H Cc cl fp
      have hk : ∀ (s : Shared) (H : Hp) (Cc : Addr) (cl : List (Str × Addr)) (fp : List Addr), kx (X.blk s H scope (compEnvC scope cl Cc X.env) fp) = k0 X.K := fun s H Cc cl fp => kx_calm (X := X.blk s H scope (compEnvC scope cl Cc X.env) fp) hc
      have hpi := (chk_ok it C h3).pi tg
      have hset : ∀ x, foldedSetIterable iter X.env x = pure x := by intro x; cases iter <;> first | rfl | cases h2
      rw [kx_calm hc] at hpi
      have hpe : PE X (.ListComp elt [⟨tg, iter, ifs, 0⟩] scope pos) (SE (kx X) rx W (lcF (sem call it).w (ptg t).1 (sem call c).t (sem call e).e (own.map (·.2)) mu)) := by
        rw [kx_calm hc]
        exact pe_lc' hc (by rw [C.hN]; exact C.nd) hpi (by rw [C.hN, C.hs]; exact blkOk_by h1) (fun s H Cc cl fp => by
          have := chkP_ok (hB s H Cc cl fp) hh t h4
          rw [hk] at this
          exact this) (fun s H Cc cl fp => by
          have := ifs_ok (fun y q => (chk_ok c (hB s H Cc cl fp) q).pt) h5
          rw [hk] at this
          exact this) (fun s H Cc cl fp => by
          have := (chk_ok e (hB s H Cc cl fp) h6).pe
          rw [hk] at this
          exact this) hset
      exact .mk' hpe rfl
  | .isE a u, L, W, X, C, x, h => by
    cases x <;> first | cases h | skip
    rename_i fn xs kws pos
    cases fn <;> first | cases h | skip
    rename_i y p
    match xs, kws, h with
    | [z, .Name w _], [], h =>
      simp only [chk, Bool.and_eq_true, decide_eq_true_eq] at h
      obtain ⟨rfl, hg, rfl, hg2, hs, ha, hx⟩ := h
      exact .mk' (isE_ok C hs (glB_ok C hg).1 (glB_ok C hg2) (chk_ok a C ha).pe hx) rfl
  | .bad, L, W, X, C, x, h => by
    exact ⟨PE.no fun σ H Q ⟨b, env, hd, G, m, ρ, F, R, p⟩ => p, PT.no fun σ H Q ⟨b, env, hd, G, m, ρ, F, R, p⟩ => p, fun _ _ _ e => ⟨fun wh pins s σ H Q _ ⟨b, env, hd, G, m, ρ, F, R, p⟩ => p.elim⟩, fun tg => PI.no fun σ H Q ⟨b, env, hd, G, m, ρ, F, R, p⟩ => p⟩
theorem chkL_ok : ∀ (e : E ι) {L : Look ι} {W : WX} {X : Cx} (C : Ctx rx L call k W X) {xs : List Expr}, chkL e L xs = true → PA X xs (SA (kx X) rx W (sem call e).l)
  | .nil, L, W, X, C, xs, h => by
    cases xs with
    | nil => exact pa_nil'
    | cons => cases h
  | .cons a b, L, W, X, C, xs, h => by
    cases xs with
    | nil => cases h
    | cons y ys =>
      simp only [chkL, Bool.and_eq_true] at h
      exact pa_cons' (chk_ok a C h.2.1).pe (chkL_ok b C h.2.2) h.1
  | .lit _, _, _, _, _, _, h | .var _, _, _, _, _, _, h | .tup _, _, _, _, _, _, h | .lst _, _, _, _, _, _, h | .new _, _, _, _, _, _, h | .bin _ _ _, _, _, _, _, _, h | .neg _, _, _, _, _, _, h | .cmp _ _ _, _, _, _, _, _, h | .and _ _, _, _, _, _, _, h | .or _ _, _, _, _, _, _, h | .not _, _, _, _, _, _, h | .ite _ _ _, _, _, _, _, _, h | .call _ _, _, _, _, _, _, h
  | .bi _ _, _, _, _, _, _, h | .isi _ _, _, _, _, _, _, h | .idx _ _, _, _, _, _, _, h | .app _ _, _, _, _, _, _, h | .rng1 _, _, _, _, _, _, h | .rng2 _ _, _, _, _, _, _, h | .chain _ _ _ _ _, _, _, _, _, _, h | .sl _ _ _, _, _, _, _, _, h | .glob _ _, _, _, _, _, _, h | .dlit _ _, _, _, _, _, _, h | .lc _ _ _ _ _ _, _, _, _, _, _, h | .isE _ _, _, _, _, _, _, h | .bad, _, _, _, _, _, h => by simp [chkL] at h
end
end
end Fw

set_option Elab.async false
set_option linter.all false
set_option maxRecDepth 100000
set_option maxHeartbeats 2000000
set_option autoImplicit false
/-! ## Fw9: targets and statements looked at; a whole program -/
namespace Fw
open PySem PySem.Spec PyProof.Rows L2

/-- stored as written, one after the other -/
def plainAsg (sc : Scope) (tg e : Expr) : Bool := noComp e && (!(tupE tg) || !(tupE e) || (match tg, e with
  | .Tuple ts _ _, .Tuple vs _ _ => decide (ts.length ≠ vs.length) || (decide (ts.length ≠ 2) && decide (ts.length ≠ 3)) || vs.all (foldedForSure 8) || ts.any fun t => match t with
    | .Name y _ => decide (sc.names.lookup y ≠ some .local)
    | _ => true
  | _, _ => false))
section
variable {ι : Type} (L : Look ι)
mutual
def chkT : T ι → Expr → Bool
  | .name i, x => (match x with
    | .Name y _ => decide (L.N[i]? = some y) && locB L.sc L.bc y
    | _ => false)
  | .tup n ts, x => (match x with
    | .Tuple xs _ _ => !L.hot && (decide (xs.length = n) && chkTs ts xs)
    | _ => false)
  | .sub o i, x => (match x with
    | .Subscript y z _ => plainIx z && (chk o L y && chk i L z)
    | _ => false)
  | _, _ => false
def chkTs : T ι → List Expr → Bool
  | .nil, xs => (match xs with
    | [] => true
    | _ => false)
  | .cons a b, xs => (match xs with
    | y :: ys => notStar y && (chkT a y && chkTs b ys)
    | _ => false)
  | _, _ => false
end
/-- a comprehension on one line with a plain name -/
def swB (y : Str) (py : Pos) : Expr → Bool
  | .ListComp _ _ scope pos => (py.line == pos.line) && !(scope.names.any fun (n, k) => n == y && (k == .local || k == .cell))
  | _ => false
def isLc : E ι → Bool
  | .lc _ _ _ _ _ _ => true
  | _ => false
/-- a, b = x, y with plain local names -/
def parB (i j : Nat) (tg e : Expr) : Bool := match tg, e with
  | .Tuple [.Name y py, .Name z pz] _ _, .Tuple [a, b] _ _ => decide (L.N[i]? = some y) && (decide (L.N[j]? = some z) && (decide (y ≠ z) && (decide (L.sc.names.lookup y = some .local) && (decide (L.sc.names.lookup z = some .local) && (pz.line == py.line &&
      (notStar a && (notStar b && (!(foldedForSure 8 a && foldedForSure 8 b) && !(constantsAlone 8 a && constantsAlone 8 b)))))))))
  | _, _ => false
end
section
variable {ι : Type}
mutual
def chkS : S ι → Look ι → Stmt → Bool
  | .pass, L, x => (match x with
    | .Pass _ => true
    | _ => false)
  | .asg t e, L, x => (match x with
    | .Assign [y] z _ => notStar y && (plainAsg L.sc y z && (chkT L t y && chk e L z))
    | _ => false)
  | .par i j es, L, x => (match x with
    | .Assign [y] (.Tuple zs k p) _ => !L.hot && (parB L i j y (.Tuple zs k p) && chkL es L zs)
    | _ => false)
  | .exp e, L, x => (match x with
    | .Expr z _ => noComp z && chk e L z
    | _ => false)
  | .ret e, L, x => (match x with
    | .Return (some z) _ => chk e L z
    | _ => false)
  | .retN, L, x => (match x with
    | .Return none _ => true
    | _ => false)
  | .ifs c a b, L, x => (match x with
    | .If y zs ws _ => chk c L y && (chkB a L zs && chkB b L ws)
    | _ => false)
  | .whl c b, L, x => (match x with
    | .While y zs [] _ => !L.hot && (chk c L y && chkB b L zs)
    | _ => false)
  | .for_ t e b, L, x => (match x with
    | .For y z ws [] _ => !L.hot && (!(setE z) && (chkT L t y && (chk e L z && chkB b L ws)))
    | _ => false)
  | .setLc i e, L, x => (match x with
    | .Assign [.Name y py] z spos => !L.hot && (decide (L.N[i]? = some y) && (decide (L.sc.names.lookup y = some .local) && (swB y py z && (isLc e && chk e L z))))
    | _ => false)
  | .raise u sups, L, x => (match x with
    | .Raise (some (.Call (.Name y _) [.Constant (.str _) _ _] [] _)) none _ => !L.hot && (decide (y = u) && (decide ((u, sups) ∈ L.cl) && glB L.sc y))
    | _ => false)
  | .tryE u i a b, L, x => (match x with
    | .Try body [.ExceptHandler (some (.Name y _)) (some n) (b₀ :: suite) _] [] [] _ => !L.hot && (L.bc.isNone && (decide (y = u) && ((L.cl.any fun p => decide (p.1 = u)) && (glB L.sc y && (decide (L.N[i]? = some n) && (decide (L.sc.names.lookup n = some .local) && (chkB a L body && chkB b { L with hot := true } (b₀ :: suite))))))))
    | _ => false)
  | .bad, _, _ => true
  | _, _, _ => false
def chkB : S ι → Look ι → List Stmt → Bool
  | .nil, L, xs => (match xs with
    | [] => true
    | _ => false)
  | .cons a b, L, xs => (match xs with
    | y :: ys => chkS a L y && chkB b L ys
    | _ => false)
  | _, _, _ => false
end
end

section
variable {ι : Type} {rx : PySem.W.Frag → Exc → Value → Option Addr → Hp → Prop} {L : Look ι} {call : ι → List D → MH → Res D} {k : Nat} {W : WX} {X : Cx}
theorem set_rep {K : KX} {b : Bs} {env : Env} {hd : List (D × V)} {G : Hp} {m : MH} {ρ : Ro} {F : Hp} {σ : L2.St} {H : Hp} {x y d : D} {v u w : V} {Q : Hp → Prop} {ex : Exc → MH → Prop} (R : RS K b env hd G m ρ F σ H) (hx : Rep K F ρ m x v) (hy : Rep K F ρ m y u) (hw : Rep K F ρ m d w)
    (p : Post (setAt x y d m) (fun _ m' => ∀ ρ' F' H', RS K b env hd G m' ρ' F' σ H' → Q H') ex) : rSetL v u w H Q := by
  unfold setAt at p
  cases x with
  | ref l a =>
    cases y with
    | int kk =>
      cases g : get m l a with
      | none => simp only [g] at p; exact p.elim
      | some o =>
        cases o with
        | lst xs =>
          simp only [g] at p
          cases hpl : place xs.length kk with
          | none => simp only [hpl] at p; exact p.elim
          | some n =>
            simp only [hpl] at p
            split at p
            · rename_i hb
              obtain ⟨rfl, hl⟩ := hx.ref_of
              obtain ⟨_, vs, hv, z, rr⟩ := R.rl.ob l a _ g
              refine ⟨ρ l a, vs, kk, n, rfl, hy.int_of, hv, by rw [← rr.length]; exact hpl, ?_⟩
              refine p ρ F _ (R.put g (by simpa using z) ?_ (RepL.set hw n rr))
              have hwf : bdL (l + 1) xs = true := R.rl.wf l a _ g
              clear p hpl rr hv g z hx hy hw
              induction xs generalizing n with
              | nil => simp [bdL]
              | cons q qs ih =>
                simp only [bdL, Bool.and_eq_true] at hwf
                cases n with
                | zero => simp only [List.set_cons_zero, bdL, Bool.and_eq_true]; exact ⟨hb, hwf.2⟩
                | succ n => simp only [List.set_cons_succ, bdL, Bool.and_eq_true]; exact ⟨hwf.1, ih n hwf.2⟩
            · exact p.elim
    | _ => exact p.elim
  | _ => cases y <;> exact p.elim
theorem pg_sub' {o i : Expr} {fo fi : Env → MH → Res D} {pos : Pos} (h1 : PE X o (SE (kx X) rx W fo)) (h2 : PE X i (SE (kx X) rx W fi)) (hp : plainIx i = true) : PG X (.Subscript o i pos) (SG (kx X) rx W fun d v m => (fo v m).bind fun x m => (fi v m).bind fun y m => (setAt x y d m).bind fun _ m => .ok v m) :=
  PG.weak (pg_sub h1 h2 set_list (by intro _; cases i <;> first | rfl | cases hp)) fun v σ H Q ⟨b, env, hd, G, m, ρ, F, d, R, p⟩ => by
    refine ⟨b, env, (d, v) :: hd, G, m, ρ, F, R, p.bind.imp (fun x m1 p1 ρ1 F1 H1 vx R1 => ?_) fun _ _ z ρ' F' H' c dd R' => z ρ' F' σ H' c dd env (R'.held fun _ => List.mem_cons_of_mem _)⟩
    refine ⟨b, env, (x, vx) :: (d, v) :: hd, G, m1, ρ1, F1, R1, p1.bind.imp (fun y m2 p2 ρ2 F2 H2 vy R2 => ?_) fun _ _ z ρ' F' H' c dd R' => z ρ' F' σ H' c dd env (R'.held fun _ z => List.mem_cons_of_mem _ (List.mem_cons_of_mem _ z))⟩
    have R3 := R2.held (hd' := hd) fun _ z => List.mem_cons_of_mem _ (List.mem_cons_of_mem _ (List.mem_cons_of_mem _ z))
    have hx : Rep (kx X) F2 ρ2 m2 x vx := R2.hd (x, vx) (by simp)
    have hw : Rep (kx X) F2 ρ2 m2 d v := R2.hd (d, v) (by simp)
    exact set_rep R3 hx R2.top hw (p2.bind.imp (fun _ m' q ρ' F' H' R' => q ρ' F' σ H' R') fun _ _ z => z)
mutual
theorem chkT_ok (C : Ctx rx L call k W X) : ∀ (t : T ι) {x : Expr}, chkT L t x = true → PG X x (SG (kx X) rx W (tgt call t).g)
  | .name i, x, h => by
    cases x <;> first | cases h | skip
    simp only [chkT, Bool.and_eq_true, decide_eq_true_eq] at h
    obtain ⟨h1, h2⟩ := h
    obtain ⟨l1, l2⟩ := locB_ok C h2
    exact pg_name' (by rw [C.hN]; exact C.nd) (by rw [C.hN]; exact h1) l1 l2
  | .tup n ts, x, h => by
    cases x <;> first | cases h | skip
    simp only [chkT, Bool.and_eq_true, decide_eq_true_eq, Bool.not_eq_true'] at h
    exact pg_tup' (C.calm h.1) (chkTs_ok C ts h.2.2).1 h.2.1 (chkTs_ok C ts h.2.2).2
  | .sub o i, x, h => by
    cases x <;> first | cases h | skip
    simp only [chkT, Bool.and_eq_true, decide_eq_true_eq] at h
    exact pg_sub' (chk_ok o C h.2.1).pe (chk_ok i C h.2.2).pe h.1
  | .nil, x, h => by cases h
  | .cons _ _, x, h => by cases h
theorem chkTs_ok (C : Ctx rx L call k W X) : ∀ (t : T ι) {xs : List Expr}, chkTs L t xs = true → PGs X xs (SGs (kx X) rx W (tgt call t).gs) ∧ xs.all notStar = true
  | .nil, xs, h => by
    cases xs with
    | nil => exact ⟨pgs_nil', rfl⟩
    | cons => cases h
  | .cons a b, xs, h => by
    cases xs with
    | nil => cases h
    | cons y ys =>
      simp only [chkTs, Bool.and_eq_true] at h
      obtain ⟨i1, i2⟩ := chkTs_ok C b h.2.2
      exact ⟨pgs_cons' (chkT_ok C a h.2.1) i1 h.1, by simp only [List.all_cons, Bool.and_eq_true]; exact ⟨h.1, i2⟩⟩
  | .name _, xs, h => by cases h
  | .tup _ _, xs, h => by cases h
  | .sub _ _, xs, h => by cases h
end

theorem filter_short {sc : Scope} {env : PySem.Env} (hs : env.scope = sc) (line : Nat) : ∀ ts : List Expr, (ts.any fun t => match t with
    | .Name y _ => decide (sc.names.lookup y ≠ some .local)
    | _ => true) = true → (ts.filterMap fun
    | .Name id pos => if env.kindOf id == some .local && pos.line == line then some id else none
    | _ => none).length ≠ ts.length := by
  intro ts h
  have le : ∀ (f : Expr → Option Str) (l : List Expr), (l.filterMap f).length ≤ l.length := fun f l => List.length_filterMap_le f l
  induction ts with
  | nil => simp at h
  | cons t ts ih =>
    rw [List.filterMap_cons]
    simp only [List.any_cons, Bool.or_eq_true] at h
    split
    · have := le (fun
        | .Name id pos => if env.kindOf id == some .local && pos.line == line then some id else none
        | _ => none) ts
      simp only [List.length_cons]
      omega
    · rename_i y hy
      rcases h with h | h
      · exfalso
        cases t with
        | Name id pos =>
          simp only at hy h
          split at hy
          · rename_i hc
            simp only [Bool.and_eq_true, beq_iff_eq] at hc
            have h1 : sc.names.lookup id = some .local := by rw [← hs]; exact hc.1
            exact of_decide_eq_true h h1
          · cases hy
        | _ => cases hy
      · have := ih h
        simp only [List.length_cons]
        omega
theorem plain_ok {sc : Scope} {env : PySem.Env} {tg e : Expr} {l : Nat} (hs : env.scope = sc) (h : plainAsg sc tg e = true) : swapsWithSole [tg] e l env = pure false ∧ swappedStores [tg] e env = pure none := by
  unfold plainAsg at h
  simp only [Bool.and_eq_true] at h
  obtain ⟨h0, h1⟩ := h
  refine ⟨swaps_ok h0, ?_⟩
  unfold swappedStores
  cases tg with
  | Tuple ts k p =>
    cases e with
    | Tuple vs k2 p2 =>
      simp only [tupE, Bool.not_true, Bool.false_or, Bool.or_eq_true, decide_eq_true_eq, Bool.and_eq_true] at h1
      simp only
      split
      · rfl
      · rename_i hl
        simp only [Bool.or_eq_true, Bool.not_eq_true', Bool.or_eq_false_iff, beq_eq_false_iff_ne, bne_iff_ne, not_or, ne_eq, Decidable.not_not] at hl
        split
        · rfl
        · split
          · rfl
          · rename_i hn
            split
            · rfl
            · rename_i hf
              exfalso
              rcases h1 with ((h1 | h1) | h1) | h1
              · exact h1 hl.1.2.symm
              · obtain ⟨⟨g1, g2⟩, g3⟩ := hl
                exact g1 ⟨h1.1, h1.2⟩
              · exact hf h1
              · simp only [Bool.or_eq_true, bne_iff_ne, not_or, ne_eq, Decidable.not_not] at hn
                exact filter_short hs _ ts h1 hn.1
    | _ => rfl
  | List ts p =>
    cases e with
    | Tuple vs k2 p2 => simp [tupE] at h1
    | _ => rfl
  | _ => cases e <;> rfl

theorem par_ok {env : PySem.Env} {i j : Nat} {tg e : Expr} (hs : env.scope = L.sc) (hk : env.scope.kind = .function) (h : parB L i j tg e = true) : ∃ y z py pz k1 p1 a b k2 p2, tg = .Tuple [.Name y py, .Name z pz] k1 p1 ∧ e = .Tuple [a, b] k2 p2 ∧ L.N[i]? = some y ∧ L.N[j]? = some z ∧ y ≠ z ∧
    L.sc.names.lookup y = some .local ∧ L.sc.names.lookup z = some .local ∧ notStar a = true ∧ notStar b = true ∧ swappedStores [tg] e env = pure (some [y, z]) := by
  unfold parB at h
  split at h
  · rename_i y py z pz k1 p1 a b k2 p2
    simp only [Bool.and_eq_true, decide_eq_true_eq, Bool.not_eq_true', beq_iff_eq] at h
    obtain ⟨h1, h2, h3, h4, h5, h6, h7, h8, h9, h10⟩ := h
    refine ⟨y, z, py, pz, k1, p1, a, b, k2, p2, rfl, rfl, h1, h2, h3, h4, h5, h7, h8, ?_⟩
    have ky : env.kindOf y = some .local := by show env.scope.names.lookup y = _; rw [hs]; exact h4
    have kz : env.kindOf z = some .local := by show env.scope.names.lookup z = _; rw [hs]; exact h5
    have hb : env.blockKind = .function := by unfold PySem.Env.blockKind; rw [hk]; rfl
    have hyz : (z == y) = false := by rw [beq_eq_false_iff_ne]; exact fun e => h3 e.symm
    have hyz' : (y == z) = false := by rw [beq_eq_false_iff_ne]; exact h3
    unfold swappedStores
    simp only [List.length_cons, List.length_nil, List.any_cons, List.any_nil, hb, ky, kz, Expr.pos, List.head?_cons, Option.map_some, Option.getD_some, List.filterMap_cons, List.filterMap_nil, List.all_cons, List.all_nil, Bool.and_true, h6, h9, h10]
    simp [List.eraseDups_cons, hyz, hyz', h6, h3, Ne.symm h3]
    intro q
    exfalso
    rcases q with q | q
    · cases a with
      | Starred => cases h7
      | _ => cases q
    · cases b with
      | Starred => cases h8
      | _ => cases q
  · cases h
/-- a try's body's context -/
theorem Ctx.tr (C : Ctx rx L call k W X) (hh : L.hot = false) (hbc : L.bc = none) {W' : WX} {pn : List (Addr × Obj)} {xe : Value → Shared → Prop} (tk : Takes (X.tr pn xe) W') : Ctx rx L call k W' (X.tr pn xe) :=
  { hN := C.hN, hs := C.hs, nd := C.nd, calm := C.calm, fn := C.fn, room := C.room, units := C.units, gd := C.gd, pass := fun _ => passAt tk, calls := C.calls, free := C.free, glb := C.glb, tk := fun _ => tk, top := fun h1 h2 => C.top h1 h2, cl := C.cl, rxd := C.rxd, exf := C.exf }
/-- an except suite's context -/
theorem Ctx.suite (C : Ctx rx L call k W X) (a : Addr) (pn : List (Addr × Obj)) : Ctx rx { L with hot := true } call k W0 (X.suite a pn) :=
  { hN := C.hN, hs := C.hs, nd := C.nd, calm := fun h => (by cases h), fn := C.fn, room := fun h => (by cases h), units := C.units, gd := C.gd, pass := fun h => (by cases h), calls := C.calls, free := C.free, glb := C.glb, tk := fun h => (by cases h), top := fun h => (by cases h), cl := C.cl, rxd := C.rxd, exf := C.exf }
theorem setLc_ok (C : Ctx rx L call k W X) (hh : L.hot = false) (hk : X.env.scope.kind = .function) {i : Nat} {y : Str} {py pos pos2 : Pos} {mu : Bool} {own : List (Str × Nat)} {t : Pt} {it c e : E ι} {elt : Expr} {gs : List Comprehension} {scope : Scope} (h1 : L.N[i]? = some y) (h2 : L.sc.names.lookup y = some .local)
    (h3 : (py.line == pos2.line) = true) (h4 : (scope.names.any fun (n, k) => n == y && (k == .local || k == .cell)) = false)
    (it_ok : ∀ {L : Look ι} {W : WX} {X : Cx} (C : Ctx rx L call k W X) {x : Expr}, chk it L x = true → SimE X rx W (sem call it) x) (c_ok : ∀ {L : Look ι} {W : WX} {X : Cx} (C : Ctx rx L call k W X) {x : Expr}, chk c L x = true → SimE X rx W (sem call c) x) (e_ok : ∀ {L : Look ι} {W : WX} {X : Cx} (C : Ctx rx L call k W X) {x : Expr}, chk e L x = true → SimE X rx W (sem call e) x)
    (h : chk (.lc mu own t it c e) L (.ListComp elt gs scope pos2) = true) : PS X (.Assign [.Name y py] (.ListComp elt gs scope pos2) pos) (SS (kx X) rx W (exec call (.setLc i (.lc mu own t it c e)))) := by
  match gs, h with
  | [⟨tg, iter, ifs, 0⟩], h =>
    simp only [chk, Bool.and_eq_true, Bool.not_eq_true'] at h
    obtain ⟨_, b1, b2, b3, b4, b5, b6⟩ := h
    have hc := C.calm hh
    have hB : ∀ (s : Shared) (H : Hp) (Cc : Addr) (cl : List (Str × Addr)) (fp : List Addr), Ctx rx { L with sc := relS scope L.sc, bc := some scope } call k W0 (X.blk s H scope (compEnvC scope cl Cc X.env) fp) := fun s H Cc cl fp => C.blk hh scope s H Cc cl fp
    have hkk : ∀ (s : Shared) (H : Hp) (Cc : Addr) (cl : List (Str × Addr)) (fp : List Addr), kx (X.blk s H scope (compEnvC scope cl Cc X.env) fp) = k0 X.K := fun s H Cc cl fp => kx_calm (X := X.blk s H scope (compEnvC scope cl Cc X.env) fp) hc
    have hpi := (it_ok C b3).pi tg
    have hset : ∀ x, foldedSetIterable iter X.env x = pure x := by intro x; cases iter <;> first | rfl | cases b2
    rw [kx_calm hc] at hpi ⊢
    exact ps_setLc' (mu := mu) hc (by rw [C.hN]; exact C.nd) (by rw [C.hN]; exact h1) (by rw [C.hs]; exact h2) (sw_true hk (by rw [C.hs]; exact h2) h3 h4) hpi (by rw [C.hN, C.hs]; exact blkOk_by b1) (fun s H Cc cl fp => by
          have := chkP_ok (hB s H Cc cl fp) hh t b4
          rw [hkk] at this
          exact this) (fun s H Cc cl fp => by
          have := ifs_ok (fun y q => (c_ok (hB s H Cc cl fp) q).pt) b5
          rw [hkk] at this
          exact this) (fun s H Cc cl fp => by
          have := (e_ok (hB s H Cc cl fp) b6).pe
          rw [hkk] at this
          exact this) hset
mutual
theorem chkS_ok : ∀ (a : S ι) {L : Look ι} {W : WX} {X : Cx} (C : Ctx rx L call k W X) (hk : X.env.scope.kind = .function) (hp : PassesOwn (model X.prog X.w) X.A X.env X.xe) {x : Stmt}, chkS a L x = true → PS X x (SS (kx X) rx W (exec call a))
  | .pass, L, W, X, C, hk, hp, x, h => by
    cases x <;> first | exact ps_pass' | cases h
  | .asg t e, L, W, X, C, hk, hp, x, h => by
    cases x <;> first | cases h | skip
    rename_i ts z pos
    match ts, h with
    | [y], h =>
      simp only [chkS, Bool.and_eq_true] at h
      obtain ⟨h0, h1, h2, h3⟩ := h
      obtain ⟨q1, q2⟩ := plain_ok (l := pos.line) C.hs h1
      exact ps_asg' (chk_ok e C h3).pe (chkT_ok C t h2) q1 q2 h0
  | .par i j es, L, W, X, C, hk, hp, x, h => by
    cases x <;> first | cases h | skip
    rename_i ts z pos
    match ts, z, h with
    | [y], .Tuple zs k' p, h =>
      simp only [chkS, Bool.and_eq_true, Bool.not_eq_true'] at h
      obtain ⟨hh, h1, h2⟩ := h
      obtain ⟨y1, z1, py, pz, k1, p1, a, b, k2, p2, rfl, e2, n1, n2, n3, n4, n5, n6, n7, n8⟩ := par_ok C.hs hk h1
      cases e2
      have hij : i ≠ j := fun e => by subst e; rw [n1] at n2; cases n2; exact n3 rfl
      exact ps_par' (C.calm hh) (by rw [C.hN]; exact C.nd) (by rw [C.hN]; exact n1) (by rw [C.hN]; exact n2) hij (by rw [C.hs]; exact n4) (by rw [C.hs]; exact n5) (chkL_ok es C h2) n8
  | .exp e, L, W, X, C, hk, hp, x, h => by
    cases x <;> first | cases h | skip
    simp only [chkS, Bool.and_eq_true] at h
    exact ps_exp' (chk_ok e C h.2).pe h.1
  | .ret e, L, W, X, C, hk, hp, x, h => by
    cases x <;> first | cases h | skip
    rename_i z pos
    cases z with
    | none => cases h
    | some z => exact ps_ret' (chk_ok e C h).pe
  | .retN, L, W, X, C, hk, hp, x, h => by
    cases x <;> first | cases h | skip
    rename_i z pos
    cases z with
    | none => exact ps_retN'
    | some z => cases h
  | .ifs c a b, L, W, X, C, hk, hp, x, h => by
    cases x <;> first | cases h | skip
    simp only [chkS, Bool.and_eq_true] at h
    exact ps_ifs' (chk_ok c C h.1).pt (chkB_ok a C hk hp h.2.1) (chkB_ok b C hk hp h.2.2)
  | .whl c b, L, W, X, C, hk, hp, x, h => by
    cases x <;> first | cases h | skip
    rename_i y zs ws pos
    cases ws with
    | cons => cases h
    | nil =>
      simp only [chkS, Bool.and_eq_true] at h
      exact ps_whl' hp (chk_ok c C h.2.1).pt (chkB_ok b C hk hp h.2.2)
  | .for_ t e b, L, W, X, C, hk, hp, x, h => by
    cases x <;> first | cases h | skip
    rename_i y z ws vs pos
    cases vs with
    | cons => cases h
    | nil =>
      simp only [chkS, Bool.and_eq_true, Bool.not_eq_true'] at h
      obtain ⟨hh, h0, h1, h2, h3⟩ := h
      exact ps_for' hp (C.calm hh) ((chk_ok e C h2).pi _) (chkT_ok C t h1) (chkB_ok b C hk hp h3) (by intro x; cases z <;> first | rfl | cases h0)
  | .nil, L, W, X, C, hk, hp, x, h => by cases h
  | .cons _ _, L, W, X, C, hk, hp, x, h => by cases h
  | .setLc i e, L, W, X, C, hk, hp, x, h => by
    cases x <;> first | cases h | skip
    rename_i ts z pos
    match ts, h with
    | [.Name y py], h =>
      simp only [chkS, Bool.and_eq_true, decide_eq_true_eq, Bool.not_eq_true'] at h
      obtain ⟨hh, h1, h2, h3, h4, h5⟩ := h
      cases e <;> first | cases h4 | skip
      rename_i mu own t it c e
      cases z <;> first | cases h3 | skip
      rename_i elt gs scope pos2
      simp only [swB, Bool.and_eq_true, Bool.not_eq_true'] at h3
      exact setLc_ok C hh hk h1 h2 h3.1 h3.2 (fun {L} {W} {X} C {x} => chk_ok it C) (fun {L} {W} {X} C {x} => chk_ok c C) (fun {L} {W} {X} C {x} => chk_ok e C) h5
  | .raise u sups, L, W, X, C, hk, hp, x, h => by
    unfold chkS at h
    split at h
    · simp only [Bool.and_eq_true, decide_eq_true_eq, Bool.not_eq_true'] at h
      obtain ⟨hh, rfl, hm, hg⟩ := h
      obtain ⟨g1, g2⟩ := glB_ok C hg
      rw [C.rxd]
      exact ps_raise' (C.calm hh) (C.tk hh) hm (C.exf _ hm) g1 g2
    · cases h
  | .tryE u i a b, L, W, X, C, hk, hp, x, h => by
    unfold chkS at h
    split at h
    · simp only [Bool.and_eq_true, decide_eq_true_eq, Bool.not_eq_true', Option.isNone_iff_eq_none] at h
      obtain ⟨hh, hbc, rfl, hx, hg, h1, h2, h3, h4⟩ := h
      obtain ⟨g1, g2⟩ := glB_ok C hg
      obtain ⟨t1, t2⟩ := C.top hh hbc
      obtain ⟨q, hq, hqe⟩ := List.any_eq_true.mp hx
      have hr := C.rxd
      rw [hr]
      exact ps_try' C.cl (C.calm hh) t1 t2 (by rw [C.hN]; exact C.nd) (by rw [C.hN]; exact h1) (by show X.env.scope.names.lookup _ = _; rw [C.hs]; exact h2) g1 g2 (List.mem_map.mpr ⟨q, hq, of_decide_eq_true hqe⟩) C.exf (C.tk hh)
        (fun W' pn xe tk hp' => by
          have C' := C.tr hh hbc tk
          have q := chkB_ok a C' hk hp' h3
          rw [hr] at q
          exact q) (fun aa oe pn => by
          have C' := C.suite aa ((aa, oe) :: pn)
          have q := chkB_ok b C' hk PassesOwn.never h4
          rw [hr] at q
          exact q)
    · cases h
  | .bad, L, W, X, C, hk, hp, x, h => ⟨fun _ _ σ H En _ ⟨b, env, hd, G, m, ρ, F, R, p⟩ => p.elim⟩
theorem chkB_ok : ∀ (a : S ι) {L : Look ι} {W : WX} {X : Cx} (C : Ctx rx L call k W X) (hk : X.env.scope.kind = .function) (hp : PassesOwn (model X.prog X.w) X.A X.env X.xe) {xs : List Stmt}, chkB a L xs = true → PSs X xs (SS (kx X) rx W (exec call a))
  | .nil, L, W, X, C, hk, hp, xs, h => by
    cases xs with
    | nil => exact pss_nil'
    | cons => cases h
  | .cons a b, L, W, X, C, hk, hp, xs, h => by
    cases xs with
    | nil => cases h
    | cons y ys =>
      simp only [chkB, Bool.and_eq_true] at h
      exact pss_cons' (chkS_ok a C hk hp h.1) (chkB_ok b C hk hp h.2)
  | .pass, _, _, _, _, _, _, _, h | .asg _ _, _, _, _, _, _, _, _, h | .par _ _ _, _, _, _, _, _, _, _, h | .exp _, _, _, _, _, _, _, _, h | .ret _, _, _, _, _, _, _, _, h | .retN, _, _, _, _, _, _, _, h | .ifs _ _ _, _, _, _, _, _, _, _, h | .whl _ _, _, _, _, _, _, _, _, h | .for_ _ _ _, _, _, _, _, _, _, _, h
  | .setLc _ _, _, _, _, _, _, _, _, h | .raise _ _, _, _, _, _, _, _, _, h | .tryE _ _ _ _, _, _, _, _, _, _, _, h | .bad, _, _, _, _, _, _, _, h => by cases h
end
end
end Fw

set_option Elab.async false
set_option linter.all false
set_option maxRecDepth 100000
set_option maxHeartbeats 2000000
set_option autoImplicit false
/-! ## Fw10: a whole program does what run says; a law's end -/
namespace Fw
open PySem PySem.Spec PyProof.Rows L2

/-! ### leaving a frame -/
theorem D.bd_le {n k : Nat} (h : n ≤ k) : (∀ d : D, d.bd n = true → d.bd k = true) := by
  have both : (∀ d : D, d.bd n = true → d.bd k = true) ∧ True := ⟨fun d => D.rec (motive_1 := fun d => d.bd n = true → d.bd k = true) (motive_2 := fun ds => bdL n ds = true → bdL k ds = true)
    (by intros; rfl) (by intros; rfl) (by intros; rfl) (by intros; rfl) (fun xs ih q => by unfold D.bd at q ⊢; exact ih q) (fun xs ih q => by unfold D.bd at q ⊢; exact ih q)
    (fun l i q => by unfold D.bd at q ⊢; simp only [decide_eq_true_eq] at q ⊢; omega) (fun ks xs ih q => by unfold D.bd at q ⊢; exact ih q) (fun xs ih q => by unfold D.bd at q ⊢; exact ih q) (fun x q => by unfold D.bd at q; cases q) (by intros; rfl)
    (fun x xs h1 h2 q => by unfold bdL at q ⊢; simp only [Bool.and_eq_true] at q ⊢; exact ⟨h1 q.1, h2 q.2⟩) d, trivial⟩
  exact both.1
theorem bdL_le {n k : Nat} (h : n ≤ k) : ∀ ds : List D, bdL n ds = true → bdL k ds = true
  | [], _ => rfl
  | x :: xs, q => by
    unfold bdL at q ⊢
    simp only [Bool.and_eq_true] at q ⊢
    exact ⟨D.bd_le h x q.1, bdL_le h xs q.2⟩
theorem MO.bd_le {n k : Nat} (h : n ≤ k) (o : MO) (q : o.bd n = true) : o.bd k = true := by
  cases o with
  | lst xs => exact bdL_le h xs q
section
variable {K : KX} {F H : Hp} {ρ ρ' : Ro} {m m' : MH}
mutual
/-- a value that names no place from level n on -/
theorem Rep.below {n : Nat} (x : ∀ l i, l < n → Lv m l i → ρ' l i = ρ l i ∧ Lv m' l i) : ∀ {d : D} {v : V}, d.bd n = true → Rep K F ρ m d v → Rep K F ρ' m' d v
  | .non, _, _, h => h
  | .bl _, _, _, h => h
  | .int _, _, _, h => h
  | .str _, _, _, h => h
  | .tup xs, v, b, h => by
    unfold Rep at h ⊢
    unfold D.bd at b
    obtain ⟨a, vs, e, q, z, r⟩ := h
    exact ⟨a, vs, e, q, z, RepL.below x b r⟩
  | .lst xs, v, b, h => by
    unfold Rep at h ⊢
    unfold D.bd at b
    obtain ⟨a, vs, e, q, z, r⟩ := h
    exact ⟨a, vs, e, q, z, RepL.below x b r⟩
  | .ref l i, v, b, h => by
    unfold Rep at h ⊢
    unfold D.bd at b
    obtain ⟨e, q⟩ := h
    obtain ⟨e2, q2⟩ := x l i (of_decide_eq_true b) q
    exact ⟨by rw [e, e2], q2⟩
  | .dct ks xs, v, b, h => by
    unfold Rep at h ⊢
    unfold D.bd at b
    obtain ⟨a, vs, e, q, z, r⟩ := h
    exact ⟨a, vs, e, q, z, RepL.below x b r⟩
  | .scr xs, v, b, h => by
    unfold Rep at h ⊢
    unfold D.bd at b
    obtain ⟨a, vs, e, q, z, r⟩ := h
    exact ⟨a, vs, e, q, z, RepL.below x b r⟩
  | .exc _, v, b, h => by
    unfold D.bd at b
    cases b
theorem RepL.below {n : Nat} (x : ∀ l i, l < n → Lv m l i → ρ' l i = ρ l i ∧ Lv m' l i) : ∀ {ds : List D} {vs : List V}, bdL n ds = true → RepL K F ρ m ds vs → RepL K F ρ' m' ds vs
  | [], _, _, h => h
  | d :: ds, vs, b, h => by
    unfold RepL at h ⊢
    unfold bdL at b
    simp only [Bool.and_eq_true] at b
    obtain ⟨v, r, e, h1, h2⟩ := h
    exact ⟨v, r, e, Rep.below x b.1 h1, RepL.below x b.2 h2⟩
end
theorem ObR.below {n : Nat} (x : ∀ l i, l < n → Lv m l i → ρ' l i = ρ l i ∧ Lv m' l i) {o : MO} {h : Option HO} (b : o.bd n = true) (q : ObR K F ρ m o h) : ObR K F ρ' m' o h := by
  cases o with
  | lst xs =>
    obtain ⟨vs, e, z, r⟩ := q
    exact ⟨vs, e, z, r.below x b⟩
theorem lv_pop {fr : List MO} {r : MH} {l i : Nat} (h : l < r.length) : Lv (fr :: r) l i ↔ Lv r l i := by
  unfold Lv
  rw [get_cons, if_neg (by omega)]
theorem get_pop {fr : List MO} {r : MH} {l i : Nat} {o : MO} (h : get r l i = some o) : get (fr :: r) l i = some o := by
  have := get_lt h
  unfold get
  rw [if_neg (by omega)]
  exact h
theorem Rl.pop {fr : List MO} {r : MH} (R : Rl K F ρ (fr :: r) H) : Rl K F ρ r H := by
  refine ⟨R.fh, fun l i o e => ?_, fun l i l' i' h h' => R.inj l i l' i' ?_ ?_, fun l i o e => R.wf l i o (get_pop e)⟩
  · obtain ⟨h1, h2⟩ := R.ob l i o (get_pop e)
    exact ⟨h1, h2.below (n := l + 1) (fun l' i' hl hv => ⟨rfl, (lv_pop (by have := get_lt e; omega)).mp hv⟩) (R.wf l i o (get_pop e))⟩
  · obtain ⟨o, e⟩ := Option.isSome_iff_exists.mp h
    unfold Lv; rw [get_pop e]; rfl
  · obtain ⟨o, e⟩ := Option.isSome_iff_exists.mp h'
    unfold Lv; rw [get_pop e]; rfl
theorem Rl.push (R : Rl K F ρ m H) : Rl K F ρ ([] :: m) H ∧ Ext F ρ m F ρ ([] :: m) := by
  have up : ∀ {l i o}, get m l i = some o → get ([] :: m) l i = some o := fun h => get_pop h
  have dn : ∀ {l i o}, get ([] :: m) l i = some o → get m l i = some o := fun {l i o} h => by
    unfold get at h
    split at h
    · simp at h
    · exact h
  have x : Ext F ρ m F ρ ([] :: m) := ⟨fun _ _ h => h, fun l i h => by
    obtain ⟨o, e⟩ := Option.isSome_iff_exists.mp h
    exact ⟨rfl, by unfold Lv; rw [up e]; rfl⟩⟩
  have lv : ∀ {l i}, Lv ([] :: m) l i → Lv m l i := fun {l i} h => by
    obtain ⟨o, e⟩ := Option.isSome_iff_exists.mp h
    unfold Lv; rw [dn e]; rfl
  exact ⟨⟨R.fh, fun l i o e => ⟨(R.ob l i o (dn e)).1, (R.ob l i o (dn e)).2.ext x⟩, fun l i l' i' h h' => R.inj l i l' i' (lv h) (lv h'), fun l i o e => R.wf l i o (dn e)⟩, x⟩
end

/-- how a frame is left: what it had stays where it was -/
structure Gone (K : KX) (F : Hp) (ρ : Ro) (fr : List MO) (r : MH) (H : Hp) (d : D) (v : V) (m' : MH) (d' : D) (ρ' : Ro) : Prop where
  rl : Rl K F ρ' m' H
  len : m'.length = r.length
  rep : Rep K F ρ' m' d' v
  old : ∀ l i, Lv r l i → ρ' l i = ρ l i ∧ Lv m' l i
  new : ∀ l i, Lv m' l i → ∃ l' i', Lv (fr :: r) l' i' ∧ ρ' l i = ρ l' i'
theorem leave_ok {K : KX} {F H : Hp} {ρ : Ro} {fr : List MO} {r : MH} {d : D} {v : V} {m' : MH} {d' : D} (R : Rl K F ρ (fr :: r) H) (hv : Rep K F ρ (fr :: r) d v) (h : leave d (fr :: r) = .ok d' m') : ∃ ρ', Gone K F ρ fr r H d v m' d' ρ' := by
  have keep : ∀ {d : D}, d.bd r.length = true → Rep K F ρ (fr :: r) d v → Rep K F ρ r d v := fun hb h => h.below (n := r.length) (fun l i hl q => ⟨rfl, (lv_pop hl).mp q⟩) hb
  have lvlt : ∀ {l i}, Lv r l i → l < r.length := fun {l i} q => by
    obtain ⟨o, e⟩ := Option.isSome_iff_exists.mp q
    exact get_lt e
  have plain : d.bd r.length = true → Gone K F ρ fr r H d v r d ρ := fun hb =>
    ⟨R.pop, rfl, keep hb hv, fun l i q => ⟨rfl, q⟩, fun l i q => ⟨l, i, (lv_pop (lvlt q)).mpr q, rfl⟩⟩
  cases d with
  | ref l i =>
    simp only [leave] at h
    split at h
    · rename_i hl
      subst hl
      cases g : fr[i]? with
      | none => simp only [g] at h; cases h
      | some o =>
        simp only [g] at h
        split at h
        · rename_i hb
          cases r with
          | nil => cases h
          | cons fr2 r2 =>
            simp only [alloc] at h
            split at h
            · rename_i hb2
              cases h
              have gg : get (fr :: fr2 :: r2) (fr2 :: r2).length i = some o := by unfold get; rw [if_pos rfl]; exact g
              obtain ⟨hF, hob⟩ := R.ob _ _ _ gg
              obtain ⟨rfl, _⟩ := hv.ref_of
              generalize ha : ρ (fr2 :: r2).length i = a at *
              have R1 := R.pop
              refine ⟨ρ.put r2.length fr2.length a, ⟨?_, rfl, ?_, fun l i q => ⟨Ro.put_ne fun z => not_lv_end (z.1 ▸ z.2 ▸ q), Lv.snoc.mpr (.inr q)⟩, fun l i q => ?_⟩⟩
              · have x : Ext F ρ (fr2 :: r2) F (ρ.put r2.length fr2.length a) ((fr2 ++ [o]) :: r2) := ⟨fun _ _ h => h, fun l i q => ⟨Ro.put_ne fun z => not_lv_end (z.1 ▸ z.2 ▸ q), Lv.snoc.mpr (.inr q)⟩⟩
                have ne : ∀ l i, Lv (fr2 :: r2) l i → ρ l i ≠ a := fun l i' q z => by
                  have q1 : Lv (fr :: fr2 :: r2) l i' := (lv_pop (lvlt q)).mpr q
                  have q2 : Lv (fr :: fr2 :: r2) (fr2 :: r2).length i := by unfold Lv; rw [gg]; rfl
                  obtain ⟨e1, _⟩ := R.inj _ _ _ _ q1 q2 (z.trans ha.symm)
                  have := lvlt q
                  omega
                have old : ∀ l i, Lv (fr2 :: r2) l i → (ρ.put r2.length fr2.length a) l i = ρ l i := fun l i q => (x.r l i q).1
                refine ⟨R.fh, fun l' i' u e => ?_, fun a1 c a2 c2 h1 h2 z => ?_, fun l' i' u e => ?_⟩
                · rw [get_snoc] at e
                  by_cases q : l' = r2.length ∧ i' = fr2.length
                  · rw [if_pos q] at e
                    obtain ⟨rfl, rfl⟩ := q
                    cases e
                    rw [Ro.put_same]
                    refine ⟨hF, hob.below (n := r2.length + 1) (fun l i hl q => ?_) hb2⟩
                    have q' : Lv (fr2 :: r2) l i := (lv_pop (by simpa using hl)).mp q
                    exact x.r l i q'
                  · rw [if_neg q] at e
                    have hlv' : Lv (fr2 :: r2) l' i' := by unfold Lv; rw [e]; rfl
                    rw [old _ _ hlv']
                    have := R1.ob l' i' u e
                    exact ⟨this.1, this.2.ext x⟩
                · rcases Lv.snoc.mp h1 with ⟨rfl, rfl⟩ | h1 <;> rcases Lv.snoc.mp h2 with ⟨rfl, rfl⟩ | h2
                  · exact ⟨rfl, rfl⟩
                  · rw [Ro.put_same, old _ _ h2] at z
                    exact absurd z.symm (ne _ _ h2)
                  · rw [Ro.put_same, old _ _ h1] at z
                    exact absurd z (ne _ _ h1)
                  · rw [old _ _ h1, old _ _ h2] at z
                    exact R1.inj _ _ _ _ h1 h2 z
                · rw [get_snoc] at e
                  by_cases q : l' = r2.length ∧ i' = fr2.length
                  · rw [if_pos q] at e
                    obtain ⟨rfl, rfl⟩ := q
                    cases e
                    exact hb2
                  · rw [if_neg q] at e
                    exact R1.wf l' i' u e
              · have := Rep.ref (K := K) (F := F) (ρ := ρ.put r2.length fr2.length a) (m := (fr2 ++ [o]) :: r2) (l := r2.length) (i := fr2.length) (Lv.snoc.mpr (.inl ⟨rfl, rfl⟩))
                rw [Ro.put_same] at this
                exact this
              · rcases Lv.snoc.mp q with ⟨rfl, rfl⟩ | q
                · exact ⟨(fr2 :: r2).length, _, by unfold Lv; rw [gg]; rfl, by rw [Ro.put_same, ha]⟩
                · exact ⟨l, i, (lv_pop (lvlt q)).mpr q, Ro.put_ne fun z => not_lv_end (z.1 ▸ z.2 ▸ q)⟩
            · cases h
        · cases h
    · rename_i hl
      cases h
      refine ⟨ρ, plain ?_⟩
      obtain ⟨_, q⟩ := hv.ref_of
      obtain ⟨o, e⟩ := Option.isSome_iff_exists.mp q
      have := get_lt e
      unfold D.bd
      simp at this
      exact decide_eq_true (by omega)
  | _ =>
    simp only [leave] at h
    split at h
    · cases h; exact ⟨ρ, plain (by assumption)⟩
    · cases h
end Fw

set_option Elab.async false
set_option linter.all false
set_option maxRecDepth 100000
set_option maxHeartbeats 2000000
set_option autoImplicit false
/-! ## Fw11: every def of a program does what run says -/
namespace Fw
open PySem PySem.Spec PyProof.Rows L2

section
variable {K : KX} {rx : PySem.W.Frag → Exc → Value → Option Addr → Hp → Prop}
/-- how a body is entered -/
theorem rs_start {F : Hp} {ρ : Ro} {m : MH} {H : Hp} {xs : List D} {vs : List V} {N : List Str} {ns np : Nat} (R : Rl K F ρ m H) (rr : RepL K F ρ m xs vs) (hl : xs.length = np) (hn : N.length = ns) (G : Hp)
    (hG : ∀ a o, G a = some o → H a = some o ∧ F a = none ∧ ∀ l i, Lv m l i → ρ l i ≠ a) : RS K ⟨F, ρ, m⟩ (xs.map some ++ List.replicate (ns - np) none) [] G ([] :: m) ρ F (L2.start N vs) H := by
  obtain ⟨R1, x⟩ := R.push
  have hlen := rr.length
  refine ⟨R1, ?_, fun i d e => ?_, fun p hp => (by cases hp), fun a o e => ?_, rfl, x⟩
  · unfold L2.start
    simp only [List.length_append, List.length_map, List.length_replicate]
    omega
  · unfold Env.at_ at e
    by_cases hi : i < xs.length
    · rw [List.getElem?_append_left (by simpa using hi), List.getElem?_map, List.getElem?_eq_getElem hi] at e
      simp only [Option.map_some, Option.getD_some, Option.some.injEq] at e
      subst e
      obtain ⟨v, h1, h2⟩ := rr.get (List.getElem?_eq_getElem hi)
      refine ⟨v, ?_, h2.ext x⟩
      unfold L2.start
      rw [List.getElem?_append_left (by simp; omega), List.getElem?_map, h1]
      rfl
    · rw [List.getElem?_append_right (by simpa using hi), List.getElem?_replicate] at e
      split at e <;> simp at e
  · obtain ⟨h1, h2, h3⟩ := hG a o e
    refine ⟨h1, h2, fun l i q => h3 l i ?_⟩
    obtain ⟨o', e'⟩ := Option.isSome_iff_exists.mp q
    have : get m l i = some o' := by
      unfold get at e'
      split at e'
      · simp at e'
      · exact e'
    unfold Lv
    rw [this]; rfl
/-- how a body is left -/
theorem rs_end {F : Hp} {ρ : Ro} {m : MH} {H G : Hp} {env : Env} {hd : List (D × V)} {σ : L2.St} {fr : List MO} {r : MH} {ρ' : Ro} {F' : Hp} {H' : Hp} {m' : MH} {ρ2 : Ro}
    (hG : ∀ a o, H a = some o → F a = none → (∀ l i, Lv m l i → ρ l i ≠ a) → G a = some o)
    (R : RS K ⟨F, ρ, m⟩ env hd G (fr :: r) ρ' F' σ H') (old : ∀ l i, Lv r l i → ρ2 l i = ρ' l i ∧ Lv m' l i) (new : ∀ l i, Lv m' l i → ∃ l' i', Lv (fr :: r) l' i' ∧ ρ2 l i = ρ' l' i') :
    Ext F ρ m F' ρ2 m' ∧ Keep F ρ m H F' ρ2 m' H' := by
  have hml : r.length = m.length := by
    have := R.ml
    simp only [List.length_cons] at this
    omega
  refine ⟨⟨R.xt.f, fun l i q => ?_⟩, fun a o h1 h2 h3 => ?_⟩
  · obtain ⟨e1, q1⟩ := R.xt.r l i q
    obtain ⟨o', e'⟩ := Option.isSome_iff_exists.mp q
    have hl := get_lt e'
    have q2 : Lv r l i := (lv_pop (by omega)).mp q1
    obtain ⟨e3, q3⟩ := old l i q2
    exact ⟨e3.trans e1, q3⟩
  · obtain ⟨g1, g2, g3⟩ := R.pin a o (hG a o h1 h2 h3)
    refine ⟨g1, g2, fun l i q => ?_⟩
    obtain ⟨l', i', q', e⟩ := new l i q
    rw [e]
    exact g3 l' i' q'
end

/-! ### a program -/
def fnScopeB (N ps : List Str) (sc : Scope) : Bool :=
  decide (sc.kind = .function) && (!sc.isCoroutine && (!sc.isGenerator && (decide N.Nodup && (decide (N.take ps.length = ps) && (ps.all (fun x => decide (sc.names.lookup x = some .local) || decide (sc.names.lookup x = some .cell)) && sc.names.all fun y => decide (y.2 ≠ .free))))))
theorem fnScope_ok {N ps : List Str} {sc : Scope} (h : fnScopeB N ps sc = true) : FnScope N ps sc := by
  unfold fnScopeB at h
  simp only [Bool.and_eq_true, decide_eq_true_eq, Bool.not_eq_true', List.all_eq_true, Bool.or_eq_true] at h
  obtain ⟨h1, h2, h3, h4, h5, h6, h7⟩ := h
  exact ⟨h1, h2, h3, h4, h5, h6, h7⟩
structure Prg (ι : Type) where
  P : ι → Fn ι
  nm : ι → Str
  N : ι → List Str
  ps : ι → List Str
  dd : ι → He.DefD
  cl : List (Str × List Str) := []
  gl : List (Str × Int) := []
def Prg.look {ι : Type} (p : Prg ι) (f : ι) : Look ι := { nm := p.nm, N := p.N f, sc := (p.dd f).scope, cl := p.cl, gl := p.gl }
def Prg.ok {ι : Type} (p : Prg ι) (f : ι) : Bool :=
  fnScopeB (p.N f) (p.ps f) (p.dd f).scope && (decide ((p.ps f).length = (p.P f).np) && (decide ((p.N f).length = (p.P f).ns) && chkB (p.P f).body (p.look f) (p.dd f).body))
/-- where a program's defs stand -/
structure Laid {ι : Type} (p : Prg ι) (K : PySem.W.Frag) (mg : Str → Option Value) where
  ad : ι → Addr
  fd : ι → FuncData
  def_ : ∀ f, FunD K (p.dd f).name (p.dd f).qual (p.dd f).params (p.dd f).body (p.dd f).scope [] [] (ad f) (fd f)
  glo : ∀ f, mg (p.nm f) = some (.ref (ad f))
  bind : ∀ f, Binds K (fd f) (p.ps f) []
  free : ∀ x ∈ freeNames, mg x = none
  glb : ∀ q ∈ p.gl, ∃ t, mg q.1 = some (.int q.2 t)
  exf : ∀ q ∈ p.cl, ExcFacts K mg p.cl q
section
variable {ι : Type} {P : Program} {w : World} {K : PySem.W.Frag} {mg : Str → Option Value} {base : Heap}
theorem spF_false {rx : PySem.W.Frag → Exc → Value → Option Addr → Hp → Prop} {f : List D → MH → Res D} (hf : ∀ xs m, f xs m = .fail) {vs : List V} {H : Hp} {Q : VK} {E : XK} (h : spF (k0 K) rx f vs H Q E) : False := by
  obtain ⟨F, ρ, m, xs, R, rr, p⟩ := h
  rw [hf] at p
  exact p
open Classical in
theorem prog_ok (p : Prg ι) (hok : ∀ f, p.ok f = true) (hcl : p.cl = clsOf P) (L : Laid p K mg) : ∀ (d : Nat) (f : ι), FnG P w K mg base d (L.ad f) (L.fd f) (p.ps f) (spF (k0 K) (rxO p.cl) (run p.P d f))
  | 0, f => ⟨fun vs H Q E h => (spF_false (fun _ _ => rfl) h).elim, fun A outer s H args us vs Q E _ _ _ _ _ h => (spF_false (fun _ _ => rfl) h).elim⟩
  | d + 1, f => by
    have ih := prog_ok p hok hcl L d
    have ho := hok f
    simp only [Prg.ok, Bool.and_eq_true, decide_eq_true_eq] at ho
    obtain ⟨h1, h2, h3, h4⟩ := ho
    have S := fnScope_ok h1
    have sp : ∀ {vs : List V} {H : Hp} {Q : VK} {E : XK}, spF (k0 K) (rxO p.cl) (run p.P (d + 1) f) vs H Q E → ∃ F ρ m xs, Rl (k0 K) F ρ m H ∧ RepL (k0 K) F ρ m xs vs ∧ xs.length = (p.P f).np ∧
        Post (left (exec (run p.P d) (p.P f).body (xs.map some ++ List.replicate ((p.P f).ns - (p.P f).np) none) ([] :: m)))
          (fun d m' => ∀ F' ρ' H' v, Ext F ρ m F' ρ' m' → Rl (k0 K) F' ρ' m' H' → m'.length = m.length → Keep F ρ m H F' ρ' m' H' → Rep (k0 K) F' ρ' m' d v → Q v H')
          (fun x m' => ∀ F' ρ' H' c dd, Ext F ρ m F' ρ' m' → Rl (k0 K) F' ρ' m' H' → m'.length = m.length → Keep F ρ m H F' ρ' m' H' → rxO p.cl K x c dd H' → E c dd H') := by
      intro vs H Q E ⟨F, ρ, m, xs, R, rr, q⟩
      unfold run at q
      split at q
      · exact ⟨F, ρ, m, xs, R, rr, by assumption, q⟩
      · exact q.elim
    refine fnG_of (L.def_ f) S (fun vs H Q E h => ?_) fun cdv A outer s H vs Q E hr hgd h => ?_
    · obtain ⟨F, ρ, m, xs, R, rr, e, q⟩ := sp h
      rw [← rr.length, e, h2]
    · obtain ⟨F, ρ, m, xs, R, rr, e, q⟩ := sp h
      have tk := takes_of (X := cxOf (L2.CX P w) P w K mg base (p.N f) (p.dd f).qual (p.dd f).scope (L.ad f) cdv A outer s H E) rfl rfl rfl (E := E) rfl
      have C : Ctx (rxO p.cl) (p.look f) (run p.P d) d (fun cls dd _ H => E cls dd H) (cxOf (L2.CX P w) P w K mg base (p.N f) (p.dd f).qual (p.dd f).scope (L.ad f) cdv A outer s H E) :=
        { hN := rfl, hs := rfl, nd := S.nd, calm := fun _ => rfl, fn := fun _ _ => rfl, room := fun _ => hr, units := hr.units, gd := hgd, pass := fun _ => passAt tk,
          calls := fun g => ⟨⟨L.ad g, L.fd g, p.ps g, ih g, L.glo g, (L.def_ g).kp, L.bind g⟩⟩, free := L.free, glb := L.glb, tk := fun _ => tk, top := fun _ _ => ⟨rfl, rfl⟩, cl := hcl, rxd := rfl, exf := L.exf }
      have hkx : kx (cxOf (L2.CX P w) P w K mg base (p.N f) (p.dd f).qual (p.dd f).scope (L.ad f) cdv A outer s H E) = k0 K := kx_calm rfl
      let G : Hp := fun a => if F a = none ∧ ∀ l i, Lv m l i → ρ l i ≠ a then H a else none
      have hG1 : ∀ a o, G a = some o → H a = some o ∧ F a = none ∧ ∀ l i, Lv m l i → ρ l i ≠ a := fun a o e => by
        have e : (if F a = none ∧ ∀ l i, Lv m l i → ρ l i ≠ a then H a else none) = some o := e
        split at e
        · rename_i z
          exact ⟨e, z.1, z.2⟩
        · cases e
      have hG2 : ∀ a o, H a = some o → F a = none → (∀ l i, Lv m l i → ρ l i ≠ a) → G a = some o := fun a o e1 e2 e3 => by
        show (if F a = none ∧ ∀ l i, Lv m l i → ρ l i ≠ a then H a else none) = some o
        rw [if_pos ⟨e2, e3⟩]; exact e1
      refine ⟨SS (k0 K) (rxO p.cl) (fun cls dd _ H => E cls dd H) (exec (run p.P d) (p.P f).body), by
        have := chkB_ok (p.P f).body C S.kind (passes_of rfl) h4
        rw [hkx] at this
        exact this, ⟨F, ρ, m⟩, _, [], G, _, ρ, F, rs_start R rr e (by rw [h3]) G hG1, ?_⟩
      cases hx : exec (run p.P d) (p.P f).body (xs.map some ++ List.replicate ((p.P f).ns - (p.P f).np) none) ([] :: m) with
      | fail => rw [hx] at q; exact q.elim
      | ok fl m' =>
        rw [hx] at q
        have fin : ∀ {d : D} {σ' : L2.St} {H' : Hp} {v : V} {env' : Env} {ρ' : Ro} {F' : Hp}, RS (k0 K) ⟨F, ρ, m⟩ env' [(d, v)] G m' ρ' F' σ' H' →
            Post (leave d m') (fun d m' => ∀ F' ρ' H' v, Ext F ρ m F' ρ' m' → Rl (k0 K) F' ρ' m' H' → m'.length = m.length → Keep F ρ m H F' ρ' m' H' → Rep (k0 K) F' ρ' m' d v → Q v H')
              (fun x m' => ∀ F' ρ' H' c dd, Ext F ρ m F' ρ' m' → Rl (k0 K) F' ρ' m' H' → m'.length = m.length → Keep F ρ m H F' ρ' m' H' → rxO p.cl K x c dd H' → E c dd H') → Q v H' := by
          intro dd σ' H' v env' ρ' F' R' q
          cases m' with
          | nil => have := R'.ml; simp at this
          | cons fr r =>
            cases hlv : leave dd (fr :: r) with
            | fail => rw [hlv] at q; exact q.elim
            | exc x m2 =>
              exfalso
              cases dd with
              | ref l i =>
                simp only [leave] at hlv
                split at hlv
                · cases hfr : fr[i]? with
                  | none => simp only [hfr] at hlv; cases hlv
                  | some o =>
                    simp only [hfr] at hlv
                    split at hlv
                    · cases r with
                      | nil => cases hlv
                      | cons =>
                        simp only [alloc] at hlv
                        split at hlv <;> cases hlv
                    · cases hlv
                · cases hlv
              | _ =>
                simp only [leave] at hlv
                split at hlv <;> cases hlv
            | ok d2 m2 =>
              rw [hlv] at q
              obtain ⟨ρ2, gone⟩ := leave_ok R'.rl R'.top hlv
              obtain ⟨x1, x2⟩ := rs_end hG2 R' gone.old gone.new
              have hml : m2.length = m.length := by
                have := R'.ml
                have := gone.len
                simp only [List.length_cons] at *
                omega
              exact q F' ρ2 H' v x1 gone.rl hml x2 gone.rep
        cases fl with
        | nx env' => exact fun ρ' F' σ' H' R' => fin (R'.hold .non) q
        | rt dv => exact fun ρ' F' σ' H' v env' R' => fin R' q
        | ex x env' =>
        intro ρ' F' σ' H' c dd R' hrx
        cases m' with
        | nil => have := R'.ml; simp at this
        | cons fr r =>
          simp only [left] at q
          have hml : r.length = m.length := by
            have := R'.ml
            simp only [List.length_cons] at this
            omega
          obtain ⟨x1, x2⟩ := rs_end (m' := r) (ρ2 := ρ') hG2 R' (fun l i q => ⟨rfl, q⟩) fun l i q => ⟨l, i, by
            obtain ⟨o, e⟩ := Option.isSome_iff_exists.mp q
            unfold Lv; rw [get_pop e]; rfl, rfl⟩
          exact q F' ρ' H' c dd x1 R'.rl.pop hml x2 hrx
      | exc x m' => rw [hx] at q; exact q.elim
end
end Fw

set_option Elab.async false
set_option linter.all false
set_option maxRecDepth 100000
set_option maxHeartbeats 2000000
set_option autoImplicit false
/-! ## Fw12: a law's end -/
namespace Fw
open PySem PySem.Spec PyProof.Rows L2

/-- the own exception classes looked at -/
def clsChk (cl : List (Str × List Str)) (K : PySem.W.Frag) : Bool := cl.all fun p =>
  (He.Fa.glo p.1).ok K && ((He.Fa.exc p.1).ok K && ((He.eqO (PySem.W.findIn K (.ref (He.ga K p.1)) "__getattribute__") (some (some (.builtin "BaseException.__getattribute__"))) && (He.eqO (PySem.W.findIn K (.ref (He.ga K p.1)) "__getattr__") (some none) &&
    (PySem.W.hasDictIn K (He.ga K p.1) && (He.eqO (PySem.W.findIn K (.ref (He.ga K p.1)) "__class__") (some (some (.builtin "object.__class__"))) && (He.eqO (PySem.W.specialIn K (.builtin "object.__class__") "__get__") (some (some (.builtin "getset_descriptor.__get__"))) &&
    (decide (PySem.W.takesIn K (.builtin "object.__class__") = some true) && decide (PySem.W.mroIn K (He.ga K p.1) (.type "object") = some true))))))) &&
  ((cl.all fun q => decide (PySem.W.exmOne K (.ref (He.ga K p.1)) (.ref (He.ga K q.1)) = some (decide (q.1 ∈ p.2))) && decide (PySem.W.kitOne K (.ref (He.ga K p.1)) (.ref (He.ga K q.1)) = some (decide (q.1 ∈ p.2)))) &&
    decide (PySem.W.kitOne K (.ref (He.ga K p.1)) (.type "ValueError") = some (decide (("ValueError" : Str) ∈ p.2))))))
theorem clsChk_ok {cl : List (Str × List Str)} {K : PySem.W.Frag} {h : Heap} {mg : Str → Option Value} (X : K.In h) (G : h.Ns mainGlobals mg) (c : clsChk cl K = true) : ∀ p ∈ cl, ExcFacts K mg cl p := by
  intro p hp
  have q := List.all_eq_true.mp c p hp
  simp only [Bool.and_eq_true, decide_eq_true_eq, List.all_eq_true] at q
  obtain ⟨c1, c2, ⟨d1, d2, d3, d4, d5, d6, d7⟩, e1, e2⟩ := q
  obtain ⟨x1, x2, x3, x4⟩ := He.exc_ok c2
  exact ⟨He.glo_ok X G c1, x1, x2, x3, x4, ⟨He.eqO_ok d1, He.eqO_ok d2, x3, d3, He.eqO_ok d4, He.eqO_ok d5, d6, d7⟩, fun q hq => (e1 q hq).1, fun q hq => (e1 q hq).2, e2⟩
/-- the head's look: the defs, the names, the own exception classes -/
abbrev AlF : Type := He.AlD × Bool
def obsF (n : Nat) (fa : List He.Fa) (fn : List He.DefD) (cl : List (Str × List Str)) (g : Addr → Option Obj) : AlF := (He.obsDG n fa fn g, clsChk cl (He.frG g (He.asD g n)))
def hookF (n : Nat) (fa : List He.Fa) (fn : List He.DefD) (cl : List (Str × List Str)) : PySem.W.Hook where
  α := AlF
  obs := fun s => obsF n fa fn cl s.heap.get?
  val := fun _ => (He.valD fn, true)
  says := fun _ h => ∃ K : PySem.W.Frag, K.In h ∧ He.SaysD fa fn K ∧ clsChk cl K = true
  of := fun _ _ e => ⟨_, He.frG_in, congrArg Prod.fst e, congrArg Prod.snd e⟩
  keeps := fun _ _ _ ⟨K, hK, c, d⟩ k => ⟨K, PySem.W.Frag.In.keeps hK k, c, d⟩
theorem obsF_eq {n : Nat} {fa : List He.Fa} {fn : List He.DefD} {cl : List (Str × List Str)} {g : Addr → Option Obj} {s : Shared} (h : ∀ a, g a = s.heap.get? a) : obsF n fa fn cl g = (hookF n fa fn cl).obs s := by
  have e : g = s.heap.get? := funext h
  rw [e]
  rfl
theorem repl_ints {K : KX} {F : Hp} {ρ : Ro} {m : MH} : ∀ ns : List Int, RepL K F ρ m (ns.map .int) (ns.map V.int)
  | [] => .nil
  | n :: ns => .cons (.int n) (repl_ints ns)
/-- the law's call answers True: F gives the written part, the program's place -/
theorem law_end {ι : Type} {P : Program} {w : World} {K : PySem.W.Frag} {mg mb : Str → Option Value} {fa a : Addr} {x : Str} {s₁ : Shared} {vs : List Value} {ns : List Int} {p : Prg ι} {f : ι} {d : Nat}
    (KX : K.In s₁.heap) (hns : s₁.heap.Ns mainGlobals mg) (hb : s₁.heap.Ns builtinsNs mb) (hbb : ∀ x : Str, x ≠ "__name__" → mb x = bootBuiltins x) (hlim : s₁.heap.NoLimit) (hg : s₁.gens = #[])
    (ha : s₁.heap.get? a = some { cls := .type "list", data := .seq vs.toArray }) (hi : IntsAre vs ns) (hl : ns.length ≤ sizeLine) (hr : Room d callerA) (hgd : callerA.guards = some [])
    (hok' : ∀ f, p.ok f = true) (hcl : p.cl = clsOf P) (L : Laid p K mg) (hfa : mg (p.nm f) = some (.ref fa)) (hps : p.ps f = [x]) (hbind : ∀ (s : Shared) (u : Value), BindsTo s (L.fd f) ⟨[u], []⟩ [(x, u)])
    (ht : run p.P d f [.scr (ns.map .int)] [] = .ok (.bl true) []) :
    codeAny (model P w) callerA (.call (.ref fa) ⟨[.ref a], []⟩) (fun r s' => r = .ok (.ret (.bool true)) ∧ OldK s₁.heap s'.heap ∧ s'.os = s₁.os ∧ AllBare s'.gens) s₁ := by
  have e := hfa.symm.trans (L.glo f)
  cases e
  have rv := vals_ints hi
  have hlen := hi.length
  have main : ∀ H : Hp, (∀ b, H b ≠ none → b = a ∧ K.lookup a = none) → (∀ b o, s₁.heap.get? b = some o → ∀ u, H b = some u → ∃ xs, u = .frz o (.lst xs)) → HOk P w H s₁.heap → SqL K H a (ns.map V.int) →
      codeAny (model P w) callerA (.call (.ref (L.ad f)) ⟨[.ref a], []⟩) (fun r s' => r = .ok (.ret (.bool true)) ∧ OldK s₁.heap s'.heap ∧ s'.os = s₁.os ∧ AllBare s'.gens) s₁ := by
    intro H only frz hok hS
    have out : ∀ {b : Addr} {o : Obj}, K.lookup b = some o → H b = none := fun {b o} e => by
      cases q : H b with
      | none => rfl
      | some u =>
        obtain ⟨rfl, n⟩ := only b (by rw [q]; simp)
        rw [e] at n; cases n
    have outD : ∀ {b : Addr} {o : Obj} {es : Array DictEntry} {ep : Nat}, s₁.heap.get? b = some o → o.data = .dict es ep → H b = none := fun {b o es ep} e dd => by
      cases q : H b with
      | none => rfl
      | some u =>
        obtain ⟨rfl, _⟩ := only b (by rw [q]; simp)
        rw [ha] at e; cases e
        cases (show Data.seq vs.toArray _ = Data.dict es ep from dd)
    have nsH : ∀ {b : Addr} {g : Str → Option Value}, s₁.heap.Ns b g → (hidT s₁.heap H).Ns b g := by
      rintro b g ⟨o, es, ep, e, dd, r⟩
      exact ⟨o, es, ep, hidT_get e (outD e dd), dd, r⟩
    have KH : K.In (hidT s₁.heap H) := fun b o e => hidT_get (KX b o e) (out e)
    have mod : Mod K mg (hidT s₁.heap H) := by
      obtain ⟨mc, c1, c2⟩ := hlim
      exact ⟨KH, nsH hns, ⟨mb, nsH hb, hbb⟩, ⟨mc, nsH c1, c2⟩⟩
    have env : Env0 P w K mg (hidT s₁.heap H) callerA [] s₁ H :=
      { frames := rfl, mod := mod, bs := fun _ _ q => of_hidT q, bsz := by rw [hidT_size]; exact Nat.le_refl _, funs := trivial, frf := fun _ q => (by cases q), hok := hok, bare := AllBare.of_eq hg }
    have F := prog_ok (P := P) (w := w) (base := hidT s₁.heap H) p hok' hcl L d f
    have hrl : Rl (k0 K) H (fun _ _ => 0) [] H := ⟨fun _ _ q => q, fun l i o q => by simp [get] at q, fun l i l' i' q => by simp [Lv, get] at q, fun l i o q => by simp [get] at q⟩
    have hargs : RepL (k0 K) H (fun _ _ => 0) [] [.scr (ns.map .int)] [.ref a] := .one (.scr hS (by simpa using hl) (repl_ints ns))
    have hsp : spF (k0 K) (rxO p.cl) (run p.P d f) [.ref a] H (fun v _ => v = .bl true) (fun _ _ _ => False) := by
      refine ⟨H, fun _ _ => 0, [], [.scr (ns.map .int)], hrl, hargs, ?_⟩
      rw [ht]
      intro F' ρ' H' v _ _ _ _ r
      exact r.bl_of
    have hb1 : BindsTo s₁ (L.fd f) ⟨[.ref a], []⟩ ((p.ps f).zip [.ref a]) := by rw [hps]; exact hbind s₁ (.ref a)
    refine codeAny_mono (F.run callerA [] s₁ H ⟨[.ref a], []⟩ [.ref a] [.ref a] (fun v _ => v = .bl true) (fun _ _ _ => False) hr hgd env hb1 (.cons rfl .nil) hsp) fun r s' q => ?_
    match r, q with
    | .error e, q =>
      obtain ⟨_, _, _, _, _, _, _, _, _, _, _, _, q⟩ := q
      exact q.elim
    | .ok (.ret u), q =>
      obtain ⟨v, H', hos, hbare, un, hok2, hrel, hv⟩ := q
      subst hv
      cases (show u = Value.bool true from hrel)
      refine ⟨rfl, OldK.of_keep fun b o e => ?_, hos, hbare⟩
      cases q : H b with
      | none => exact un.keep b o e q (fun z => by cases z) (fun z => by cases z)
      | some u =>
        obtain ⟨xs, rfl⟩ := frz b o e u q
        obtain ⟨e3, _⟩ := hok2 b _ (un.frzs b o _ q)
        exact e3
  cases hk : K.lookup a with
  | some o =>
    have e := KX a o hk
    rw [ha] at e
    cases e
    refine main (fun _ => none) (fun b q => absurd rfl q) (fun b o _ u q => by cases q) (fun b u q => by cases (show (none : Option HO) = some u from q)) ?_
    exact .inr ⟨_, vs.toArray, _, hk, rfl, rfl, rfl, by simpa [hlen] using hl, by simpa using rv⟩
  | none =>
    refine main (fun b => if b = a then some (.frz { cls := .type "list", data := .seq vs.toArray } (.lst (ns.map V.int))) else none) (fun b q => ?_) (fun b o e u q => ?_) (fun b u q => ?_) (.inl (.inr ⟨_, if_pos rfl⟩))
    · by_cases z : b = a
      · exact ⟨z, hk⟩
      · exact absurd (if_neg z) q
    · by_cases z : b = a
      · subst z
        rw [ha] at e; cases e
        simp only [if_true, Option.some.injEq] at q
        exact ⟨_, q.symm⟩
      · simp only [if_neg z] at q; cases q
    · by_cases z : b = a
      · subst z
        simp only [if_true, Option.some.injEq] at q
        subst q
        exact ⟨ha, by rw [List.length_map]; exact hl, vs, _, rv, ha⟩
      · simp only [if_neg z] at q; cases q

/-- the goal behind the head's facts -/
theorem walk_end {ι : Type} {l : PySem.W.OpenLaw} {q : Program} {loose : List Str} {XP : (Str → Option Value) → Heap → Prop} {YP : World → Heap → Prop} {df : DefRec} {p : Prg ι} {f : ι} {x : Str} (hn : l.most = some 63) (hdf : df.params.defaults = [])
    (hok : ∀ f, p.ok f = true) (hcl : p.cl = clsOf l.prog) (hps : p.ps f = [x])
    (hY : ∀ (w : World) (mg : Str → Option Value) (fa : Addr) (h : Heap), YP w h → h.Ns mainGlobals mg → mg df.name = some (.ref fa) →
      ∃ (K : PySem.W.Frag), K.In h ∧ mg (p.nm f) = some (.ref fa) ∧ ∃ L : Laid p K mg, ∀ (s : Shared) (u : Value), BindsTo s (L.fd f) ⟨[u], []⟩ [(x, u)])
    (ht : ∀ ns : List Int, ns.length ≤ 63 → (∀ z ∈ ns, Builtin.Int.intBits z ≤ 1048576) → ∃ d, d ≤ 40 ∧ run p.P d f [.scr (ns.map .int)] [] = .ok (.bl true) []) :
    PySem.W.WalkO q loose XP YP l.row.toRowW df [] (fun f vs => PySem.call f vs) := by
  refine Att.attach_callB hn hdf fun w s₀ s₁ mg mb fa o pm cd doc a vs ns G Y ho hd hcd hmg hobj hints hlen hbits hg => ?_
  obtain ⟨K, KX, hfa, L, hb⟩ := hY w mg fa _ Y G.T.g hmg
  obtain ⟨d, hd40, htr⟩ := ht ns hlen hbits
  have hroom : Room d callerA := Room.mono (k := 40) ⟨rfl, by decide +kernel, by decide +kernel⟩ hd40
  exact law_end (p := p) (f := f) (d := d) KX G.T.g G.T.b G.T.builtins G.T.nolimit hg hobj hints (Nat.le_trans hlen (by rw [sizeLine_eq]; omega)) hroom rfl hok hcl L hfa hps hb htr
/-- the defs' places from what the head's Hook says -/
noncomputable def laid_of {ι : Type} {p : Prg ι} {fas : List He.Fa} {fns : List He.DefD} {K : PySem.W.Frag} {h : Heap} {mg : Str → Option Value} (X : K.In h) (G : h.Ns mainGlobals mg) (c : He.SaysD fas fns K)
    (ix : ι → Nat) (h1 : ∀ f, fns[ix f]? = some (p.dd f)) (h2 : ∀ f, fas[ix f]? = some (.glo (p.nm f))) (h3 : ∀ f, (p.dd f).at_ = (p.nm f, none)) (h4 : ∀ f, (p.dd f).dfl = [] ∧ (p.dd f).kwd = [])
    (h5 : ∀ x ∈ freeNames, He.Fa.free x ∈ fas) (h6 : ∀ q ∈ p.gl, He.Fa.int q.1 q.2 ∈ fas) (hx : clsChk p.cl K = true)
    (hb : ∀ f fd a, FunD K (p.dd f).name (p.dd f).qual (p.dd f).params (p.dd f).body (p.dd f).scope [] [] a fd → Binds K fd (p.ps f) []) : Laid p K mg := by
  have hd : ∀ f, ∃ fd, FunD K (p.dd f).name (p.dd f).qual (p.dd f).params (p.dd f).body (p.dd f).scope [] [] (He.ga K (p.nm f)) fd := fun f => by
    obtain ⟨fd, F⟩ := c.def_ (ix f) (h1 f)
    have e : He.fAd K (p.dd f).at_ = He.ga K (p.nm f) := by rw [h3]; rfl
    have e1 : (p.dd f).dvs K = [] := by unfold He.DefD.dvs; rw [(h4 f).1]; rfl
    have e2 : (p.dd f).kws K = [] := by unfold He.DefD.kws; rw [(h4 f).2]; rfl
    rw [e, e1, e2] at F
    exact ⟨fd, F⟩
  exact ⟨fun f => He.ga K (p.nm f), fun f => (hd f).choose, fun f => (hd f).choose_spec, fun f => He.glo_ok X G (c.fact (ix f) (h2 f)), fun f => hb f _ _ (hd f).choose_spec, fun x hx => by
    obtain ⟨i, hi, e⟩ := List.mem_iff_getElem.mp (h5 x hx)
    exact He.free_ok X G (c.fact i (by rw [List.getElem?_eq_getElem hi, e])), fun q hq => by
    obtain ⟨i, hi, e⟩ := List.mem_iff_getElem.mp (h6 q hq)
    exact He.int_ok X G (c.fact i (by rw [List.getElem?_eq_getElem hi, e])), clsChk_ok X G hx⟩
end Fw

set_option Elab.async false
set_option linter.all false
set_option maxRecDepth 100000
set_option maxHeartbeats 1000000
set_option autoImplicit false
/-! ## Fw13: tools for what run gives: loops, repr, comparisons -/
namespace Fw
open PySem

/-! ### while -/
theorem whlN_up {c : Env → MH → Res Bool} {b : Env → MH → Res Fl} : ∀ (k : Nat) {v : Env} {m : MH} {r : Res Fl}, whlN c b k v m = r → r ≠ .fail → whlN c b (k + 1) v m = r
  | 0, v, m, r, h, hr => absurd h.symm (by simpa [whlN] using hr)
  | k + 1, v, m, r, h, hr => by
    unfold whlN at h ⊢
    cases e : c v m with
    | fail => rw [e] at h; exact absurd h.symm hr
    | exc x m' => rw [e] at h; exact h
    | ok t m1 =>
      rw [e] at h
      cases t with
      | false => exact h
      | true =>
        simp only [Res.st_ok, if_true] at h ⊢
        cases e2 : b v m1 with
        | fail => rw [e2] at h; exact absurd h.symm hr
        | exc x m' => rw [e2] at h; exact h
        | ok fl m2 =>
          rw [e2] at h
          cases fl with
          | rt d => exact h
          | ex x v => exact h
          | nx v2 =>
            simp only [Res.then_nx] at h ⊢
            exact whlN_up k h hr
theorem whlN_le {c : Env → MH → Res Bool} {b : Env → MH → Res Fl} {k j : Nat} {v : Env} {m : MH} {r : Res Fl} (h : whlN c b k v m = r) (hr : r ≠ .fail) (hj : k ≤ j) : whlN c b j v m = r := by
  obtain ⟨i, rfl⟩ := Nat.exists_eq_add_of_le hj
  clear hj
  induction i with
  | zero => exact h
  | succ i ih => exact whlN_up _ ih hr
theorem whl_of {c : Env → MH → Res Bool} {b : Env → MH → Res Fl} {k : Nat} {v : Env} {m : MH} {r : Res Fl} (h : whlN c b k v m = r) (hr : r ≠ .fail) : whl c b v m = r := by
  have e : ∃ k, whlN c b k v m ≠ .fail := ⟨k, by rw [h]; exact hr⟩
  unfold whl
  rw [dif_pos e]
  have h2 := e.choose_spec
  have h3 := whlN_le (j := max k e.choose) h hr (Nat.le_max_left _ _)
  have h4 := whlN_le (j := max k e.choose) (rfl : whlN c b e.choose v m = _) h2 (Nat.le_max_right _ _)
  rw [← h4, h3]
theorem whl_eq (c : Env → MH → Res Bool) (b : Env → MH → Res Fl) (v : Env) (m : MH) : whl c b v m = (c v m).st v fun t m => if t then (b v m).then_ fun v m => whl c b v m else .ok (.nx v) m := by
  by_cases h : ∃ k, whlN c b k v m ≠ .fail
  · obtain ⟨k, hk⟩ := h
    rw [whl_of rfl hk]
    cases k with
    | zero => exact absurd rfl hk
    | succ k =>
      unfold whlN at hk ⊢
      cases e : c v m with
      | fail => rfl
      | exc x m' => rfl
      | ok t m1 =>
        rw [e] at hk
        cases t with
        | false => rfl
        | true =>
          simp only [Res.st_ok, if_true] at hk ⊢
          cases e2 : b v m1 with
          | fail => rfl
          | exc x m' => rfl
          | ok fl m2 =>
            rw [e2] at hk
            cases fl with
            | rt d => rfl
            | ex x v => rfl
            | nx v2 =>
              simp only [Res.then_nx] at hk ⊢
              exact (whl_of rfl hk).symm
  · have all : ∀ k, whlN c b k v m = .fail := fun k => Classical.not_not.mp fun q => h ⟨k, q⟩
    have e0 : whl c b v m = .fail := by unfold whl; rw [dif_neg h]
    rw [e0]
    cases e : c v m with
    | fail => rfl
    | exc x m' => have := all 1; unfold whlN at this; rw [e] at this; cases this
    | ok t m1 =>
      cases t with
      | false => have := all 1; unfold whlN at this; rw [e] at this; cases this
      | true =>
        simp only [Res.st_ok, if_true]
        cases e2 : b v m1 with
        | fail => rfl
        | exc x m' => rfl
        | ok fl m2 =>
          cases fl with
          | rt d => have := all 1; unfold whlN at this; rw [e] at this; simp only [Res.st_ok, if_true, e2] at this; cases this
          | ex x v2 => have := all 1; unfold whlN at this; rw [e] at this; simp only [Res.st_ok, if_true, e2] at this; cases this
          | nx v2 =>
            simp only [Res.then_nx]
            unfold whl
            split
            · rename_i h2
              obtain ⟨k, hk⟩ := h2
              exfalso
              have := all (k + 1)
              unfold whlN at this
              rw [e] at this
              simp only [Res.st_ok, if_true, e2, Res.then_nx] at this
              exact hk this
            · rfl

/-! ### what holds behind -/
theorem Post.bind_iff {α β : Type} {r : Res α} {f : α → MH → Res β} {ok : β → MH → Prop} {ex : Exc → MH → Prop} : Post (r.bind f) ok ex ↔ Post r (fun a m => Post (f a m) ok ex) ex := by
  cases r <;> exact Iff.rfl
theorem Post.then_iff {r : Res Fl} {f : Env → MH → Res Fl} {ok : Fl → MH → Prop} : Post (r.then_ f) ok noE ↔ Post r (fun fl m => match fl with
    | .nx v => Post (f v m) ok noE
    | fl => ok fl m) noE := by
  cases r with
  | ok a m => cases a <;> exact Iff.rfl
  | exc => exact Iff.rfl
  | fail => exact Iff.rfl
@[simp] theorem Post.ok_iff {α : Type} {a : α} {m : MH} {ok : α → MH → Prop} {ex : Exc → MH → Prop} : Post (.ok a m) ok ex ↔ ok a m := Iff.rfl
@[simp] theorem Post.exc_iff {α : Type} {x : Exc} {m : MH} {ok : α → MH → Prop} {ex : Exc → MH → Prop} : Post (.exc x m : Res α) ok ex ↔ ex x m := Iff.rfl
@[simp] theorem Post.fail_iff {α : Type} {ok : α → MH → Prop} {ex : Exc → MH → Prop} : Post (.fail : Res α) ok ex ↔ False := Iff.rfl
/-- a loop over items -/
theorem forL_inv {g : D → Env → MH → Res Env} {b : Env → MH → Res Fl} {ok : Fl → MH → Prop} (I : List D → Env → MH → Prop) (h0 : ∀ v m, I [] v m → ok (.nx v) m)
    (hs : ∀ x xs v m, I (x :: xs) v m → Post (g x v m) (fun v m => Post (b v m) (fun fl m => match fl with
      | .nx v => I xs v m
      | fl => ok fl m) noE) noE) : ∀ xs v m, I xs v m → Post (forL g b xs v m) ok noE
  | [], v, m, h => h0 v m h
  | x :: xs, v, m, h => by
    unfold forL
    have q := hs x xs v m h
    cases e : g x v m with
    | fail => rw [e] at q; exact q.elim
    | exc => rw [e] at q; exact q.elim
    | ok v2 m2 =>
      rw [e] at q
      simp only [Res.tg_ok]
      rw [Post.then_iff]
      refine Post.imp (show Post (b v2 m2) _ _ from q) (fun fl m q => ?_) fun _ _ z => z
      cases fl with
      | nx v => exact forL_inv I h0 hs xs v m q
      | rt d => exact q
      | ex x v => exact q
/-- a while loop with a measure -/
theorem whl_inv {c : Env → MH → Res Bool} {b : Env → MH → Res Fl} {ok : Fl → MH → Prop} (I : Nat → Env → MH → Prop)
    (hs : ∀ n v m, I n v m → Post (c v m) (fun t m => if t then Post (b v m) (fun fl m => match fl with
      | .nx v => ∃ j, j < n ∧ I j v m
      | fl => ok fl m) noE else ok (.nx v) m) noE) : ∀ n v m, I n v m → Post (whl c b v m) ok noE := by
  intro n
  induction n using Nat.strongRecOn with
  | ind n ih =>
    intro v m h
    rw [whl_eq]
    have q := hs n v m h
    cases e : c v m with
    | fail => rw [e] at q; exact q.elim
    | exc => rw [e] at q; exact q.elim
    | ok t m2 =>
      rw [e] at q
      simp only [Res.st_ok]
      cases t with
      | false => exact q
      | true =>
        simp only [if_true]
        rw [Post.then_iff]
        refine Post.imp (show Post (b v m2) _ _ from q) (fun fl m q => ?_) fun _ _ z => z
        cases fl with
        | nx v => obtain ⟨j, hj, hI⟩ := q; exact ih j hj v m hI
        | rt d => exact q
        | ex x v => exact q

/-! ### a shown text's room -/
mutual
def roomOf : PyData → Nat
  | .none => 4
  | .bool _ => 5
  | .int _ => 1921
  | .str x => (reprText x).length
  | .list xs => roomAll xs + 2
  | .tuple xs => roomAll xs + 3
  | .dict kvs => roomKv kvs + 2
def roomAll : List PyData → Nat
  | [] => 0
  | x :: xs => roomOf x + 2 + roomAll xs
def roomKv : List (PyData × PyData) → Nat
  | [] => 0
  | (k, v) :: r => roomOf k + roomOf v + 4 + roomKv r
end
theorem join_le : ∀ ts : List Str, (Str.join ", " ts).length ≤ piled ts
  | [] => Nat.le_refl 0
  | t :: ts => by
    have := join_length_add (t :: ts) (by simp)
    omega
theorem listText_le (ts : List Str) : (listText ts).length ≤ piled ts + 2 := by
  cases ts with
  | nil => decide
  | cons t r =>
    unfold listText
    rw [strLen_append]
    show (textFrom 1 (("[" : Str) ++ (if (0 : Nat) > 0 then ", " else "" : String) ++ t) r).length + 1 ≤ _
    rw [textFrom_length_pos r 1 _ (by omega), strLen_append, strLen_append, piled_cons]
    have h1 : (("[" : String) : Str).length = 1 := rfl
    have h2 : ((if (0 : Nat) > 0 then ", " else "" : String) : Str).length = 0 := rfl
    rw [h1, h2]
    omega
theorem tupleText_le (ts : List Str) : (tupleText ts).length ≤ piled ts + 3 := by
  unfold tupleText
  rw [strLen_append, strLen_append]
  have h1 : ((("(" : String) : Str)).length = 1 := rfl
  have h2 : (((if ts.length == 1 then ",)" else ")" : String) : Str)).length ≤ 2 := by split <;> decide
  have := join_le ts
  omega
theorem dictText_le (ts : List Str) : (dictText ts).length ≤ piled ts + 2 := by
  unfold dictText
  rw [strLen_append, strLen_append]
  have h1 : ((("{" : String) : Str)).length = 1 := rfl
  have h2 : ((("}" : String) : Str)).length = 1 := rfl
  have := join_le ts
  omega
mutual
theorem shown_le : ∀ d : PyData, d.showable = true → d.shown.length ≤ roomOf d
  | .none, _ => by simp only [PyData.shown, roomOf]; decide
  | .bool b, _ => by cases b <;> (simp only [PyData.shown, roomOf]; decide)
  | .int i, h => by
    simp only [PyData.shown, roomOf]
    rw [ofString_length]
    exact int_text_length_le (by omega) (by simpa [PyData.showable] using h)
  | .str x, _ => by simp only [PyData.shown, roomOf]; exact Nat.le_refl _
  | .list xs, h => by
    simp only [PyData.shown, roomOf]
    have := shownAll_le xs (by simpa [PyData.showable] using h)
    have := listText_le (PyData.shownAll xs)
    omega
  | .tuple xs, h => by
    simp only [PyData.shown, roomOf]
    have := shownAll_le xs (by simpa [PyData.showable] using h)
    have := tupleText_le (PyData.shownAll xs)
    omega
  | .dict kvs, h => by
    simp only [PyData.shown, roomOf]
    have := shownKv_le kvs (by simpa [PyData.showable] using h)
    have := dictText_le (PyData.shownKv kvs)
    omega
theorem shownAll_le : ∀ xs : List PyData, PyData.showableAll xs = true → piled (PyData.shownAll xs) ≤ roomAll xs
  | [], _ => by simp only [PyData.shownAll, roomAll]; exact Nat.le_refl _
  | x :: xs, h => by
    simp only [PyData.showableAll, Bool.and_eq_true] at h
    simp only [PyData.shownAll, roomAll, piled_cons]
    have := shown_le x h.1
    have := shownAll_le xs h.2
    omega
theorem shownKv_le : ∀ xs : List (PyData × PyData), PyData.showableKv xs = true → piled (PyData.shownKv xs) ≤ roomKv xs
  | [], _ => by simp only [PyData.shownKv, roomKv]; exact Nat.le_refl _
  | (k, v) :: xs, h => by
    simp only [PyData.showableKv, Bool.and_eq_true] at h
    simp only [PyData.shownKv, roomKv, piled_cons, strLen_append]
    have := shown_le k h.1.1
    have := shown_le v h.1.2
    have := shownKv_le xs h.2
    have h2 : (((": " : String) : Str)).length = 2 := rfl
    rw [h2]
    omega
end
/-- repr of what is small -/
theorem reprD_of {m : MH} {x : D} {a : PyData} (e : dat m x = some a) (h1 : a.showable = true) (h2 : a.hasDict = true → noList a = true) (h3 : a.depth ≤ 60) (h4 : roomOf a ≤ 16777216) : reprD m x = some a.shown := by
  unfold reprD
  rw [e]
  have := shown_le a h1
  have hs : a.shown.length ≤ sizeLine := by unfold sizeLine; omega
  have h2' : (!a.hasDict || noList a) = true := by
    cases q : a.hasDict with
    | false => rfl
    | true => simp [h2 q]
  simp [h1, h2', h3, hs]

/-! ### evaluation, step by step -/
@[simp] theorem sz1 : (1 ≤ sizeLine) = True := by simp [sizeLine]
@[simp] theorem sz2 : (2 ≤ sizeLine) = True := by simp [sizeLine]
@[simp] theorem sz3 : (3 ≤ sizeLine) = True := by simp [sizeLine]
@[simp] theorem sz4 : (4 ≤ sizeLine) = True := by simp [sizeLine]
@[simp] theorem sz5 : (5 ≤ sizeLine) = True := by simp [sizeLine]
@[simp] theorem sz6 : (6 ≤ sizeLine) = True := by simp [sizeLine]
@[simp] theorem sz7 : (7 ≤ sizeLine) = True := by simp [sizeLine]
@[simp] theorem sz8 : (8 ≤ sizeLine) = True := by simp [sizeLine]
@[simp] theorem sz9 : (9 ≤ sizeLine) = True := by simp [sizeLine]
@[simp] theorem sz10 : (10 ≤ sizeLine) = True := by simp [sizeLine]
@[simp] theorem sz11 : (11 ≤ sizeLine) = True := by simp [sizeLine]
@[simp] theorem sz12 : (12 ≤ sizeLine) = True := by simp [sizeLine]
@[simp] theorem sz13 : (13 ≤ sizeLine) = True := by simp [sizeLine]
@[simp] theorem sz14 : (14 ≤ sizeLine) = True := by simp [sizeLine]
@[simp] theorem sz15 : (15 ≤ sizeLine) = True := by simp [sizeLine]
@[simp] theorem sz16 : (16 ≤ sizeLine) = True := by simp [sizeLine]
@[simp] theorem sz17 : (17 ≤ sizeLine) = True := by simp [sizeLine]
@[simp] theorem sz18 : (18 ≤ sizeLine) = True := by simp [sizeLine]
@[simp] theorem sz19 : (19 ≤ sizeLine) = True := by simp [sizeLine]
@[simp] theorem sz20 : (20 ≤ sizeLine) = True := by simp [sizeLine]
@[simp] theorem sz21 : (21 ≤ sizeLine) = True := by simp [sizeLine]
@[simp] theorem sz22 : (22 ≤ sizeLine) = True := by simp [sizeLine]
@[simp] theorem sz23 : (23 ≤ sizeLine) = True := by simp [sizeLine]
@[simp] theorem sz24 : (24 ≤ sizeLine) = True := by simp [sizeLine]
@[simp] theorem sz25 : (25 ≤ sizeLine) = True := by simp [sizeLine]
@[simp] theorem sz26 : (26 ≤ sizeLine) = True := by simp [sizeLine]
@[simp] theorem sz27 : (27 ≤ sizeLine) = True := by simp [sizeLine]
@[simp] theorem sz28 : (28 ≤ sizeLine) = True := by simp [sizeLine]
@[simp] theorem sz29 : (29 ≤ sizeLine) = True := by simp [sizeLine]
@[simp] theorem sz30 : (30 ≤ sizeLine) = True := by simp [sizeLine]
section
variable {ι : Type} {call : ι → List D → MH → Res D} {v : Env} {m : MH} {a b c es : E ι} {x y : S ι}
@[simp] theorem e_lit (k : Lit) : (sem call (.lit k)).e v m = .ok (litD k) m := rfl
@[simp] theorem e_var (i : Nat) : (sem call (.var i)).e v m = .of (v.at_ i) m := rfl
@[simp] theorem l_nil : (sem call .nil).l v m = .ok [] m := rfl
@[simp] theorem l_cons : (sem call (.cons a b)).l v m = ((sem call a).e v m).bind fun x m => ((sem call b).l v m).bind fun xs m => .ok (x :: xs) m := rfl
@[simp] theorem e_tup : (sem call (.tup es)).e v m = ((sem call es).l v m).bind fun xs m => if xs.length ≤ sizeLine then .ok (.tup xs) m else .fail := rfl
@[simp] theorem e_lst : (sem call (.lst es)).e v m = ((sem call es).l v m).bind fun xs m => if xs.length ≤ sizeLine then .ok (.lst xs) m else .fail := rfl
@[simp] theorem e_new : (sem call (.new es)).e v m = ((sem call es).l v m).bind fun xs m => if xs.length ≤ sizeLine then alloc m (.lst xs) else .fail := rfl
@[simp] theorem e_bin (o : Op2) : (sem call (.bin o a b)).e v m = ((sem call a).e v m).bind fun x m => ((sem call b).e v m).bind fun y m => arith o x y m := rfl
@[simp] theorem e_neg : (sem call (.neg a)).e v m = ((sem call a).e v m).bind fun x m => (match x with
    | .int i => .ok (.int (-i)) m
    | _ => .fail) := rfl
@[simp] theorem e_cmp (o : Cm) : (sem call (.cmp o a b)).e v m = ((sem call a).e v m).bind fun x m => ((sem call b).e v m).bind fun y m => .of ((compare m o x y).map .bl) m := rfl
@[simp] theorem e_and : (sem call (.and a b)).e v m = ((sem call a).e v m).bind fun x m => (match x with
        | .bl true => (sem call b).e v m
        | .bl false => .ok (.bl false) m
        | _ => .fail) := rfl
@[simp] theorem e_or : (sem call (.or a b)).e v m = ((sem call a).e v m).bind fun x m => (match x with
        | .bl true => .ok (.bl true) m
        | .bl false => (sem call b).e v m
        | _ => .fail) := rfl
@[simp] theorem e_not : (sem call (.not a)).e v m = ((sem call a).e v m).bind fun x m => (match x with
      | .bl b => .ok (.bl (!b)) m
      | _ => .fail) := rfl
@[simp] theorem e_ite : (sem call (.ite c a b)).e v m = ((sem call c).t v m).bind fun t m => if t then (sem call a).e v m else (sem call b).e v m := rfl
@[simp] theorem e_call (f : ι) : (sem call (.call f es)).e v m = ((sem call es).l v m).bind fun xs m => call f xs m := rfl
@[simp] theorem e_bi (k : Bi) : (sem call (.bi k es)).e v m = ((sem call es).l v m).bind fun xs m => .of (built k xs m) m := rfl
@[simp] theorem e_isi (t : Ty) : (sem call (.isi a t)).e v m = ((sem call a).e v m).bind fun x m => if tyKnown m x then .ok (.bl (isTy m t x)) m else .fail := rfl
@[simp] theorem e_idx : (sem call (.idx a b)).e v m = ((sem call a).e v m).bind fun x m => ((sem call b).e v m).bind fun y m => .of (getAt m x y) m := rfl
@[simp] theorem e_app : (sem call (.app a b)).e v m = ((sem call a).e v m).bind fun x m => if isL m x then ((sem call b).e v m).bind fun y m => append x y m else .fail := rfl
@[simp] theorem e_chain (o o2 : Cm) : (sem call (.chain o o2 a b c)).e v m = ((sem call a).e v m).bind fun x m => ((sem call b).e v m).bind fun y m => (Res.of (compare m o x y) m).bind fun t m => if t then ((sem call c).e v m).bind fun z m => .of ((compare m o2 y z).map .bl) m else .ok (.bl false) m := rfl
@[simp] theorem o_nil : (sem call (.nil : E ι)).o v m = .ok none m := rfl
@[simp] theorem o_lit (k : Int) : (sem call (.lit (.int k) : E ι)).o v m = .ok (some k) m := rfl
@[simp] theorem o_var (i : Nat) : (sem call (.var i : E ι)).o v m = (Res.of (v.at_ i) m).bind fun x m => (match x with
    | .int i => .ok (some i) m
    | _ => .fail) := rfl
@[simp] theorem o_bin (o : Op2) : (sem call (.bin o a b)).o v m = ((sem call (.bin o a b)).e v m).bind fun x m => (match x with
    | .int i => .ok (some i) m
    | _ => .fail) := rfl
@[simp] theorem o_neg : (sem call (.neg a)).o v m = ((sem call (.neg a)).e v m).bind fun x m => (match x with
    | .int i => .ok (some i) m
    | _ => .fail) := rfl
@[simp] theorem e_sl (lo hi : E ι) : (sem call (.sl a lo hi)).e v m = ((sem call a).e v m).bind fun x m => ((sem call lo).o v m).bind fun l m => ((sem call hi).o v m).bind fun h m => .of (slD m x l h) m := rfl
@[simp] theorem e_glob (x : Str) (i : Int) : (sem call (.glob x i : E ι)).e v m = .ok (.int i) m := rfl
@[simp] theorem e_dlit (ks vs : List Int) : (sem call (.dlit ks vs : E ι)).e v m = .ok (.dct ks (vs.map .int)) m := rfl
@[simp] theorem e_isE (x : Str) : (sem call (.isE a x)).e v m = ((sem call a).e v m).bind fun y m => .of (isED x y) m := rfl
theorem e_lc (mu : Bool) (own : List (Str × Nat)) (t : Pt) (it : E ι) : (sem call (.lc mu own t it c a)).e v m = ((sem call it).w v m).bind fun w m => if lenW w ≤ sizeLine then (lcW (ptg t).1 (sem call c).t (sem call a).e (wipeE v (own.map (·.2))) w (lenW w + 1) 0 m).nox.bind fun ys m => if mu then alloc m (.lst ys) else .ok (.lst ys) m else .fail := rfl
@[simp] theorem t_nil : (sem call (.nil : E ι)).t v m = .ok true m := rfl
theorem t_of {r : Res D} : ((r.bind fun x m => Res.of (truth m x) m) : Res Bool) = r.bind fun x m => (match x with
    | .bl b => .ok b m
    | _ => .fail) := by
  cases r with
  | ok x m => cases x <;> rfl
  | exc => rfl
  | fail => rfl
@[simp] theorem t_var (i : Nat) : (sem call (.var i)).t v m = (Res.of (v.at_ i) m).bind fun x m => (match x with
    | .bl b => .ok b m
    | _ => .fail) := t_of
@[simp] theorem t_lit (k : Lit) : (sem call (.lit k)).t v m = (match litD k with
    | .bl b => .ok b m
    | _ => .fail) := by cases k <;> rfl
@[simp] theorem t_call (f : ι) : (sem call (.call f es)).t v m = ((sem call es).l v m).bind fun xs m => (call f xs m).bind fun x m => (match x with
    | .bl b => .ok b m
    | _ => .fail) := by
  show (((sem call es).l v m).bind fun xs m => call f xs m).bind _ = _
  cases (sem call es).l v m with
  | ok xs m => exact t_of
  | exc => rfl
  | fail => rfl
@[simp] theorem t_cmp (o : Cm) : (sem call (.cmp o a b)).t v m = ((sem call a).e v m).bind fun x m => ((sem call b).e v m).bind fun y m => .of (compare m o x y) m := by
  show (((sem call a).e v m).bind fun x m => ((sem call b).e v m).bind fun y m => Res.of ((compare m o x y).map D.bl) m).bind (fun x m => Res.of (truth m x) m) = _
  cases (sem call a).e v m with
  | ok x m =>
    simp only [Res.bind_ok]
    cases (sem call b).e v m with
    | ok y m =>
      simp only [Res.bind_ok]
      cases compare m o x y <;> rfl
    | exc => rfl
    | fail => rfl
  | exc => rfl
  | fail => rfl
@[simp] theorem t_chain (o o2 : Cm) : (sem call (.chain o o2 a b c)).t v m = ((sem call (.chain o o2 a b c)).e v m).bind fun x m => (match x with
    | .bl b => .ok b m
    | _ => .fail) := t_of
@[simp] theorem t_isE (x : Str) : (sem call (.isE a x)).t v m = ((sem call (.isE a x)).e v m).bind fun x m => (match x with
    | .bl b => .ok b m
    | _ => .fail) := t_of
@[simp] theorem t_idx : (sem call (.idx a b)).t v m = ((sem call (.idx a b)).e v m).bind fun x m => (match x with
    | .bl b => .ok b m
    | _ => .fail) := t_of
@[simp] theorem t_and : (sem call (.and a b)).t v m = ((sem call a).t v m).bind fun t m => if t then (sem call b).t v m else .ok false m := rfl
@[simp] theorem t_or : (sem call (.or a b)).t v m = ((sem call a).t v m).bind fun t m => if t then .ok true m else (sem call b).t v m := rfl
@[simp] theorem t_not : (sem call (.not a)).t v m = ((sem call a).t v m).bind fun t m => .ok (!t) m := rfl
@[simp] theorem t_isi (t : Ty) : (sem call (.isi a t)).t v m = ((sem call a).e v m).bind fun x m => if tyKnown m x then .ok (isTy m t x) m else .fail := by
  show (((sem call a).e v m).bind fun x m => if tyKnown m x then Res.ok (D.bl (isTy m t x)) m else .fail).bind (fun x m => Res.of (truth m x) m) = _
  cases (sem call a).e v m with
  | ok x m => simp only [Res.bind_ok]; split <;> rfl
  | exc => rfl
  | fail => rfl
@[simp] theorem t_bi (k : Bi) : (sem call (.bi k es)).t v m = ((sem call es).l v m).bind fun xs m => (Res.of (built k xs m) m).bind fun x m => (match x with
    | .bl b => .ok b m
    | _ => .fail) := by
  show (((sem call es).l v m).bind fun xs m => Res.of (built k xs m) m).bind _ = _
  cases (sem call es).l v m with
  | ok xs m => exact t_of
  | exc => rfl
  | fail => rfl
@[simp] theorem w_rng1 : (sem call (.rng1 a)).w v m = ((sem call a).e v m).bind fun x m => (match x with
    | .int n => if -(2 ^ 62) ≤ n ∧ n < 2 ^ 62 then .ok (.items (rangeD 0 n)) m else .fail
    | _ => .fail) := rfl
@[simp] theorem w_rng2 : (sem call (.rng2 a b)).w v m = ((sem call a).e v m).bind fun x m => ((sem call b).e v m).bind fun y m => (match x, y with
    | .int i, .int n => if (-(2 ^ 62) ≤ i ∧ i < 2 ^ 62) ∧ (-(2 ^ 62) ≤ n ∧ n < 2 ^ 62) then .ok (.items (rangeD i n)) m else .fail
    | _, _ => .fail) := rfl
def walked (m : MH) : D → Res Wk
  | .tup xs => .ok (.items xs) m
  | .lst xs => .ok (.items xs) m
  | .scr xs => .ok (.items xs) m
  | .ref l i => (match get m l i with
    | some (.lst xs) => .ok (.live l i xs.length) m
    | _ => .fail)
  | _ => .fail
theorem w_of {r : Res D} : ((r.bind fun x m => (match x with
    | .tup xs => .ok (.items xs) m
    | .lst xs => .ok (.items xs) m
    | .scr xs => .ok (.items xs) m
    | .ref l i => (match get m l i with
      | some (.lst xs) => .ok (.live l i xs.length) m
      | _ => .fail)
    | _ => .fail)) : Res Wk) = r.bind fun x m => walked m x := by
  cases r with
  | ok x m => cases x <;> rfl
  | exc => rfl
  | fail => rfl
@[simp] theorem w_var (i : Nat) : (sem call (.var i)).w v m = (Res.of (v.at_ i) m).bind fun x m => walked m x := w_of
@[simp] theorem w_lst : (sem call (.lst es)).w v m = (((sem call es).l v m).bind fun xs m => if xs.length ≤ sizeLine then Res.ok (.lst xs) m else .fail).bind fun x m => walked m x := w_of
@[simp] theorem w_tup : (sem call (.tup es)).w v m = (((sem call es).l v m).bind fun xs m => if xs.length ≤ sizeLine then Res.ok (.tup xs) m else .fail).bind fun x m => walked m x := w_of
@[simp] theorem w_bin (o : Op2) : (sem call (.bin o a b)).w v m = ((sem call (.bin o a b)).e v m).bind fun x m => walked m x := w_of
@[simp] theorem w_lc (mu : Bool) (own : List (Str × Nat)) (t : Pt) (it : E ι) : (sem call (.lc mu own t it c a)).w v m = ((sem call (.lc mu own t it c a)).e v m).bind fun x m => walked m x := w_of
@[simp] theorem w_sl (lo hi : E ι) : (sem call (.sl a lo hi)).w v m = ((sem call (.sl a lo hi)).e v m).bind fun x m => walked m x := w_of
@[simp] theorem w_idx : (sem call (.idx a b)).w v m = (((sem call a).e v m).bind fun x m => ((sem call b).e v m).bind fun y m => .of (getAt m x y) m).bind fun x m => walked m x := w_of
@[simp] theorem w_call (f : ι) : (sem call (.call f es)).w v m = (((sem call es).l v m).bind fun xs m => call f xs m).bind fun x m => walked m x := w_of
@[simp] theorem g_name (i : Nat) (d : D) : (tgt call (.name i)).g d v m = if i < v.length then .ok (v.set i (some d)) m else .fail := rfl
@[simp] theorem g_tup (n : Nat) (ts : T ι) (d : D) : (tgt call (.tup n ts)).g d v m = (match d with
    | .tup xs => if xs.length = n then (tgt call ts).gs xs v m else .fail
    | _ => .fail) := rfl
@[simp] theorem g_nil : (tgt call (.nil : T ι)).gs [] v m = .ok v m := rfl
@[simp] theorem g_cons (p q : T ι) (d : D) (ds : List D) : (tgt call (.cons p q)).gs (d :: ds) v m = ((tgt call p).g d v m).bind fun v m => (tgt call q).gs ds v m := rfl
@[simp] theorem g_sub (d : D) : (tgt call (.sub a b)).g d v m = ((sem call a).e v m).bind fun x m => ((sem call b).e v m).bind fun y m => (setAt x y d m).bind fun _ m => .ok v m := rfl
@[simp] theorem x_nil : exec call .nil v m = .ok (.nx v) m := rfl
@[simp] theorem x_cons : exec call (.cons x y) v m = (exec call x v m).then_ fun v m => exec call y v m := rfl
@[simp] theorem x_pass : exec call .pass v m = .ok (.nx v) m := rfl
@[simp] theorem x_asg (t : T ι) : exec call (.asg t a) v m = ((sem call a).e v m).st v fun x m => ((tgt call t).g x v m).tg fun v m => .ok (.nx v) m := rfl
@[simp] theorem x_par (i j : Nat) : exec call (.par i j es) v m = ((sem call es).l v m).st v fun xs m => (match xs with
    | [x, y] => if i < v.length ∧ j < v.length then .ok (.nx ((v.set i (some x)).set j (some y))) m else .fail
    | _ => .fail) := rfl
@[simp] theorem x_exp : exec call (.exp a) v m = ((sem call a).e v m).st v fun _ m => .ok (.nx v) m := rfl
@[simp] theorem x_ret : exec call (.ret a) v m = ((sem call a).e v m).st v fun x m => .ok (.rt x) m := rfl
@[simp] theorem x_retN : exec call .retN v m = .ok (.rt .non) m := rfl
@[simp] theorem x_ifs : exec call (.ifs c x y) v m = ((sem call c).t v m).st v fun t m => if t then exec call x v m else exec call y v m := rfl
theorem x_whl : exec call (.whl c x) v m = ((sem call c).t v m).st v fun t m => if t then (exec call x v m).then_ fun v m => exec call (.whl c x) v m else .ok (.nx v) m := whl_eq _ _ v m
/-- a loop over what is walked -/
noncomputable def loop (call : ι → List D → MH → Res D) (t : T ι) (x : S ι) : Wk → Env → MH → Res Fl
  | .items xs => forL (fun x v m => (tgt call t).g x v m) (fun v m => exec call x v m) xs
  | .live l i n => forN (fun x v m => (tgt call t).g x v m) (fun v m => exec call x v m) l i n n
theorem x_for (t : T ι) : exec call (.for_ t a x) v m = ((sem call a).w v m).st v fun w m => loop call t x w v m := by
  show ((sem call a).w v m).st v _ = _
  cases (sem call a).w v m with
  | ok w m => cases w <;> rfl
  | exc => rfl
  | fail => rfl
theorem loop_nil (t : T ι) : loop call t x (.items []) v m = .ok (.nx v) m := rfl
theorem loop_cons (t : T ι) (d : D) (ds : List D) : loop call t x (.items (d :: ds)) v m = ((tgt call t).g d v m).tg fun v m => (exec call x v m).then_ fun v m => loop call t x (.items ds) v m := rfl
theorem loop_inv {t : T ι} {ok : Fl → MH → Prop} (I : List D → Env → MH → Prop) {xs : List D} (hi : I xs v m) (h0 : ∀ v m, I [] v m → ok (.nx v) m)
    (hs : ∀ d ds v m, I (d :: ds) v m → Post ((tgt call t).g d v m) (fun v m => Post (exec call x v m) (fun fl m => match fl with
      | .nx v => I ds v m
      | fl => ok fl m) noE) noE) : Post (loop call t x (.items xs) v m) ok noE := forL_inv I h0 hs xs v m hi
theorem while_inv {ok : Fl → MH → Prop} (I : Nat → Env → MH → Prop) (n : Nat) (hi : I n v m)
    (hs : ∀ n v m, I n v m → Post ((sem call c).t v m) (fun t m => if t then Post (exec call x v m) (fun fl m => match fl with
      | .nx v => ∃ j, j < n ∧ I j v m
      | fl => ok fl m) noE else ok (.nx v) m) noE) : Post (exec call (.whl c x) v m) ok noE := whl_inv I hs n v m hi
theorem x_setLc (i : Nat) : exec call (.setLc i a) v m = ((sem call a).e v m).st v fun x m => if i < v.length then .ok (.nx (v.set i (some x))) m else .fail := rfl
@[simp] theorem x_raise (n : Str) (sups : List Str) : exec call (.raise n sups) v m = .ok (.ex ⟨n, sups, []⟩ v) m := rfl
@[simp] theorem x_try (n : Str) (i : Nat) : exec call (.tryE n i x y) v m = tryF n i (exec call x v m) fun v m => exec call y v m := rfl
@[simp] theorem at_zero (o : Option D) : Env.at_ (o :: v) 0 = o := rfl
@[simp] theorem at_succ (o : Option D) (i : Nat) : Env.at_ (o :: v) (i + 1) = v.at_ i := rfl
@[simp] theorem lit_non : litD .non = .non := rfl
@[simp] theorem lit_bl (k : Bool) : litD (.bl k) = .bl k := rfl
@[simp] theorem lit_int (k : Int) : litD (.int k) = .int k := rfl
@[simp] theorem lit_str (k : Str) : litD (.str k) = .str k := rfl
@[simp] theorem add_int (i j : Int) : arith .add (.int i) (.int j) m = .ok (.int (i + j)) m := rfl
@[simp] theorem sub_int (i j : Int) : arith .sub (.int i) (.int j) m = .ok (.int (i - j)) m := rfl
theorem ar_int (o : Op2) (i j : Int) : arith o (.int i) (.int j) m = arithI o (.int i) (.int j) m := if_pos rfl
theorem mul_int {i j : Int} (h : i.natAbs.log2 + j.natAbs.log2 < 1000000) : arith .mul (.int i) (.int j) m = .ok (.int (i * j)) m := by
  rw [ar_int]
  exact if_pos h
theorem fdiv_int {i j : Int} (h0 : 0 < j) (h : j.natAbs.log2 < 9000) : arith .fdiv (.int i) (.int j) m = .ok (.int (i / j)) m := by
  rw [ar_int]
  exact if_pos ⟨h0, h⟩
theorem mod_int {i j : Int} (h0 : 0 < j) : arith .mod (.int i) (.int j) m = .ok (.int (i % j)) m := by
  rw [ar_int]
  exact if_pos h0
theorem log64 {i : Int} (h : i.natAbs < 18446744073709551616) : i.natAbs.log2 < 64 := by
  by_cases h0 : i.natAbs = 0
  · rw [h0]; decide
  · exact (Nat.log2_lt h0).mpr h
@[simp] theorem mul_lit {i j : Int} (h : i.natAbs < 18446744073709551616) (h' : j.natAbs < 18446744073709551616) : arith .mul (.int i) (.int j) m = .ok (.int (i * j)) m := mul_int (by
  have := log64 h
  have := log64 h'
  omega)
@[simp] theorem mod_lit {i j : Int} (h : 0 < j) : arith .mod (.int i) (.int j) m = .ok (.int (i % j)) m := mod_int h
@[simp] theorem fdiv_lit {i j : Int} (h : 0 < j) (h' : j.natAbs < 18446744073709551616) : arith .fdiv (.int i) (.int j) m = .ok (.int (i / j)) m := fdiv_int h (by
  have := log64 h'
  omega)
@[simp] theorem pow_lit {i j : Int} (h0 : 0 ≤ j) (h1 : j ≤ 1000000) (h : i.natAbs < 18446744073709551616) : arith .pow (.int i) (.int j) m = .ok (.int (i ^ j.toNat)) m := by
  rw [ar_int]
  exact if_pos ⟨h0, h1, h⟩
@[simp] theorem lt_int (i j : Int) : compare m .lt (.int i) (.int j) = some (decide (i < j)) := rfl
@[simp] theorem le_int (i j : Int) : compare m .le (.int i) (.int j) = some (decide (i ≤ j)) := rfl
@[simp] theorem gt_int (i j : Int) : compare m .gt (.int i) (.int j) = some (decide (j < i)) := rfl
@[simp] theorem ge_int (i j : Int) : compare m .ge (.int i) (.int j) = some (decide (j ≤ i)) := rfl
@[simp] theorem cmp_eq (p q : D) : compare m .eq p q = eqD m p q := rfl
@[simp] theorem cmp_ne (p q : D) : compare m .ne p q = (eqD m p q).map (!·) := rfl
end
end Fw

set_option Elab.async false
set_option linter.all false
set_option maxRecDepth 100000
set_option maxHeartbeats 2000000
set_option autoImplicit false
/-! ## Fw14: defs that many laws have -/
namespace Fw
open PySem

/-! ### small facts -/
theorem run_s {ι : Type} {P : ι → Fn ι} {d : Nat} {f : ι} {np ns : Nat} {b : S ι} (h : P f = ⟨np, ns, b⟩) {xs : List D} {m : MH} (hl : xs.length = np) : run P (d + 1) f xs m = left (exec (run P d) b (xs.map some ++ List.replicate (ns - np) none) ([] :: m)) := by
  unfold run
  rw [h]
  simp [hl]
theorem eqD_int (m : MH) (a b : Int) : eqD m (.int a) (.int b) = some (decide (a = b)) := by
  have h : ∀ i : Int, SeqAt.shaped (.int i) = true := fun i => rfl
  unfold eqD eqS
  simp only [strs2, dat, pd, h, Bool.and_self, if_true]
  simp only [PyData.eqv]
  congr 1
theorem eqD_str (m : MH) (a b : Str) : eqD m (.str a) (.str b) = some (decide (a = b)) := rfl
theorem eqD_bl (m : MH) (a b : Bool) : eqD m (.bl a) (.bl b) = some (decide (a = b)) := by
  have h : ∀ i : Bool, SeqAt.shaped (.bool i) = true := fun i => rfl
  unfold eqD eqS
  simp only [strs2, dat, pd, h, Bool.and_self, if_true]
  simp only [PyData.eqv]
  congr 1
theorem get_nil_cons {m : MH} {l i : Nat} {o : MO} (h : get m l i = some o) : get ([] :: m) l i = some o := by
  have := get_lt h
  unfold get
  rw [if_neg (by omega)]
  exact h
theorem put_nil_cons {m : MH} {l i : Nat} {o o' : MO} (h : get m l i = some o) : put ([] :: m) l i o' = [] :: put m l i o' := by
  have := get_lt h
  conv => lhs; unfold put
  rw [if_neg (by omega)]
theorem get_put_same {m : MH} {l i : Nat} {o o' : MO} (h : get m l i = some o) : get (put m l i o') l i = some o' := by
  rw [get_put h]; simp
theorem put_put {m : MH} {l i : Nat} {o o' : MO} : put (put m l i o) l i o' = put m l i o' := by
  induction m with
  | nil => rfl
  | cons fr r ih =>
    by_cases e : l = r.length
    · simp [e, put]
    · have e2 : ¬ l = (put r l i o).length := by rw [put_length]; exact e
      simp only [put, if_neg e, if_neg e2, ih]
theorem abs_eq (i : Int) : (if i < 0 then -i else i) = (i.natAbs : Int) := by split <;> omega

/-! ### one item off the pot -/
def takeFn {ι : Type} : Fn ι := ⟨2, 3, (.cons (.asg (.name 2) (.bin .mod (.idx (.var 0) (.lit (.int 0))) (.var 1))) (.cons (.asg (.sub (.var 0) (.lit (.int 0))) (.bin .fdiv (.idx (.var 0) (.lit (.int 0))) (.var 1))) (.cons (.ret (.var 2)) .nil)))⟩
theorem run_take {ι : Type} {P : ι → Fn ι} {f : ι} (h : P f = takeFn) (d : Nat) {m : MH} {l i : Nat} {n far : Int} (hg : get m l i = some (.lst [.int n])) (h0 : 0 < far) (h1 : far.natAbs.log2 < 9000) :
    run P (d + 1) f [.ref l i, .int far] m = .ok (.int (n % far)) (put m l i (.lst [.int (n / far)])) := by
  rw [run_s h rfl]
  have g1 := get_nil_cons hg
  have g2 := put_nil_cons (o' := .lst [.int (n / far)]) hg
  have e0 : place 1 0 = some 0 := rfl
  simp [getAt, seqOf, g1, e0, mod_int h0, fdiv_int h0 h1, setAt, D.bd, g2, left, leave]
/-! ### the script's cells, the pot -/
theorem Post.get {α : Type} {r : Res α} {p : α → MH → Prop} (h : Post r p fun _ _ => False) : ∃ a m, r = .ok a m ∧ p a m := by
  cases r with
  | ok a m => exact ⟨a, m, rfl, h⟩
  | exc => exact h.elim
  | fail => exact h.elim
def cellFn {ι : Type} : Fn ι := ⟨2, 2, (.cons (.ifs (.cmp .lt (.var 1) (.bi .len (.cons (.var 0) .nil))) (.cons (.ret (.idx (.var 0) (.var 1))) .nil) .nil) (.cons (.ret (.lit (.int 0))) .nil))⟩
theorem place_nat {n k : Nat} (h : k < n) : place n (k : Int) = some k := by
  unfold place L2.ixN
  rw [if_pos (by omega), if_pos (by omega)]
  simp
theorem run_cell {ι : Type} {P : ι → Fn ι} {f : ι} (h : P f = cellFn) (d : Nat) (ns : List Int) (k : Nat) (m : MH) : ∃ z, run P (d + 1) f [.scr (ns.map .int), .int k] m = .ok (.int z) m := by
  rw [run_s h rfl]
  by_cases hk : k < ns.length
  · refine ⟨ns[k], ?_⟩
    have h1 : ((k : Int) < ns.length) = True := by simp; omega
    have h2 : place (ns.map D.int).length (k : Int) = some k := place_nat (by simpa using hk)
    simp at h2
    simp [getAt, seqOf, built, lenD, h1, left, leave, D.bd, h2, hk]
  · refine ⟨0, ?_⟩
    have h1 : ((k : Int) < ns.length) = False := by simp; omega
    simp [getAt, seqOf, built, lenD, h1, left, leave, D.bd, hk]
def potFn {ι : Type} : Fn ι := ⟨1, 4, (.cons (.ifs (.cmp .ge (.var 0) (.bin .pow (.lit (.int 10)) (.lit (.int 18)))) (.cons (.ret (.new (.cons (.bin .sub (.var 0) (.bin .pow (.lit (.int 10)) (.lit (.int 18)))) .nil))) .nil) .nil) (.cons (.asg (.name 1) (.lit (.int 0))) (.cons (.for_ (.name 2) (.rng1 (.lit (.int 64))) (.cons (.asg (.name 3) (.bin .mod (.bin .mul (.bin .add (.bin .add (.bin .mod (.var 0) (.lit (.int 2147483629))) (.bin .mul (.lit (.int 7919)) (.var 2))) (.lit (.int 1))) (.lit (.int 48271))) (.lit (.int 2147483647)))) (.cons (.asg (.name 3) (.bin .mod (.bin .add (.bin .add (.bin .mul (.var 3) (.var 3)) (.bin .mul (.lit (.int 69621)) (.var 2))) (.lit (.int 7))) (.lit (.int 2147483587)))) (.cons (.asg (.name 1) (.bin .add (.bin .mul (.var 1) (.lit (.int 2147483587))) (.var 3))) .nil)))) (.cons (.ret (.new (.cons (.var 1) .nil))) .nil))))⟩
theorem log2_lt {n k : Nat} (h : n < 2 ^ k) (hk : 0 < k) : n.log2 < k := by
  by_cases h0 : n = 0
  · subst h0; simpa using hk
  · exact (Nat.log2_lt h0).mpr h
theorem natAbs_lt {i : Int} {k : Nat} (h0 : 0 ≤ i) (h : i < 2 ^ k) : i.natAbs < 2 ^ k := by
  have : ((2 ^ k : Nat) : Int) = (2 : Int) ^ k := by simp
  omega
theorem run_pot {ι : Type} {P : ι → Fn ι} {f : ι} (h : P f = potFn) (d : Nat) (z : Int) (fr : List MO) (r : MH) : ∃ n, run P (d + 1) f [.int z] (fr :: r) = .ok (.ref r.length fr.length) ((fr ++ [.lst [.int n]]) :: r) := by
  rw [run_s h rfl]
  by_cases hz : (10 ^ 18 : Int) ≤ z
  · refine ⟨z - 10 ^ 18, ?_⟩
    have hz' : (1000000000000000000 : Int) ≤ z := by simpa using hz
    simp [hz', left, leave, alloc, MO.bd, bdL, D.bd]
  · have hz' : ¬ (1000000000000000000 : Int) ≤ z := by simpa using hz
    have key : ∃ a m, loop (run P d) (.name 2) (.cons (.asg (.name 3) (.bin .mod (.bin .mul (.bin .add (.bin .add (.bin .mod (.var 0) (.lit (.int 2147483629))) (.bin .mul (.lit (.int 7919)) (.var 2))) (.lit (.int 1))) (.lit (.int 48271))) (.lit (.int 2147483647)))) (.cons (.asg (.name 3) (.bin .mod (.bin .add (.bin .add (.bin .mul (.var 3) (.var 3)) (.bin .mul (.lit (.int 69621)) (.var 2))) (.lit (.int 7))) (.lit (.int 2147483587)))) (.cons (.asg (.name 1) (.bin .add (.bin .mul (.var 1) (.lit (.int 2147483587))) (.var 3))) .nil)))
        (.items (rangeD 0 64)) [some (.int z), some (.int 0), none, none] ([] :: fr :: r) = .ok a m ∧ (∃ n x y, a = .nx [some (.int z), some (.int n), x, y] ∧ m = [] :: fr :: r) := by
      refine Post.get (loop_inv (fun xs v m => (∃ n x y, v = [some (.int z), some (.int n), x, y] ∧ 0 ≤ n ∧ n < 2 ^ (31 * (64 - xs.length))) ∧ xs.length ≤ 64 ∧ (∀ q ∈ xs, ∃ j, q = .int j ∧ 0 ≤ j ∧ j < 64) ∧ m = [] :: fr :: r) ⟨⟨0, none, none, rfl, by omega, by simp [rangeD]⟩, by simp [rangeD], fun q hq => ?_, rfl⟩ (fun v m q => ?_) (fun x xs v m q => ?_))
      · simp only [rangeD, List.mem_map, List.mem_range] at hq
        obtain ⟨k, hk, rfl⟩ := hq
        exact ⟨_, rfl, by omega, by omega⟩
      · obtain ⟨⟨n, x, y, rfl, _, _⟩, _, _, rfl⟩ := q
        exact ⟨n, x, y, rfl, rfl⟩
      · obtain ⟨⟨n, x', y, rfl, n0, n1⟩, hl, hq, rfl⟩ := q
        obtain ⟨j, rfl, j0, j1⟩ := hq x List.mem_cons_self
        simp only [List.length_cons] at n1 hl
        have hA : ∀ A B : Int, 0 ≤ A → A < 2 ^ 40 → 0 ≤ B → B < 2 ^ 40 → A.natAbs.log2 + B.natAbs.log2 < 1000000 := fun A B a0 a1 b0 b1 => by
          have h1 := log2_lt (natAbs_lt a0 a1) (by omega)
          have h2 := log2_lt (natAbs_lt b0 b1) (by omega)
          omega
        have l1 : ∀ i : Int, i.natAbs.log2 < 9000 → i.natAbs.log2 < 9000 := fun _ h => h
        have k1 : (2147483629 : Int).natAbs.log2 < 9000 := by decide
        have c1 := hA 7919 j (by omega) (by omega) j0 (by omega)
        have m0 := Int.emod_nonneg z (b := 2147483629) (by omega)
        have m1 := Int.emod_lt_of_pos z (b := 2147483629) (by omega)
        have c2 := hA (z % 2147483629 + 7919 * j + 1) 48271 (by omega) (by omega) (by omega) (by omega)
        generalize hM : (z % 2147483629 + 7919 * j + 1) * 48271 % 2147483647 = M
        have e0 := Int.emod_nonneg ((z % 2147483629 + 7919 * j + 1) * 48271) (b := 2147483647) (by omega)
        have e1 := Int.emod_lt_of_pos ((z % 2147483629 + 7919 * j + 1) * 48271) (b := 2147483647) (by omega)
        rw [hM] at e0 e1
        have c3 := hA M M e0 (by omega) e0 (by omega)
        have c4 := hA 69621 j (by omega) (by omega) j0 (by omega)
        generalize hN : (M * M + 69621 * j + 7) % 2147483587 = N
        have f0 := Int.emod_nonneg (M * M + 69621 * j + 7) (b := 2147483587) (by omega)
        have f1 := Int.emod_lt_of_pos (M * M + 69621 * j + 7) (b := 2147483587) (by omega)
        rw [hN] at f0 f1
        have c5 : n.natAbs.log2 + (2147483587 : Int).natAbs.log2 < 1000000 := by
          have h1 : n.natAbs < 2 ^ 1984 := natAbs_lt n0 (Int.lt_of_lt_of_le n1 (by
            have : (2 : Nat) ^ (31 * (64 - (xs.length + 1))) ≤ 2 ^ 1984 := Nat.pow_le_pow_right (by omega) (by omega)
            exact_mod_cast this))
          have h2 := log2_lt h1 (by omega)
          have h3 : (2147483587 : Int).natAbs.log2 < 40 := by decide
          omega
        simp [mod_int (i := z) (j := 2147483629) (by omega), mul_int c1, mul_int c2, mod_int (i := (z % 2147483629 + 7919 * j + 1) * 48271) (j := 2147483647) (by omega), hM, mul_int c3, mul_int c4, mod_int (i := M * M + 69621 * j + 7) (j := 2147483587) (by omega), hN, mul_int c5]
        refine ⟨⟨?_, ?_⟩, by omega, fun q h => hq q (List.mem_cons_of_mem _ h)⟩
        · have := Int.mul_nonneg n0 (show (0 : Int) ≤ 2147483587 by omega)
          omega
        · have h1 : n * 2147483587 + N < (n + 1) * 2147483587 := by omega
          have h2 : (n + 1) * 2147483587 ≤ 2 ^ (31 * (64 - (xs.length + 1))) * 2 ^ 31 := Int.mul_le_mul (by omega) (by omega) (by omega) (by exact Int.le_of_lt (Int.pow_pos (by omega)))
          have h3 : (2 : Int) ^ (31 * (64 - (xs.length + 1))) * 2 ^ 31 = 2 ^ (31 * (64 - xs.length)) := by
            rw [← Int.pow_add]
            congr 1
            omega
          omega
    obtain ⟨a, m, e, n, x, y, rfl, rfl⟩ := key
    refine ⟨n, ?_⟩
    simp [x_for, hz', e, left, leave, alloc, MO.bd, bdL, D.bd]
end Fw

set_option Elab.async false
set_option linter.all false
set_option maxRecDepth 100000
set_option maxHeartbeats 2000000
set_option autoImplicit false
/-! ## Fw15: common divisors, whole numbers -/
namespace Fw
open PySem
def gcdFn {ι : Type} (o : Cm) : Fn ι := ⟨2, 2, (.cons (.par 0 1 (.cons (.bi .abs (.cons (.var 0) .nil)) (.cons (.bi .abs (.cons (.var 1) .nil)) .nil))) (.cons (.whl (.cmp o (.var 1) (.lit (.int 0))) (.cons (.par 0 1 (.cons (.var 1) (.cons (.bin .mod (.var 0) (.var 1)) .nil))) .nil)) (.cons (.ret (.var 0)) .nil)))⟩
theorem gcd_test {o : Cm} (ho : o = .gt ∨ o = .ne) (m : MH) (b : Nat) : compare m o (.int (b : Int)) (.int 0) = some (decide (b ≠ 0)) := by
  rcases ho with rfl | rfl
  · simp only [compare, cmpI]
    congr 1
    by_cases h : b = 0 <;> simp [h] <;> omega
  · simp only [compare, eqD_int]
    by_cases h : b = 0 <;> simp [h]
theorem gcd_loop {ι : Type} {call : ι → List D → MH → Res D} {o : Cm} (ho : o = .gt ∨ o = .ne) (m : MH) : ∀ b a : Nat, exec call (.whl (.cmp o (.var 1) (.lit (.int 0))) (.cons (.par 0 1 (.cons (.var 1) (.cons (.bin .mod (.var 0) (.var 1)) .nil))) .nil)) [some (.int a), some (.int b)] m =
    .ok (.nx [some (.int (Nat.gcd a b)), some (.int 0)]) m := by
  intro b
  induction b using Nat.strongRecOn with
  | ind b ih =>
    intro a
    rw [x_whl]
    have t := gcd_test ho m b
    by_cases hb : b = 0
    · subst hb
      simp at t
      simp [t]
    · have h1 : (0 : Int) < b := by omega
      have := ih (a % b) (Nat.mod_lt _ (by omega)) b
      simp [t, hb, mod_int h1]
      rw [show ((a : Int) % (b : Int)) = ((a % b : Nat) : Int) from rfl, this, Nat.gcd_comm b, ← Nat.gcd_rec, Nat.gcd_comm]
theorem run_gcd {ι : Type} {P : ι → Fn ι} {f : ι} {o : Cm} (ho : o = .gt ∨ o = .ne) (h : P f = gcdFn o) (d : Nat) (a b : Int) (m : MH) : run P (d + 1) f [.int a, .int b] m = .ok (.int (Int.gcd a b)) m := by
  rw [run_s h rfl]
  have := gcd_loop (call := run P d) ho ([] :: m) b.natAbs a.natAbs
  simp [built, int1, abs_eq, this, left, leave, D.bd, Int.gcd]
def wholeFn {ι : Type} : Fn ι := ⟨1, 1, (.cons (.ret (.and (.isi (.var 0) .int) (.not (.isi (.var 0) .bool)))) .nil)⟩
def isInt : D → Bool
  | .int _ => true
  | _ => false
theorem run_whole {ι : Type} {P : ι → Fn ι} {f : ι} (h : P f = wholeFn) (d : Nat) (x : D) (m : MH) (hx : tyKnown ([] :: m) x = true) : run P (d + 1) f [x] m = .ok (.bl (isInt x)) m := by
  rw [run_s h rfl]
  cases x with
  | exc => cases hx
  | ref l i => simp [hx, isTy, left, leave, D.bd, isInt]
  | _ => rfl
/-! ### takes inside a def that is given the pot -/
theorem put_self {m : MH} {l i : Nat} {o : MO} (h : get m l i = some o) : put m l i o = m := by
  induction m with
  | nil => rfl
  | cons fr r ih =>
    unfold get at h
    by_cases e : l = r.length
    · rw [if_pos e] at h
      simp only [put, if_pos e]
      congr 1
      refine List.ext_getElem? fun k => ?_
      rw [List.getElem?_set]
      split
      · rename_i e2
        subst e2
        rw [h]
        split
        · rfl
        · rename_i q
          rw [List.getElem?_eq_none (by omega)] at h
          cases h
      · rfl
    · rw [if_neg e] at h
      simp only [put, if_neg e, ih h]
theorem lv_get {m : MH} {l i : Nat} (h : Lv m l i) (o : MO) : get (put m l i o) l i = some o := by
  obtain ⟨o', e⟩ := Option.isSome_iff_exists.mp h
  exact get_put_same e
theorem get_under {fr : List MO} {m : MH} {l i : Nat} {o : MO} (h : get m l i = some o) : get (fr :: m) l i = some o := get_pop h
theorem put_under {fr : List MO} {m : MH} {l i : Nat} {o : MO} (h : l < m.length) : put (fr :: m) l i o = fr :: put m l i o := by
  conv => lhs; unfold put
  rw [if_neg (by omega)]
theorem lv_lt {m : MH} {l i : Nat} (h : Lv m l i) : l < m.length := by
  obtain ⟨o', e⟩ := Option.isSome_iff_exists.mp h
  exact get_lt e
theorem run_takeC {ι : Type} {P : ι → Fn ι} {f : ι} (h : P f = takeFn) (d : Nat) {fr : List MO} {m : MH} {l i : Nat} {n far : Int} (hl : Lv m l i) (h0 : 0 < far) (h1 : far.natAbs.log2 < 9000) :
    run P (d + 1) f [.ref l i, .int far] (fr :: put m l i (.lst [.int n])) = .ok (.int (n % far)) (fr :: put m l i (.lst [.int (n / far)])) := by
  rw [run_take h d (get_under (lv_get hl _)) h0 h1, put_under (by rw [put_length]; exact lv_lt hl), put_put]
@[simp] theorem put_twice {m : MH} {l i : Nat} {o o' : MO} : put (put m l i o) l i o' = put m l i o' := put_put
/-- a body's k-th statement, the rest from it on -/
def nth {ι : Type} : S ι → Nat → S ι
  | .cons a _, 0 => a
  | .cons _ b, k + 1 => nth b k
  | s, _ => s
def from_ {ι : Type} : S ι → Nat → S ι
  | s, 0 => s
  | .cons _ b, k + 1 => from_ b k
  | s, _ => s
/-! ### the newest object of a frame -/
section
variable {fr : List MO} {r : MH} {xs : List D} {y : D} {o : MO}
theorem get_last : get ((fr ++ [o]) :: r) r.length fr.length = some o := by simp [get]
theorem isL_last : isL ((fr ++ [.lst xs]) :: r) (.ref r.length fr.length) = true := by simp [isL, get_last]
theorem put_last {o' : MO} : put ((fr ++ [o]) :: r) r.length fr.length o' = (fr ++ [o']) :: r := by simp [put]
theorem app_last (hb : y.bd (r.length + 1) = true) (hz : xs.length < 16777216) : append (.ref r.length fr.length) y ((fr ++ [.lst xs]) :: r) = .ok .non ((fr ++ [.lst (xs ++ [y])]) :: r) := by
  have : xs.length < sizeLine := by unfold sizeLine; omega
  simp [append, get_last, hb, this, put_last]
theorem alloc_ok (hb : o.bd (r.length + 1) = true) : alloc (fr :: r) o = .ok (.ref r.length fr.length) ((fr ++ [o]) :: r) := by simp [alloc, hb]
theorem dat_last : dat ((fr ++ [.lst xs]) :: r) (.ref r.length fr.length) = (pdL xs).map .list := by simp [dat, get_last]
end
/-- one of a display's items -/
theorem pick {xs : List D} {i : Int} (h0 : 0 ≤ i) (h1 : i < xs.length) : ∃ x, x ∈ xs ∧ ∀ m, getAt m (.lst xs) (.int i) = some x := by
  obtain ⟨k, rfl⟩ := Int.eq_ofNat_of_zero_le h0
  have hk : k < xs.length := by omega
  refine ⟨xs[k], List.getElem_mem hk, fun m => ?_⟩
  simp only [getAt, seqOf, Option.bind_some, place_nat hk]
  exact List.getElem?_eq_getElem hk
theorem Post.mk {α : Type} {r : Res α} {a : α} {m : MH} {ok : α → MH → Prop} {ex : Exc → MH → Prop} (h : r = .ok a m) (q : ok a m) : Post r ok ex := by rw [h]; exact q
end Fw

set_option Elab.async false
set_option linter.all false
set_option maxRecDepth 100000
set_option maxHeartbeats 2000000
set_option autoImplicit false
/-! ## Fw16: what may be shown; odd things -/
namespace Fw
open PySem
/-- data that may be shown: its kinds (a list in it, a dict in it), depth, room -/
def Nc (l c : Bool) (dep room : Nat) (x : D) : Prop := ∃ p, pd x = some p ∧ p.showable = true ∧ (l = false → noList p = true) ∧ (c = false → p.hasDict = false) ∧ p.depth ≤ dep ∧ roomOf p ≤ room
theorem pd_dat {x : D} {p : PyData} (h : pd x = some p) (m : MH) : dat m x = some p := by
  cases x with
  | ref => simp [pd] at h
  | _ => exact h
theorem Nc.repr {l c : Bool} {dep room : Nat} {x : D} (h : Nc l c dep room x) (hlc : (l && c) = false) (h1 : dep ≤ 60) (h2 : room ≤ 16777216) : ∃ s, ∀ m, reprD m x = some s := by
  obtain ⟨p, e, a1, a2, a3, a4, a5⟩ := h
  refine ⟨p.shown, fun m => reprD_of (pd_dat e m) a1 (fun q => ?_) (by omega) (by omega)⟩
  cases l with
  | false => exact a2 rfl
  | true =>
    cases c with
    | false => rw [a3 rfl] at q; cases q
    | true => cases hlc
theorem Nc.mono {l c l' c' : Bool} {dep room dep' room' : Nat} {x : D} (h : Nc l c dep room x) (hl : l = true → l' = true) (hc : c = true → c' = true) (h1 : dep ≤ dep') (h2 : room ≤ room') : Nc l' c' dep' room' x := by
  obtain ⟨p, e, a1, a2, a3, a4, a5⟩ := h
  refine ⟨p, e, a1, fun q => a2 ?_, fun q => a3 ?_, by omega, by omega⟩
  · cases l with
    | false => rfl
    | true => rw [hl rfl] at q; cases q
  · cases c with
    | false => rfl
    | true => rw [hc rfl] at q; cases q
theorem nc_int {i : Int} (h : i.natAbs < 2 ^ 1000) : Nc false false 0 1921 (.int i) := ⟨.int i, rfl, by
  have := log2_lt h (by omega)
  simp only [PyData.showable, decide_eq_true_eq]
  omega, fun _ => rfl, fun _ => rfl, Nat.le_refl _, Nat.le_refl _⟩
/-- items, all of them showable -/
def NcL (l c : Bool) (dep room : Nat) (xs : List D) : Prop := ∃ ps, pdL xs = some ps ∧ PyData.showableAll ps = true ∧ (l = false → noListAll ps = true) ∧ (c = false → PyData.hasDictAll ps = false) ∧ PyData.depthAll ps ≤ dep ∧ roomAll ps ≤ room
theorem ncl_nil : NcL false false 0 0 [] := ⟨[], rfl, rfl, fun _ => rfl, fun _ => rfl, Nat.le_refl _, Nat.le_refl _⟩
theorem Nc.cons {l c l' c' : Bool} {dep dep' room room' : Nat} {x : D} {xs : List D} (h : Nc l c dep room x) (t : NcL l' c' dep' room' xs) : NcL (l || l') (c || c') (max dep dep') (room + 2 + room') (x :: xs) := by
  obtain ⟨p, e, a1, a2, a3, a4, a5⟩ := h
  obtain ⟨ps, e', b1, b2, b3, b4, b5⟩ := t
  refine ⟨p :: ps, ?_, ?_, fun q => ?_, fun q => ?_, ?_, ?_⟩
  · simp only [pdL, e, e']
  · simp only [PyData.showableAll, a1, b1, Bool.and_self]
  · simp only [Bool.or_eq_false_iff] at q
    simp only [noListAll, a2 q.1, b2 q.2, Bool.and_self]
  · simp only [Bool.or_eq_false_iff] at q
    simp only [PyData.hasDictAll, a3 q.1, b3 q.2, Bool.or_self]
  · simp only [PyData.depthAll]; omega
  · simp only [roomAll]; omega
theorem NcL.tup {l c : Bool} {dep room : Nat} {xs : List D} (h : NcL l c dep room xs) : Nc l c (dep + 1) (room + 3) (.tup xs) := by
  obtain ⟨ps, e', b1, b2, b3, b4, b5⟩ := h
  refine ⟨.tuple ps, by simp only [pd, e', Option.map_some], by simpa only [PyData.showable] using b1, fun q => by simpa only [noList] using b2 q, fun q => by simpa only [PyData.hasDict] using b3 q, ?_, ?_⟩
  · simp only [PyData.depth]; omega
  · simp only [roomOf]; omega
theorem NcL.lst {l c : Bool} {dep room : Nat} {xs : List D} (h : NcL l c dep room xs) : Nc true c (dep + 1) (room + 3) (.lst xs) := by
  obtain ⟨ps, e', b1, b2, b3, b4, b5⟩ := h
  refine ⟨.list ps, by simp only [pd, e', Option.map_some], by simpa only [PyData.showable] using b1, fun q => (by cases q), fun q => (by simpa only [PyData.hasDict] using b3 q), ?_, ?_⟩
  · simp only [PyData.depth]; omega
  · simp only [roomOf]; omega

/-! ### odd things -/
def odds : List D := [.non, .bl true, .bl false, .int (-1), .int 100000000000, .str "", .str "a", .str "1", .tup [], .lst [], .dct [] [], .lst [.tup []], .tup [.tup []], .tup [.int 0], .lst [.int 0], .dct [0] [.int 1], .tup [.bl true, .bl true]]
def oddFn {ι : Type} (tk : ι) : Fn ι := ⟨1, 2, (.cons (.asg (.name 1) (.lst (.cons (.lit .non) (.cons (.lit (.bl true)) (.cons (.lit (.bl false)) (.cons (.neg (.lit (.int 1))) (.cons (.bin .pow (.lit (.int 10)) (.lit (.int 11))) (.cons (.lit (.str "")) (.cons (.lit (.str "a")) (.cons (.lit (.str "1")) (.cons (.tup .nil) (.cons (.lst .nil) (.cons (.dlit [] []) (.cons (.lst (.cons (.tup .nil) .nil)) (.cons (.tup (.cons (.tup .nil) .nil)) (.cons (.tup (.cons (.lit (.int 0)) .nil)) (.cons (.lst (.cons (.lit (.int 0)) .nil)) (.cons (.dlit [0] [1]) (.cons (.tup (.cons (.lit (.bl true)) (.cons (.lit (.bl true)) .nil))) .nil))))))))))))))))))) (.cons (.ret (.idx (.var 1) (.call tk (.cons (.var 0) (.cons (.bi .len (.cons (.var 1) .nil)) .nil))))) .nil))⟩
theorem odd_bd (n : Nat) : ∀ x ∈ odds, x.bd n = true := by
  intro x hx
  simp only [odds, List.mem_cons, List.not_mem_nil, or_false] at hx
  rcases hx with rfl | rfl | rfl | rfl | rfl | rfl | rfl | rfl | rfl | rfl | rfl | rfl | rfl | rfl | rfl | rfl | rfl <;> rfl
theorem odd_nc : ∀ x ∈ odds, Nc true false 3 8000 x ∨ Nc false true 3 8000 x := by
  intro x hx
  have z : Nc false false 0 1921 (.int 0) := nc_int (by decide)
  simp only [odds, List.mem_cons, List.not_mem_nil, or_false] at hx
  rcases hx with rfl | rfl | rfl | rfl | rfl | rfl | rfl | rfl | rfl | rfl | rfl | rfl | rfl | rfl | rfl | rfl | rfl
  all_goals first
    | exact .inl ⟨_, rfl, by decide, fun q => (by cases q), fun _ => rfl, by decide, by decide⟩
    | exact .inr ⟨_, rfl, by decide, fun q => rfl, fun q => (by cases q), by decide, by decide⟩
    | exact .inl ⟨_, rfl, by decide, fun q => (by cases q), fun _ => rfl, by decide, by decide +kernel⟩
theorem run_odd {ι : Type} {P : ι → Fn ι} {f tk : ι} (h : P f = oddFn tk) (ht : P tk = takeFn) (d : Nat) {m : MH} {l i : Nat} {n : Int} (hg : get m l i = some (.lst [.int n])) : ∃ x, x ∈ odds ∧ run P (d + 2) f [.ref l i] m = .ok x (put m l i (.lst [.int (n / 17)])) := by
  obtain ⟨x, hx, e⟩ := pick (xs := odds) (i := n % 17) (by omega) (by show n % 17 < ((17 : Nat) : Int); omega)
  refine ⟨x, hx, ?_⟩
  rw [run_s h rfl]
  have g1 := get_nil_cons hg
  have g2 := put_nil_cons (o' := .lst [.int (n / 17)]) hg
  have tk' := run_take ht d g1 (far := 17) (by omega) (by decide)
  have e' : ∀ m, getAt m (.lst [.non, .bl true, .bl false, .int (-1), .int 100000000000, .str "", .str "a", .str "1", .tup [], .lst [], .dct [] [], .lst [.tup []], .tup [.tup []], .tup [.int 0], .lst [.int 0], .dct [0] [.int 1], .tup [.bl true, .bl true]]) (.int (n % 17)) = some x := e
  have hb := odd_bd m.length x hx
  have hl : ∀ r : MH, leave x ([] :: r) = if x.bd r.length then .ok x r else .fail := fun r => by
    cases x with
    | ref => simp [odds] at hx
    | _ => rfl
  simp [built, lenD, seqOf, tk', e', g2, left, hl, put_length, hb]
end Fw

set_option Elab.async false
set_option linter.all false
set_option maxRecDepth 100000
set_option maxHeartbeats 2000000
set_option autoImplicit false
/-! ## Fw17: comprehensions over items; lists, tuples compared -/
namespace Fw
open PySem
theorem lc_map {tg : D → Env → Option Env} {c : Env → MH → Res Bool} {e : Env → MH → Res D} {v : Env} {m : MH} {g : D → D} {all : List D} : ∀ (k i : Nat) (xs : List D), all.drop i = xs → k = xs.length + 1 → (∀ x ∈ xs, ∃ v', tg x v = some v' ∧ c v' m = .ok true m ∧ e v' m = .ok (g x) m) → lcW tg c e v (.items all) k i m = .ok (xs.map g) m := by
  intro k
  induction k with
  | zero => intro i xs _ h; omega
  | succ k ih =>
    intro i xs hd hk hx
    cases xs with
    | nil =>
      have h0 : all[i]? = none := by
        rw [List.drop_eq_nil_iff] at hd
        exact List.getElem?_eq_none hd
      simp only [lcW, stepW, h0, List.map_nil]
    | cons x xs =>
      have h0 : all[i]? = some x := by
        have := List.getElem?_drop (xs := all) (i := i) (j := 0)
        rw [hd] at this
        simpa using this.symm
      have h1 : all.drop (i + 1) = xs := by
        have := List.drop_drop (i := 1) (j := i) (l := all)
        rw [hd] at this
        simpa [Nat.add_comm] using this.symm
      obtain ⟨v', e1, e2, e3⟩ := hx x List.mem_cons_self
      have q := ih (i + 1) xs h1 (by simpa using hk) (fun y hy => hx y (List.mem_cons_of_mem _ hy))
      simp only [lcW, stepW, h0, e1, e2, Res.bind_ok, if_true, e3, q, List.map_cons]
/-- a comprehension without a test over items -/
theorem e_map {ι : Type} {call : ι → List D → MH → Res D} {v : Env} {m : MH} {own : List (Str × Nat)} {t : Pt} {it c : E ι} {xs : List D} (g : D → D) (hl : xs.length ≤ 16777216) (h : (sem call it).w v m = .ok (.items xs) m)
    (hx : ∀ x ∈ xs, ∃ v', (ptg t).1 x (wipeE v (own.map (·.2))) = some v' ∧ (sem call c).e v' m = .ok (g x) m) : (sem call (.lc false own t it .nil c)).e v m = .ok (.lst (xs.map g)) m := by
  have hz : xs.length ≤ sizeLine := by unfold sizeLine; omega
  rw [e_lc, h]
  have q := lc_map (tg := (ptg t).1) (c := (sem call .nil).t) (e := (sem call c).e) (v := wipeE v (own.map (·.2))) (m := m) (g := g) (all := xs) (xs.length + 1) 0 xs rfl rfl (fun x hx' => by
    obtain ⟨v', e1, e2⟩ := hx x hx'
    exact ⟨v', e1, rfl, e2⟩)
  simp [lenW, hz, q]
theorem eqD_lst {m : MH} {xs ys : List D} {a b : PyData} (ha : pd (.lst xs) = some a) (hb : pd (.lst ys) = some b) (sa : SeqAt.shaped a = true) (sb : SeqAt.shaped b = true) : eqD m (.lst xs) (.lst ys) = some (PyData.eqv a b) := by
  have ha' : dat m (.lst xs) = some a := ha
  have hb' : dat m (.lst ys) = some b := hb
  simp [eqD, strs2, eqS, ha', hb', sa, sb]
theorem eqD_tup {m : MH} {xs ys : List D} {a b : PyData} (ha : pd (.tup xs) = some a) (hb : pd (.tup ys) = some b) (sa : SeqAt.shaped a = true) (sb : SeqAt.shaped b = true) : eqD m (.tup xs) (.tup ys) = some (PyData.eqv a b) := by
  have ha' : dat m (.tup xs) = some a := ha
  have hb' : dat m (.tup ys) = some b := hb
  simp [eqD, strs2, eqS, ha', hb', sa, sb]
theorem pd_dat' {m : MH} {x : D} {p : PyData} (h : pd x = some p) : dat m x = some p := pd_dat h m
theorem eqD_self {m : MH} {x : D} (h : (pd x).map SeqAt.shaped = some true) : eqD m x x = some true := by
  unfold eqD
  cases e : strs2 x x with
  | some k =>
    cases x with
    | str s => simp [strs2] at e; simp [← e]
    | _ => simp [strs2] at e
  | none =>
    simp only [eqS]
    cases e2 : pd x with
    | none => rw [e2] at h; cases h
    | some p =>
      rw [e2] at h
      simp only [Option.map_some, Option.some.injEq] at h
      have h' := h
      simp only [SeqAt.shaped, Bool.and_eq_true] at h'
      simp [pd_dat e2 m, h, SeqAt.eqv_refl p h'.1]
end Fw

set_option Elab.async false
set_option linter.all false
set_option maxRecDepth 100000
set_option maxHeartbeats 0
set_option autoImplicit false
namespace Law
open PySem PySem.Spec PyProof.Rows L2 Fw

inductive Id where
  | is_whole | common | is_fraction | need_fraction | plain_of | plain | added | multiplied | is_less | law_cell_at | law_pot | law_take | law_whole | law_odd | law_bent | law_heard | law_is_fraction | law_
  deriving DecidableEq
def b_is_whole : S Id := (.cons (.ret (.and (.isi (.var 0) .int) (.not (.isi (.var 0) .bool)))) .nil)
def c_is_whole : Fn Id := ⟨1, 1, b_is_whole⟩
def b_common : S Id := (.cons (.par 0 1 (.cons (.bi .abs (.cons (.var 0) .nil)) (.cons (.bi .abs (.cons (.var 1) .nil)) .nil))) (.cons (.whl (.cmp .gt (.var 1) (.lit (.int 0))) (.cons (.par 0 1 (.cons (.var 1) (.cons (.bin .mod (.var 0) (.var 1)) .nil))) .nil)) (.cons (.ret (.var 0)) .nil)))
def c_common : Fn Id := ⟨2, 2, b_common⟩
def b_is_fraction : S Id := (.cons (.ret (.and (.isi (.var 0) .tuple) (.and (.cmp .eq (.bi .len (.cons (.var 0) .nil)) (.lit (.int 2))) (.and (.call .is_whole (.cons (.idx (.var 0) (.lit (.int 0))) .nil)) (.and (.call .is_whole (.cons (.idx (.var 0) (.lit (.int 1))) .nil)) (.cmp .gt (.idx (.var 0) (.lit (.int 1))) (.lit (.int 0)))))))) .nil)
def c_is_fraction : Fn Id := ⟨1, 1, b_is_fraction⟩
def b_need_fraction : S Id := (.cons (.ifs (.not (.call .is_fraction (.cons (.var 0) .nil))) (.cons (.raise "NoFraction" ["NoFraction", "FadeError", "ValueError"]) .nil) .nil) .nil)
def c_need_fraction : Fn Id := ⟨1, 1, b_need_fraction⟩
def b_plain_of : S Id := (.cons (.asg (.name 2) (.call .common (.cons (.var 0) (.cons (.var 1) .nil)))) (.cons (.ret (.tup (.cons (.bin .fdiv (.var 0) (.var 2)) (.cons (.bin .fdiv (.var 1) (.var 2)) .nil)))) .nil))
def c_plain_of : Fn Id := ⟨2, 3, b_plain_of⟩
def b_plain : S Id := (.cons (.exp (.call .need_fraction (.cons (.var 0) .nil))) (.cons (.ret (.call .plain_of (.cons (.idx (.var 0) (.lit (.int 0))) (.cons (.idx (.var 0) (.lit (.int 1))) .nil)))) .nil))
def c_plain : Fn Id := ⟨1, 1, b_plain⟩
def b_added : S Id := (.cons (.exp (.call .need_fraction (.cons (.var 0) .nil))) (.cons (.exp (.call .need_fraction (.cons (.var 1) .nil))) (.cons (.ret (.call .plain_of (.cons (.bin .add (.bin .mul (.idx (.var 0) (.lit (.int 0))) (.idx (.var 1) (.lit (.int 1)))) (.bin .mul (.idx (.var 1) (.lit (.int 0))) (.idx (.var 0) (.lit (.int 1))))) (.cons (.bin .mul (.idx (.var 0) (.lit (.int 1))) (.idx (.var 1) (.lit (.int 1)))) .nil)))) .nil)))
def c_added : Fn Id := ⟨2, 2, b_added⟩
def b_multiplied : S Id := (.cons (.exp (.call .need_fraction (.cons (.var 0) .nil))) (.cons (.exp (.call .need_fraction (.cons (.var 1) .nil))) (.cons (.ret (.call .plain_of (.cons (.bin .mul (.idx (.var 0) (.lit (.int 0))) (.idx (.var 1) (.lit (.int 0)))) (.cons (.bin .mul (.idx (.var 0) (.lit (.int 1))) (.idx (.var 1) (.lit (.int 1)))) .nil)))) .nil)))
def c_multiplied : Fn Id := ⟨2, 2, b_multiplied⟩
def b_is_less : S Id := (.cons (.exp (.call .need_fraction (.cons (.var 0) .nil))) (.cons (.exp (.call .need_fraction (.cons (.var 1) .nil))) (.cons (.ret (.cmp .lt (.bin .mul (.idx (.var 0) (.lit (.int 0))) (.idx (.var 1) (.lit (.int 1)))) (.bin .mul (.idx (.var 1) (.lit (.int 0))) (.idx (.var 0) (.lit (.int 1)))))) .nil)))
def c_is_less : Fn Id := ⟨2, 2, b_is_less⟩
def b_law_cell_at : S Id := (.cons (.ifs (.cmp .lt (.var 1) (.bi .len (.cons (.var 0) .nil))) (.cons (.ret (.idx (.var 0) (.var 1))) .nil) .nil) (.cons (.ret (.lit (.int 0))) .nil))
def c_law_cell_at : Fn Id := ⟨2, 2, b_law_cell_at⟩
def b_law_pot : S Id := (.cons (.ifs (.cmp .ge (.var 0) (.bin .pow (.lit (.int 10)) (.lit (.int 18)))) (.cons (.ret (.new (.cons (.bin .sub (.var 0) (.bin .pow (.lit (.int 10)) (.lit (.int 18)))) .nil))) .nil) .nil) (.cons (.asg (.name 1) (.lit (.int 0))) (.cons (.for_ (.name 2) (.rng1 (.lit (.int 64))) (.cons (.asg (.name 3) (.bin .mod (.bin .mul (.bin .add (.bin .add (.bin .mod (.var 0) (.lit (.int 2147483629))) (.bin .mul (.lit (.int 7919)) (.var 2))) (.lit (.int 1))) (.lit (.int 48271))) (.lit (.int 2147483647)))) (.cons (.asg (.name 3) (.bin .mod (.bin .add (.bin .add (.bin .mul (.var 3) (.var 3)) (.bin .mul (.lit (.int 69621)) (.var 2))) (.lit (.int 7))) (.lit (.int 2147483587)))) (.cons (.asg (.name 1) (.bin .add (.bin .mul (.var 1) (.lit (.int 2147483587))) (.var 3))) .nil)))) (.cons (.ret (.new (.cons (.var 1) .nil))) .nil))))
def c_law_pot : Fn Id := ⟨1, 4, b_law_pot⟩
def b_law_take : S Id := (.cons (.asg (.name 2) (.bin .mod (.idx (.var 0) (.lit (.int 0))) (.var 1))) (.cons (.asg (.sub (.var 0) (.lit (.int 0))) (.bin .fdiv (.idx (.var 0) (.lit (.int 0))) (.var 1))) (.cons (.ret (.var 2)) .nil)))
def c_law_take : Fn Id := ⟨2, 3, b_law_take⟩
def b_law_whole : S Id := (.cons (.ret (.and (.isi (.var 0) .int) (.not (.isi (.var 0) .bool)))) .nil)
def c_law_whole : Fn Id := ⟨1, 1, b_law_whole⟩
def b_law_odd : S Id := (.cons (.asg (.name 1) (.lst (.cons (.lit .non) (.cons (.lit (.bl true)) (.cons (.lit (.bl false)) (.cons (.neg (.lit (.int 1))) (.cons (.bin .pow (.lit (.int 10)) (.lit (.int 11))) (.cons (.lit (.str "")) (.cons (.lit (.str "a")) (.cons (.lit (.str "1")) (.cons (.tup .nil) (.cons (.lst .nil) (.cons (.dlit [] []) (.cons (.lst (.cons (.tup .nil) .nil)) (.cons (.tup (.cons (.tup .nil) .nil)) (.cons (.tup (.cons (.lit (.int 0)) .nil)) (.cons (.lst (.cons (.lit (.int 0)) .nil)) (.cons (.dlit [0] [1]) (.cons (.tup (.cons (.lit (.bl true)) (.cons (.lit (.bl true)) .nil))) .nil))))))))))))))))))) (.cons (.ret (.idx (.var 1) (.call .law_take (.cons (.var 0) (.cons (.bi .len (.cons (.var 1) .nil)) .nil))))) .nil))
def c_law_odd : Fn Id := ⟨1, 2, b_law_odd⟩
def b_law_bent : S Id := (.cons (.ifs (.not (.isi (.var 1) .tuple)) (.cons (.ifs (.and (.call .law_whole (.cons (.var 1) .nil)) (.cmp .gt (.call .law_take (.cons (.var 0) (.cons (.lit (.int 3)) .nil))) (.lit (.int 0)))) (.cons (.ret (.bin .add (.var 1) (.idx (.lst (.cons (.lit (.int 1)) (.cons (.neg (.lit (.int 1))) (.cons (.lit (.int 9)) (.cons (.lit (.int 100)) (.cons (.lit (.int 9999)) (.cons (.neg (.bin .pow (.lit (.int 10)) (.lit (.int 4)))) .nil))))))) (.call .law_take (.cons (.var 0) (.cons (.lit (.int 6)) .nil)))))) .nil) .nil) (.cons (.ret (.call .law_odd (.cons (.var 0) .nil))) .nil)) .nil) (.cons (.asg (.name 2) (.call .law_take (.cons (.var 0) (.cons (.lit (.int 12)) .nil)))) (.cons (.ifs (.or (.cmp .eq (.var 2) (.lit (.int 0))) (.cmp .eq (.var 1) (.tup .nil))) (.cons (.ret (.idx (.lst (.cons (.call .law_odd (.cons (.var 0) .nil)) (.cons (.bi .list (.cons (.var 1) .nil)) (.cons (.bin .add (.var 1) (.tup (.cons (.call .law_odd (.cons (.var 0) .nil)) .nil))) (.cons (.bin .add (.var 1) (.sl (.var 1) (.neg (.lit (.int 1))) .nil)) .nil))))) (.call .law_take (.cons (.var 0) (.cons (.lit (.int 4)) .nil))))) .nil) .nil) (.cons (.asg (.name 3) (.call .law_take (.cons (.var 0) (.cons (.bi .len (.cons (.var 1) .nil)) .nil)))) (.cons (.ifs (.cmp .eq (.var 2) (.lit (.int 1))) (.cons (.ret (.bin .add (.sl (.var 1) .nil (.var 3)) (.sl (.var 1) (.bin .add (.var 3) (.lit (.int 1))) .nil))) .nil) .nil) (.cons (.ifs (.cmp .eq (.var 2) (.lit (.int 2))) (.cons (.ret (.bin .add (.bin .add (.sl (.var 1) .nil (.var 3)) (.sl (.var 1) (.var 3) (.bin .add (.var 3) (.lit (.int 1))))) (.sl (.var 1) (.var 3) .nil))) .nil) .nil) (.cons (.ret (.bin .add (.bin .add (.sl (.var 1) .nil (.var 3)) (.tup (.cons (.call .law_bent (.cons (.var 0) (.cons (.idx (.var 1) (.var 3)) .nil))) .nil))) (.sl (.var 1) (.bin .add (.var 3) (.lit (.int 1))) .nil))) .nil)))))))
def c_law_bent : Fn Id := ⟨2, 4, b_law_bent⟩
def b_law_heard : S Id := (.cons (.tryE "FadeError" 3 (.cons (.ifs (.cmp .eq (.var 0) (.lit (.int 0))) (.cons (.exp (.call .plain (.cons (.var 1) .nil))) .nil) (.cons (.ifs (.cmp .eq (.var 0) (.lit (.int 1))) (.cons (.exp (.call .added (.cons (.var 1) (.cons (.var 2) .nil)))) .nil) (.cons (.ifs (.cmp .eq (.var 0) (.lit (.int 2))) (.cons (.exp (.call .multiplied (.cons (.var 1) (.cons (.var 2) .nil)))) .nil) (.cons (.exp (.call .is_less (.cons (.var 1) (.cons (.var 2) .nil)))) .nil)) .nil)) .nil)) .nil) (.cons (.ifs (.or (.not (.isE (.var 3) "ValueError")) (.or (.isE (.var 3) "NoBound") (.isE (.var 3) "NoLot"))) (.cons (.ret (.lit (.str "other"))) .nil) .nil) (.cons (.ret (.ite (.isE (.var 3) "NoFraction") (.lit (.str "none")) (.lit (.str "other")))) .nil))) (.cons (.ret (.lit (.str ""))) .nil))
def c_law_heard : Fn Id := ⟨3, 4, b_law_heard⟩
def b_law_is_fraction : S Id := (.cons (.ifs (.or (.not (.isi (.var 0) .tuple)) (.cmp .ne (.bi .len (.cons (.var 0) .nil)) (.lit (.int 2)))) (.cons (.ret (.lit (.bl false))) .nil) .nil) (.cons (.ret (.and (.call .law_whole (.cons (.idx (.var 0) (.lit (.int 0))) .nil)) (.and (.call .law_whole (.cons (.idx (.var 0) (.lit (.int 1))) .nil)) (.cmp .ge (.idx (.var 0) (.lit (.int 1))) (.lit (.int 1)))))) .nil))
def c_law_is_fraction : Fn Id := ⟨1, 1, b_law_is_fraction⟩
def b_law_ : S Id := (.cons (.for_ (.name 1) (.rng1 (.bi .max (.cons (.lit (.int 1)) (.cons (.bi .min (.cons (.bi .len (.cons (.var 0) .nil)) (.cons (.lit (.int 4)) .nil))) .nil)))) (.cons (.asg (.name 2) (.call .law_pot (.cons (.call .law_cell_at (.cons (.var 0) (.cons (.var 1) .nil))) .nil))) (.cons (.asg (.name 3) (.tup (.cons (.bin .sub (.call .law_take (.cons (.var 2) (.cons (.lit (.int 99)) .nil))) (.lit (.int 20))) (.cons (.bin .add (.lit (.int 1)) (.call .law_take (.cons (.var 2) (.cons (.lit (.int 99)) .nil)))) .nil)))) (.cons (.asg (.name 4) (.lst (.cons (.var 3) (.cons (.tup (.cons (.idx (.var 3) (.lit (.int 0))) (.cons (.lit (.int 0)) .nil))) (.cons (.tup (.cons (.idx (.var 3) (.lit (.int 0))) (.cons (.bin .sub (.lit (.int 0)) (.idx (.var 3) (.lit (.int 1)))) .nil))) (.cons (.tup (.cons (.lit (.bl true)) (.cons (.lit (.int 1)) .nil))) (.cons (.tup (.cons (.lit (.int 0)) (.cons (.lit (.bl true)) .nil))) (.cons (.bi .list (.cons (.var 3) .nil)) (.cons (.bin .add (.var 3) (.tup (.cons (.lit (.int 1)) .nil))) (.cons (.tup (.cons (.lit (.int 1)) .nil)) .nil)))))))))) (.cons (.for_ (.name 5) (.rng1 (.lit (.int 5))) (.cons (.asg (.name 4) (.bin .add (.var 4) (.lst (.cons (.call .law_bent (.cons (.var 2) (.cons (.var 3) .nil))) (.cons (.call .law_odd (.cons (.var 2) .nil)) (.cons (.tup (.cons (.call .law_odd (.cons (.var 2) .nil)) (.cons (.lit (.int 2)) .nil))) (.cons (.tup (.cons (.lit (.int 2)) (.cons (.call .law_odd (.cons (.var 2) .nil)) .nil))) .nil))))))) .nil)) (.cons (.for_ (.name 6) (.bin .add (.var 4) (.lst (.cons (.lit .non) (.cons (.lit (.str "1/2")) (.cons (.tup (.cons (.lit (.int 1)) (.cons (.lit .non) .nil))) (.cons (.tup (.cons (.lit (.str "1")) (.cons (.lit (.int 2)) .nil))) (.cons (.tup (.cons (.tup (.cons (.lit (.int 1)) (.cons (.lit (.int 2)) .nil))) (.cons (.lit (.int 1)) .nil))) (.cons (.dlit [1] [2]) (.cons (.lit (.int 3)) .nil))))))))) (.cons (.par 7 8 (.cons (.bi .repr (.cons (.var 6) .nil)) (.cons (.call .law_is_fraction (.cons (.var 6) .nil)) .nil))) (.cons (.ifs (.cmp .ne (.bi .repr (.cons (.call .is_fraction (.cons (.var 6) .nil)) .nil)) (.bi .repr (.cons (.var 8) .nil))) (.cons (.ret (.lit (.bl false))) .nil) .nil) (.cons (.ifs (.cmp .ne (.lc false [("_law_way", 9)] (.name 9) (.rng1 (.lit (.int 4))) .nil (.call .law_heard (.cons (.var 9) (.cons (.var 6) (.cons (.var 3) .nil))))) (.bin .mul (.lst (.cons (.idx (.lst (.cons (.lit (.str "none")) (.cons (.lit (.str "")) .nil))) (.bi .int (.cons (.var 8) .nil))) .nil)) (.lit (.int 4)))) (.cons (.ret (.lit (.bl false))) .nil) .nil) (.cons (.ifs (.cmp .ne (.lc false [("_law_way", 9)] (.name 9) (.rng2 (.lit (.int 1)) (.lit (.int 4))) .nil (.call .law_heard (.cons (.var 9) (.cons (.var 3) (.cons (.var 6) .nil))))) (.bin .mul (.lst (.cons (.idx (.lst (.cons (.lit (.str "none")) (.cons (.lit (.str "")) .nil))) (.bi .int (.cons (.var 8) .nil))) .nil)) (.lit (.int 3)))) (.cons (.ret (.lit (.bl false))) .nil) .nil) (.cons (.ifs (.or (.cmp .ne (.call .law_heard (.cons (.lit (.int 1)) (.cons (.lit .non) (.cons (.var 6) .nil)))) (.lit (.str "none"))) (.cmp .ne (.bi .repr (.cons (.var 6) .nil)) (.var 7))) (.cons (.ret (.lit (.bl false))) .nil) .nil) .nil)))))) .nil)))))) (.cons (.ret (.lit (.bl true))) .nil))
def c_law_ : Fn Id := ⟨1, 10, b_law_⟩
def Pr : Id → Fn Id
  | .is_whole => c_is_whole
  | .common => c_common
  | .is_fraction => c_is_fraction
  | .need_fraction => c_need_fraction
  | .plain_of => c_plain_of
  | .plain => c_plain
  | .added => c_added
  | .multiplied => c_multiplied
  | .is_less => c_is_less
  | .law_cell_at => c_law_cell_at
  | .law_pot => c_law_pot
  | .law_take => c_law_take
  | .law_whole => c_law_whole
  | .law_odd => c_law_odd
  | .law_bent => c_law_bent
  | .law_heard => c_law_heard
  | .law_is_fraction => c_law_is_fraction
  | .law_ => c_law_
theorem R_is_whole (d : Nat) (x0 : D) (m : MH) : run Pr (d + 1) .is_whole [x0] m = left (exec (run Pr d) b_is_whole [some x0] ([] :: m)) := rfl
theorem R_common (d : Nat) (x0 x1 : D) (m : MH) : run Pr (d + 1) .common [x0, x1] m = left (exec (run Pr d) b_common [some x0, some x1] ([] :: m)) := rfl
theorem R_is_fraction (d : Nat) (x0 : D) (m : MH) : run Pr (d + 1) .is_fraction [x0] m = left (exec (run Pr d) b_is_fraction [some x0] ([] :: m)) := rfl
theorem R_need_fraction (d : Nat) (x0 : D) (m : MH) : run Pr (d + 1) .need_fraction [x0] m = left (exec (run Pr d) b_need_fraction [some x0] ([] :: m)) := rfl
theorem R_plain_of (d : Nat) (x0 x1 : D) (m : MH) : run Pr (d + 1) .plain_of [x0, x1] m = left (exec (run Pr d) b_plain_of [some x0, some x1, none] ([] :: m)) := rfl
theorem R_plain (d : Nat) (x0 : D) (m : MH) : run Pr (d + 1) .plain [x0] m = left (exec (run Pr d) b_plain [some x0] ([] :: m)) := rfl
theorem R_added (d : Nat) (x0 x1 : D) (m : MH) : run Pr (d + 1) .added [x0, x1] m = left (exec (run Pr d) b_added [some x0, some x1] ([] :: m)) := rfl
theorem R_multiplied (d : Nat) (x0 x1 : D) (m : MH) : run Pr (d + 1) .multiplied [x0, x1] m = left (exec (run Pr d) b_multiplied [some x0, some x1] ([] :: m)) := rfl
theorem R_is_less (d : Nat) (x0 x1 : D) (m : MH) : run Pr (d + 1) .is_less [x0, x1] m = left (exec (run Pr d) b_is_less [some x0, some x1] ([] :: m)) := rfl
theorem R_law_cell_at (d : Nat) (x0 x1 : D) (m : MH) : run Pr (d + 1) .law_cell_at [x0, x1] m = left (exec (run Pr d) b_law_cell_at [some x0, some x1] ([] :: m)) := rfl
theorem R_law_pot (d : Nat) (x0 : D) (m : MH) : run Pr (d + 1) .law_pot [x0] m = left (exec (run Pr d) b_law_pot [some x0, none, none, none] ([] :: m)) := rfl
theorem R_law_take (d : Nat) (x0 x1 : D) (m : MH) : run Pr (d + 1) .law_take [x0, x1] m = left (exec (run Pr d) b_law_take [some x0, some x1, none] ([] :: m)) := rfl
theorem R_law_whole (d : Nat) (x0 : D) (m : MH) : run Pr (d + 1) .law_whole [x0] m = left (exec (run Pr d) b_law_whole [some x0] ([] :: m)) := rfl
theorem R_law_odd (d : Nat) (x0 : D) (m : MH) : run Pr (d + 1) .law_odd [x0] m = left (exec (run Pr d) b_law_odd [some x0, none] ([] :: m)) := rfl
theorem R_law_bent (d : Nat) (x0 x1 : D) (m : MH) : run Pr (d + 1) .law_bent [x0, x1] m = left (exec (run Pr d) b_law_bent [some x0, some x1, none, none] ([] :: m)) := rfl
theorem R_law_heard (d : Nat) (x0 x1 x2 : D) (m : MH) : run Pr (d + 1) .law_heard [x0, x1, x2] m = left (exec (run Pr d) b_law_heard [some x0, some x1, some x2, none] ([] :: m)) := rfl
theorem R_law_is_fraction (d : Nat) (x0 : D) (m : MH) : run Pr (d + 1) .law_is_fraction [x0] m = left (exec (run Pr d) b_law_is_fraction [some x0] ([] :: m)) := rfl
theorem R_law_ (d : Nat) (x0 : D) (m : MH) : run Pr (d + 1) .law_ [x0] m = left (exec (run Pr d) b_law_ [some x0, none, none, none, none, none, none, none, none, none] ([] :: m)) := rfl
def top (i : Nat) : PySem.Stmt := PySem.Challenge.pw_fadewalk_k02_fractions_refused.main.body.getD i (.Pass ⟨0, 0, 0, 0⟩)
def nmOf : Id → PySem.Str
  | .is_whole => "is_whole"
  | .common => "common"
  | .is_fraction => "is_fraction"
  | .need_fraction => "need_fraction"
  | .plain_of => "plain_of"
  | .plain => "plain"
  | .added => "added"
  | .multiplied => "multiplied"
  | .is_less => "is_less"
  | .law_cell_at => "_law_cell_at"
  | .law_pot => "_law_pot"
  | .law_take => "_law_take"
  | .law_whole => "_law_whole"
  | .law_odd => "_law_odd"
  | .law_bent => "_law_bent"
  | .law_heard => "_law_heard"
  | .law_is_fraction => "_law_is_fraction"
  | .law_ => "law"
def namesOf : Id → List PySem.Str
  | .is_whole => ["thing"]
  | .common => ["one", "other"]
  | .is_fraction => ["thing"]
  | .need_fraction => ["thing"]
  | .plain_of => ["above", "below", "by"]
  | .plain => ["fraction"]
  | .added => ["one", "other"]
  | .multiplied => ["one", "other"]
  | .is_less => ["one", "other"]
  | .law_cell_at => ["_law_script", "_law_k"]
  | .law_pot => ["_law_cell", "_law_number", "_law_j", "_law_more"]
  | .law_take => ["_law_pot_here", "_law_far", "_law_found"]
  | .law_whole => ["_law_thing"]
  | .law_odd => ["_law_pot_here", "_law_some"]
  | .law_bent => ["_law_pot_here", "_law_thing", "_law_way", "_law_at"]
  | .law_heard => ["_law_way", "_law_one", "_law_other", "e"]
  | .law_is_fraction => ["_law_thing"]
  | .law_ => ["_law_script", "_law_k", "_law_pot_here", "_law_right", "_law_things", "_law_turn", "_law_thing", "_law_kept", "_law_good", "_law_way"]
def parsOf : Id → List PySem.Str
  | .is_whole => ["thing"]
  | .common => ["one", "other"]
  | .is_fraction => ["thing"]
  | .need_fraction => ["thing"]
  | .plain_of => ["above", "below"]
  | .plain => ["fraction"]
  | .added => ["one", "other"]
  | .multiplied => ["one", "other"]
  | .is_less => ["one", "other"]
  | .law_cell_at => ["_law_script", "_law_k"]
  | .law_pot => ["_law_cell"]
  | .law_take => ["_law_pot_here", "_law_far"]
  | .law_whole => ["_law_thing"]
  | .law_odd => ["_law_pot_here"]
  | .law_bent => ["_law_pot_here", "_law_thing"]
  | .law_heard => ["_law_way", "_law_one", "_law_other"]
  | .law_is_fraction => ["_law_thing"]
  | .law_ => ["_law_script"]
def topOf : Id → PySem.Stmt
  | .is_whole => top 6
  | .common => top 7
  | .is_fraction => top 8
  | .need_fraction => top 9
  | .plain_of => top 10
  | .plain => top 11
  | .added => top 12
  | .multiplied => top 13
  | .is_less => top 14
  | .law_cell_at => top 16
  | .law_pot => top 17
  | .law_take => top 18
  | .law_whole => top 19
  | .law_odd => top 20
  | .law_bent => top 21
  | .law_heard => top 22
  | .law_is_fraction => top 23
  | .law_ => top 24
def prg : Prg Id := ⟨Pr, nmOf, namesOf, parsOf, fun i => ⟨(nmOf i, none), nmOf i, nmOf i, L2.defArgs (topOf i), L2.defBody (topOf i), L2.defScope (topOf i), [], []⟩, [("FadeError", ["FadeError", "ValueError"]), ("NoFraction", ["NoFraction", "FadeError", "ValueError"]), ("NoLot", ["NoLot", "FadeError", "ValueError"]), ("NoBound", ["NoBound", "FadeError", "ValueError"])], []⟩
theorem cl_ok : prg.cl = clsOf PySem.Challenge.pw_fadewalk_k02_fractions_refused := by decide +kernel
theorem prg_ok : ∀ f, prg.ok f = true := by intro f; cases f <;> decide +kernel
def fas : List He.Fa := [.glo "is_whole", .glo "common", .glo "is_fraction", .glo "need_fraction", .glo "plain_of", .glo "plain", .glo "added", .glo "multiplied", .glo "is_less", .glo "_law_cell_at", .glo "_law_pot", .glo "_law_take", .glo "_law_whole", .glo "_law_odd", .glo "_law_bent", .glo "_law_heard", .glo "_law_is_fraction", .glo "law", .free "len", .free "abs", .free "min", .free "max", .free "repr", .free "sum", .free "all", .free "any", .free "tuple", .free "list", .free "sorted", .free "isinstance", .free "range", .free "int", .free "bool", .free "str", .free "enumerate", .free "zip", .free "ValueError"]
def fns : List He.DefD := [prg.dd .is_whole, prg.dd .common, prg.dd .is_fraction, prg.dd .need_fraction, prg.dd .plain_of, prg.dd .plain, prg.dd .added, prg.dd .multiplied, prg.dd .is_less, prg.dd .law_cell_at, prg.dd .law_pot, prg.dd .law_take, prg.dd .law_whole, prg.dd .law_odd, prg.dd .law_bent, prg.dd .law_heard, prg.dd .law_is_fraction, prg.dd .law_]
def ixOf : Id → Nat
  | .is_whole => 0
  | .common => 1
  | .is_fraction => 2
  | .need_fraction => 3
  | .plain_of => 4
  | .plain => 5
  | .added => 6
  | .multiplied => 7
  | .is_less => 8
  | .law_cell_at => 9
  | .law_pot => 10
  | .law_take => 11
  | .law_whole => 12
  | .law_odd => 13
  | .law_bent => 14
  | .law_heard => 15
  | .law_is_fraction => 16
  | .law_ => 17
abbrev R : PySem.W.OpenRow := PySem.W.OpenLaw.row PySem.Challenge.rw_fadewalk_k02_fractions_refused
abbrev hk : PySem.W.Hook := hookF 4 fas fns prg.cl
def ob (s : PySem.W.SharedT) : AlF := obsF 4 fas fns prg.cl (HandSHeadRun.getT s)
theorem ob_eq (s : PySem.W.SharedT) : ob s = hk.obs s.abs := obsF_eq (HandSHeadRun.getT_eq s)
theorem run_eq (w : World) : HandSHeadRun.RunEq R (PySem.W.view R.prog [24]) hk ob 4000 ["FadeError", "NoFraction", "NoLot", "NoBound", "is_whole", "common", "is_fraction", "need_fraction", "plain_of", "plain", "added", "multiplied", "is_less", "_law_cell_at", "_law_pot", "_law_take", "_law_whole", "_law_odd", "_law_bent", "_law_heard", "_law_is_fraction"] w := by
  intro os
  kernel_rfl
theorem bind_ok {K : PySem.W.Frag} : ∀ f fd a, FunD K (prg.dd f).name (prg.dd f).qual (prg.dd f).params (prg.dd f).body (prg.dd f).scope [] [] a fd → Binds K fd (prg.ps f) []
  | .is_whole, fd, a, F => FunD.bindsN (ps := ["thing"]) F fun _ _ _ _ _ _ us hl => match us, hl with | [_], _ => rfl
  | .common, fd, a, F => FunD.bindsN (ps := ["one", "other"]) F fun _ _ _ _ _ _ us hl => match us, hl with | [_, _], _ => rfl
  | .is_fraction, fd, a, F => FunD.bindsN (ps := ["thing"]) F fun _ _ _ _ _ _ us hl => match us, hl with | [_], _ => rfl
  | .need_fraction, fd, a, F => FunD.bindsN (ps := ["thing"]) F fun _ _ _ _ _ _ us hl => match us, hl with | [_], _ => rfl
  | .plain_of, fd, a, F => FunD.bindsN (ps := ["above", "below"]) F fun _ _ _ _ _ _ us hl => match us, hl with | [_, _], _ => rfl
  | .plain, fd, a, F => FunD.bindsN (ps := ["fraction"]) F fun _ _ _ _ _ _ us hl => match us, hl with | [_], _ => rfl
  | .added, fd, a, F => FunD.bindsN (ps := ["one", "other"]) F fun _ _ _ _ _ _ us hl => match us, hl with | [_, _], _ => rfl
  | .multiplied, fd, a, F => FunD.bindsN (ps := ["one", "other"]) F fun _ _ _ _ _ _ us hl => match us, hl with | [_, _], _ => rfl
  | .is_less, fd, a, F => FunD.bindsN (ps := ["one", "other"]) F fun _ _ _ _ _ _ us hl => match us, hl with | [_, _], _ => rfl
  | .law_cell_at, fd, a, F => FunD.bindsN (ps := ["_law_script", "_law_k"]) F fun _ _ _ _ _ _ us hl => match us, hl with | [_, _], _ => rfl
  | .law_pot, fd, a, F => FunD.bindsN (ps := ["_law_cell"]) F fun _ _ _ _ _ _ us hl => match us, hl with | [_], _ => rfl
  | .law_take, fd, a, F => FunD.bindsN (ps := ["_law_pot_here", "_law_far"]) F fun _ _ _ _ _ _ us hl => match us, hl with | [_, _], _ => rfl
  | .law_whole, fd, a, F => FunD.bindsN (ps := ["_law_thing"]) F fun _ _ _ _ _ _ us hl => match us, hl with | [_], _ => rfl
  | .law_odd, fd, a, F => FunD.bindsN (ps := ["_law_pot_here"]) F fun _ _ _ _ _ _ us hl => match us, hl with | [_], _ => rfl
  | .law_bent, fd, a, F => FunD.bindsN (ps := ["_law_pot_here", "_law_thing"]) F fun _ _ _ _ _ _ us hl => match us, hl with | [_, _], _ => rfl
  | .law_heard, fd, a, F => FunD.bindsN (ps := ["_law_way", "_law_one", "_law_other"]) F fun _ _ _ _ _ _ us hl => match us, hl with | [_, _, _], _ => rfl
  | .law_is_fraction, fd, a, F => FunD.bindsN (ps := ["_law_thing"]) F fun _ _ _ _ _ _ us hl => match us, hl with | [_], _ => rfl
  | .law_, fd, a, F => FunD.bindsN (ps := ["_law_script"]) F fun _ _ _ _ _ _ us hl => match us, hl with | [_], _ => rfl
theorem at_ok : ∀ f, (prg.dd f).at_ = (prg.nm f, none) := by intro f; cases f <;> rfl
noncomputable def laid {K : PySem.W.Frag} {h : Heap} {mg : Str → Option Value} (X : K.In h) (G : h.Ns mainGlobals mg) (c : He.SaysD fas fns K) (cx : clsChk prg.cl K = true) : Laid prg K mg :=
  laid_of X G c ixOf (by intro f; cases f <;> rfl) (by intro f; cases f <;> rfl) at_ok (by intro f; exact ⟨rfl, rfl⟩) (by intro x hx; simp only [freeNames, List.mem_cons, List.not_mem_nil, or_false] at hx; rcases hx with rfl | rfl | rfl | rfl | rfl | rfl | rfl | rfl | rfl | rfl | rfl | rfl | rfl | rfl | rfl | rfl | rfl | rfl | rfl <;> simp [fas]) (by intro q hq; simp [prg] at hq) cx bind_ok
end Law

set_option Elab.async false
set_option linter.all false
set_option maxRecDepth 100000
set_option maxHeartbeats 2000000
set_option autoImplicit false
namespace Law
open PySem Fw
abbrev pr (a b : Int) : D := .tup [.int a, .int b]
def Small (a b : Int) : Prop := 0 < b ∧ b < 2 ^ 60 ∧ -(2 ^ 60) < a ∧ a < 2 ^ 60
def pl (a b : Int) : D := pr (a / Int.gcd a b) (b / Int.gcd a b)
theorem getAt0 {m : MH} {x y : D} : getAt m (.tup [x, y]) (.int 0) = some x := rfl
theorem getAt1 {m : MH} {x y : D} : getAt m (.tup [x, y]) (.int 1) = some y := rfl
theorem log_of {i : Int} (h1 : -(2 ^ 130) < i) (h2 : i < 2 ^ 130) : i.natAbs.log2 < 130 := log2_lt (by
  have : ((2 ^ 130 : Nat) : Int) = (2 : Int) ^ 130 := by simp
  omega) (by omega)
theorem mul2 {m : MH} {i j : Int} (h1 : -(2 ^ 130) < i) (h2 : i < 2 ^ 130) (h3 : -(2 ^ 130) < j) (h4 : j < 2 ^ 130) : arith .mul (.int i) (.int j) m = .ok (.int (i * j)) m := mul_int (by
  have := log_of h1 h2
  have := log_of h3 h4
  omega)
/-- a fraction? -/
def isFrac : D → Bool
  | .tup [.int _, .int b] => decide (0 < b)
  | _ => false
/-- what a thing may be -/
def Th (x : D) : Prop := (∃ s, ∀ m, reprD m x = some s) ∧ x.bd 0 = true ∧ (∀ m, tyKnown m x = true) ∧ ∀ a b, x = pr a b → Small a b ∨ ¬ 0 < b
theorem bd_known {x : D} (h : x.bd 0 = true) (m : MH) : tyKnown m x = true := by
  cases x with
  | ref l i => simp [D.bd] at h
  | exc => simp [D.bd] at h
  | _ => rfl
theorem bdL_mem {n : Nat} : ∀ {xs : List D} {x : D}, bdL n xs = true → x ∈ xs → x.bd n = true
  | y :: ys, x, h, hx => by
    unfold bdL at h
    simp only [Bool.and_eq_true] at h
    rcases List.mem_cons.mp hx with rfl | hx
    · exact h.1
    · exact bdL_mem h.2 hx
theorem not_tup {x : D} (h : x.bd 0 = true) (ht : ∀ xs, x ≠ .tup xs) (m : MH) : isTy m .tuple x = false := by
  cases x with
  | tup xs => exact absurd rfl (ht xs)
  | _ => rfl
theorem r_whole (d : Nat) {x : D} (h : x.bd 0 = true) (m : MH) : run Pr (d + 1) .is_whole [x] m = .ok (.bl (isInt x)) m := run_whole (P := Pr) (f := .is_whole) rfl d x m (bd_known h _)
theorem r_lwhole (d : Nat) {x : D} (h : x.bd 0 = true) (m : MH) : run Pr (d + 1) .law_whole [x] m = .ok (.bl (isInt x)) m := run_whole (P := Pr) (f := .law_whole) rfl d x m (bd_known h _)
theorem isInt_of {x : D} (h : isInt x = true) : ∃ i, x = .int i := by
  cases x <;> first | exact ⟨_, rfl⟩ | cases h
theorem frac_two {x y : D} : isFrac (.tup [x, y]) = (isInt x && (isInt y && (match y with | .int b => decide (0 < b) | _ => false))) := by
  cases x <;> cases y <;> rfl
theorem frac_else {xs : List D} (h : xs.length ≠ 2) : isFrac (.tup xs) = false := by
  match xs, h with
  | [], _ => rfl
  | [x], _ => cases x <;> rfl
  | [_, _], h => exact absurd rfl h
  | _ :: _ :: _ :: _, _ => simp [isFrac]
theorem frac_not {x : D} (h : ∀ xs, x ≠ .tup xs) : isFrac x = false := by
  cases x with
  | tup xs => exact absurd rfl (h xs)
  | _ => rfl
theorem r_is_fraction (d : Nat) {x : D} (h : x.bd 0 = true) (m : MH) : run Pr (d + 2) .is_fraction [x] m = .ok (.bl (isFrac x)) m := by
  rw [R_is_fraction, b_is_fraction]
  by_cases ht : ∃ xs, x = .tup xs
  · obtain ⟨xs, rfl⟩ := ht
    by_cases h2 : xs.length = 2
    · match xs, h2 with
      | [a, b], _ =>
        have hb : bdL 0 [a, b] = true := by simpa [D.bd] using h
        have ha := bdL_mem hb (x := a) (by simp)
        have hbb := bdL_mem hb (x := b) (by simp)
        have w1 := fun m => r_whole d ha m
        have w2 := fun m => r_whole d hbb m
        rw [frac_two]
        cases e1 : isInt a with
        | false => simp [tyKnown, isTy, built, lenD, seqOf, eqD_int, getAt0, w1, e1, left, leave, D.bd]
        | true =>
          cases e2 : isInt b with
          | false => simp [tyKnown, isTy, built, lenD, seqOf, eqD_int, getAt0, getAt1, w1, w2, e1, e2, left, leave, D.bd]
          | true =>
            obtain ⟨j, rfl⟩ := isInt_of e2
            simp [tyKnown, isTy, built, lenD, seqOf, eqD_int, getAt0, getAt1, w1, w2, e1, e2, left, leave, D.bd]
    · have h2' : ¬ ((xs.length : Int) = 2) := by omega
      rw [frac_else h2]
      simp [tyKnown, isTy, built, lenD, seqOf, eqD_int, h2', left, leave, D.bd]
  · have ht' : ∀ xs, x ≠ .tup xs := fun xs e => ht ⟨xs, e⟩
    rw [frac_not ht']
    simp [bd_known h, not_tup h ht', left, leave, D.bd]
theorem r_law_is_fraction (d : Nat) {x : D} (h : x.bd 0 = true) (m : MH) : run Pr (d + 2) .law_is_fraction [x] m = .ok (.bl (isFrac x)) m := by
  rw [R_law_is_fraction, b_law_is_fraction]
  by_cases ht : ∃ xs, x = .tup xs
  · obtain ⟨xs, rfl⟩ := ht
    by_cases h2 : xs.length = 2
    · match xs, h2 with
      | [a, b], _ =>
        have hb : bdL 0 [a, b] = true := by simpa [D.bd] using h
        have ha := bdL_mem hb (x := a) (by simp)
        have hbb := bdL_mem hb (x := b) (by simp)
        have w1 := fun m => r_lwhole d ha m
        have w2 := fun m => r_lwhole d hbb m
        rw [frac_two]
        cases e1 : isInt a with
        | false => simp [tyKnown, isTy, built, lenD, seqOf, eqD_int, getAt0, w1, e1, left, leave, D.bd]
        | true =>
          cases e2 : isInt b with
          | false => simp [tyKnown, isTy, built, lenD, seqOf, eqD_int, getAt0, getAt1, w1, w2, e1, e2, left, leave, D.bd]
          | true =>
            obtain ⟨j, rfl⟩ := isInt_of e2
            have : (1 ≤ j) = (0 < j) := by simp; omega
            simp [tyKnown, isTy, built, lenD, seqOf, eqD_int, getAt0, getAt1, w1, w2, e1, e2, left, leave, D.bd, this]
    · have h2' : ¬ ((xs.length : Int) = 2) := by omega
      rw [frac_else h2]
      simp [tyKnown, isTy, built, lenD, seqOf, eqD_int, h2', left, leave, D.bd]
  · have ht' : ∀ xs, x ≠ .tup xs := fun xs e => ht ⟨xs, e⟩
    rw [frac_not ht']
    simp [bd_known h, not_tup h ht', left, leave, D.bd]
def noFr : Exc := ⟨"NoFraction", ["NoFraction", "FadeError", "ValueError"], []⟩
theorem r_need1 (d : Nat) {x : D} (h : x.bd 0 = true) (m : MH) : run Pr (d + 3) .need_fraction [x] m = if isFrac x then .ok .non m else .exc noFr m := by
  rw [R_need_fraction, b_need_fraction]
  cases e : isFrac x with
  | true => simp [r_is_fraction, h, e, left, leave, D.bd]
  | false => simp [r_is_fraction, h, e, left, noFr]
theorem r_need (d : Nat) {a b : Int} (hb : 0 < b) (m : MH) : run Pr (d + 3) .need_fraction [pr a b] m = .ok .non m := by
  rw [r_need1 d rfl]
  simp [isFrac, hb]
theorem gcd_pos {a b : Int} (hb : 0 < b) : 0 < (Int.gcd a b : Int) := by
  have := Int.gcd_pos_of_ne_zero_right (b := b) a (by omega)
  omega
theorem gcd_le {a b : Int} (hb : 0 < b) : (Int.gcd a b : Int) ≤ b := Int.le_of_dvd hb (Int.gcd_dvd_right _ _)
theorem gdiv {m : MH} {i a b : Int} (hb : 0 < b) (hb2 : b < 2 ^ 130) : arith .fdiv (.int i) (.int (Int.gcd a b : Int)) m = .ok (.int (i / Int.gcd a b)) m := by
  have h1 := gcd_pos (a := a) hb
  have h2 := gcd_le (a := a) hb
  exact fdiv_int h1 (by have := log_of (i := (Int.gcd a b : Int)) (by omega) (by omega); omega)
theorem r_plain_of (d : Nat) {a b : Int} (hb : 0 < b) (hb2 : b < 2 ^ 130) (m : MH) : run Pr (d + 2) .plain_of [.int a, .int b] m = .ok (pl a b) m := by
  rw [R_plain_of, b_plain_of]
  have w : ∀ (m : MH), run Pr (d + 1) .common [.int a, .int b] m = .ok (.int (Int.gcd a b)) m := fun m => run_gcd (P := Pr) (f := .common) (.inl rfl) rfl d a b m
  simp [w, gdiv hb hb2, left, leave, D.bd, bdL, pl]
theorem r_plain (d : Nat) {a b : Int} (h : Small a b) (m : MH) : run Pr (d + 4) .plain [pr a b] m = .ok (pl a b) m := by
  obtain ⟨h1, h2, h3, h4⟩ := h
  rw [R_plain, b_plain]
  have hn := fun m => r_need d (a := a) h1 m
  have hp := fun m => r_plain_of (d + 1) (a := a) h1 (by omega) m
  simp [hn, hp, getAt0, getAt1, left, leave, D.bd, bdL, pl]
theorem mul_bd {a b : Int} (h1 : -(2 ^ 60) < a) (h2 : a < 2 ^ 60) (h3 : 0 < b) (h4 : b < 2 ^ 60) : -(2 ^ 120) < a * b ∧ a * b < 2 ^ 120 := by
  have e : ((2 : Int) ^ 60) * 2 ^ 60 = 2 ^ 120 := by decide
  have p1 : (a - -(2 ^ 60)) * b > 0 := Int.mul_pos (by omega) h3
  have p2 : (2 ^ 60 - a) * b > 0 := Int.mul_pos (by omega) h3
  have p3 : (2 : Int) ^ 60 * b < 2 ^ 60 * 2 ^ 60 := Int.mul_lt_mul_of_pos_left h4 (by decide)
  rw [Int.sub_mul] at p1 p2
  rw [Int.neg_mul] at p1
  omega
theorem mul_bd2 {a b : Int} (h1 : -(2 ^ 60) < a) (h2 : a < 2 ^ 60) (h3 : -(2 ^ 60) < b) (h4 : b < 2 ^ 60) : -(2 ^ 120) < a * b ∧ a * b < 2 ^ 120 := by
  rcases Int.lt_trichotomy b 0 with h | h | h
  · have := mul_bd h1 h2 (b := -b) (by omega) (by omega)
    rw [Int.mul_neg] at this
    omega
  · subst h; simp
  · exact mul_bd h1 h2 h h4
section
variable {a b c e : Int} (h : Small a b) (k : Small c e)
include h k
theorem sm_mul {m : MH} : arith .mul (.int a) (.int e) m = .ok (.int (a * e)) m ∧ arith .mul (.int c) (.int b) m = .ok (.int (c * b)) m ∧ arith .mul (.int b) (.int e) m = .ok (.int (b * e)) m ∧ arith .mul (.int a) (.int c) m = .ok (.int (a * c)) m := by
  obtain ⟨h1, h2, h3, h4⟩ := h
  obtain ⟨k1, k2, k3, k4⟩ := k
  exact ⟨mul2 (by omega) (by omega) (by omega) (by omega), mul2 (by omega) (by omega) (by omega) (by omega), mul2 (by omega) (by omega) (by omega) (by omega), mul2 (by omega) (by omega) (by omega) (by omega)⟩
theorem sm_below : 0 < b * e ∧ b * e < 2 ^ 130 := by
  obtain ⟨h1, h2, h3, h4⟩ := h
  obtain ⟨k1, k2, k3, k4⟩ := k
  have := mul_bd (a := b) (b := e) (by omega) (by omega) (by omega) (by omega)
  exact ⟨Int.mul_pos h1 k1, by omega⟩
theorem r_added (d : Nat) (m : MH) : run Pr (d + 4) .added [pr a b, pr c e] m = .ok (pl (a * e + c * b) (b * e)) m := by
  rw [R_added, b_added]
  obtain ⟨q1, q2⟩ := sm_below h k
  have s := fun m => sm_mul (m := m) h k
  have hn := fun m => r_need d (a := a) h.1 m
  have hn2 := fun m => r_need d (a := c) k.1 m
  have hp := fun m => r_plain_of (d + 1) (a := a * e + c * b) q1 q2 m
  simp [hn, hn2, hp, getAt0, getAt1, (s _).1, (s _).2.1, (s _).2.2.1, left, leave, D.bd, bdL, pl]
theorem r_multiplied (d : Nat) (m : MH) : run Pr (d + 4) .multiplied [pr a b, pr c e] m = .ok (pl (a * c) (b * e)) m := by
  rw [R_multiplied, b_multiplied]
  obtain ⟨q1, q2⟩ := sm_below h k
  have s := fun m => sm_mul (m := m) h k
  have hn := fun m => r_need d (a := a) h.1 m
  have hn2 := fun m => r_need d (a := c) k.1 m
  have hp := fun m => r_plain_of (d + 1) (a := a * c) q1 q2 m
  simp [hn, hn2, hp, getAt0, getAt1, (s _).2.2.2, (s _).2.2.1, left, leave, D.bd, bdL, pl]
theorem r_is_less (d : Nat) (m : MH) : run Pr (d + 4) .is_less [pr a b, pr c e] m = .ok (.bl (decide (a * e < c * b))) m := by
  rw [R_is_less, b_is_less]
  have s := fun m => sm_mul (m := m) h k
  have hn := fun m => r_need d (a := a) h.1 m
  have hn2 := fun m => r_need d (a := c) k.1 m
  simp [hn, hn2, getAt0, getAt1, (s _).1, (s _).2.1, left, leave, D.bd, bdL]
end
theorem frac_of {x : D} (h : isFrac x = true) : ∃ a b, x = pr a b ∧ 0 < b := by
  unfold isFrac at h
  split at h
  · exact ⟨_, _, rfl, of_decide_eq_true h⟩
  · cases h
theorem th_small {x : D} (h : Th x) (hf : isFrac x = true) : ∃ a b, x = pr a b ∧ Small a b := by
  obtain ⟨a, b, rfl, hb⟩ := frac_of hf
  rcases h.2.2.2 a b rfl with q | q
  · exact ⟨a, b, rfl, q⟩
  · exact absurd hb q
theorem x_plain (d : Nat) {x : D} (h : Th x) (m : MH) : (isFrac x = true → ∃ y, run Pr (d + 4) .plain [x] m = .ok y m) ∧ (isFrac x = false → run Pr (d + 4) .plain [x] m = .exc noFr m) := by
  refine ⟨fun e => ?_, fun e => ?_⟩
  · obtain ⟨a, b, rfl, hs⟩ := th_small h e
    exact ⟨_, r_plain d hs m⟩
  · rw [R_plain, b_plain]
    simp [r_need1, h.2.1, e, left]
theorem x_added (d : Nat) {x y : D} (h : Th x) (k : Th y) (m : MH) : ((isFrac x && isFrac y) = true → ∃ z, run Pr (d + 4) .added [x, y] m = .ok z m) ∧ ((isFrac x && isFrac y) = false → run Pr (d + 4) .added [x, y] m = .exc noFr m) := by
  refine ⟨fun e => ?_, fun e => ?_⟩
  · simp only [Bool.and_eq_true] at e
    obtain ⟨a, b, rfl, hs⟩ := th_small h e.1
    obtain ⟨a2, b2, rfl, hs2⟩ := th_small k e.2
    exact ⟨_, r_added hs hs2 d m⟩
  · rw [R_added, b_added]
    cases e1 : isFrac x with
    | false => simp [r_need1, h.2.1, k.2.1, e1, left]
    | true =>
      rw [e1] at e
      have e2 : isFrac y = false := by simpa using e
      simp [r_need1, h.2.1, k.2.1, e1, e2, left]
theorem x_multiplied (d : Nat) {x y : D} (h : Th x) (k : Th y) (m : MH) : ((isFrac x && isFrac y) = true → ∃ z, run Pr (d + 4) .multiplied [x, y] m = .ok z m) ∧ ((isFrac x && isFrac y) = false → run Pr (d + 4) .multiplied [x, y] m = .exc noFr m) := by
  refine ⟨fun e => ?_, fun e => ?_⟩
  · simp only [Bool.and_eq_true] at e
    obtain ⟨a, b, rfl, hs⟩ := th_small h e.1
    obtain ⟨a2, b2, rfl, hs2⟩ := th_small k e.2
    exact ⟨_, r_multiplied hs hs2 d m⟩
  · rw [R_multiplied, b_multiplied]
    cases e1 : isFrac x with
    | false => simp [r_need1, h.2.1, k.2.1, e1, left]
    | true =>
      rw [e1] at e
      have e2 : isFrac y = false := by simpa using e
      simp [r_need1, h.2.1, k.2.1, e1, e2, left]
theorem x_is_less (d : Nat) {x y : D} (h : Th x) (k : Th y) (m : MH) : ((isFrac x && isFrac y) = true → ∃ z, run Pr (d + 4) .is_less [x, y] m = .ok z m) ∧ ((isFrac x && isFrac y) = false → run Pr (d + 4) .is_less [x, y] m = .exc noFr m) := by
  refine ⟨fun e => ?_, fun e => ?_⟩
  · simp only [Bool.and_eq_true] at e
    obtain ⟨a, b, rfl, hs⟩ := th_small h e.1
    obtain ⟨a2, b2, rfl, hs2⟩ := th_small k e.2
    exact ⟨_, r_is_less hs hs2 d m⟩
  · rw [R_is_less, b_is_less]
    cases e1 : isFrac x with
    | false => simp [r_need1, h.2.1, k.2.1, e1, left]
    | true =>
      rw [e1] at e
      have e2 : isFrac y = false := by simpa using e
      simp [r_need1, h.2.1, k.2.1, e1, e2, left]
theorem mem1 : (("FadeError" : Str) ∈ noFr.sups) = True := by decide
theorem mem2 : isED "ValueError" (.exc noFr) = some (.bl true) := congrArg (fun b => some (D.bl b)) (show decide (("ValueError" : Str) ∈ noFr.sups) = true by decide)
theorem mem3 : isED "NoBound" (.exc noFr) = some (.bl false) := congrArg (fun b => some (D.bl b)) (show decide (("NoBound" : Str) ∈ noFr.sups) = false by decide)
theorem mem4 : isED "NoLot" (.exc noFr) = some (.bl false) := congrArg (fun b => some (D.bl b)) (show decide (("NoLot" : Str) ∈ noFr.sups) = false by decide)
theorem mem5 : isED "NoFraction" (.exc noFr) = some (.bl true) := congrArg (fun b => some (D.bl b)) (show decide (("NoFraction" : Str) ∈ noFr.sups) = true by decide)
def word (g : Bool) : D := .str (if g then "" else "none")
theorem heard_by {d : Nat} {m : MH} {w : Int} {x y : D} {g : Bool} (r : Res D) (hr : (g = true → ∃ z, r = .ok z ([] :: m)) ∧ (g = false → r = .exc noFr ([] :: m)))
    (he : exec (run Pr (d + 4)) (match b_law_heard with | .cons (.tryE _ _ a _) _ => a | _ => .nil) [some (.int w), some x, some y, none] ([] :: m) = r.st [some (.int w), some x, some y, none] fun _ m => .ok (.nx [some (.int w), some x, some y, none]) m) :
    run Pr (d + 5) .law_heard [.int w, x, y] m = .ok (word g) m := by
  rw [R_law_heard]
  have hb : b_law_heard = .cons (.tryE "FadeError" 3 (match b_law_heard with | .cons (.tryE _ _ a _) _ => a | _ => .nil) (.cons (.ifs (.or (.not (.isE (.var 3) "ValueError")) (.or (.isE (.var 3) "NoBound") (.isE (.var 3) "NoLot"))) (.cons (.ret (.lit (.str "other"))) .nil) .nil) (.cons (.ret (.ite (.isE (.var 3) "NoFraction") (.lit (.str "none")) (.lit (.str "other")))) .nil))) (.cons (.ret (.lit (.str ""))) .nil) := rfl
  rw [hb]
  simp only [x_cons, x_try]
  rw [he]
  cases g with
  | true =>
    obtain ⟨z, hz⟩ := hr.1 rfl
    rw [hz]
    simp [left, leave, D.bd, word]
  | false =>
    rw [hr.2 rfl]
    simp [mem1, mem2, mem3, mem4, mem5, noX, left, leave, D.bd, word]
theorem heard0 (d : Nat) {x y : D} (h : Th x) (m : MH) : run Pr (d + 5) .law_heard [.int 0, x, y] m = .ok (word (isFrac x)) m := by
  refine heard_by (run Pr (d + 4) .plain [x] ([] :: m)) (x_plain d h _) ?_
  simp [b_law_heard, eqD_int]
  cases run Pr (d + 4) .plain [x] ([] :: m) <;> rfl
theorem heard1 (d : Nat) {x y : D} (h : Th x) (k : Th y) (m : MH) : run Pr (d + 5) .law_heard [.int 1, x, y] m = .ok (word (isFrac x && isFrac y)) m := by
  refine heard_by (run Pr (d + 4) .added [x, y] ([] :: m)) (x_added d h k _) ?_
  simp [b_law_heard, eqD_int]
  cases run Pr (d + 4) .added [x, y] ([] :: m) <;> rfl
theorem heard2 (d : Nat) {x y : D} (h : Th x) (k : Th y) (m : MH) : run Pr (d + 5) .law_heard [.int 2, x, y] m = .ok (word (isFrac x && isFrac y)) m := by
  refine heard_by (run Pr (d + 4) .multiplied [x, y] ([] :: m)) (x_multiplied d h k _) ?_
  simp [b_law_heard, eqD_int]
  cases run Pr (d + 4) .multiplied [x, y] ([] :: m) <;> rfl
theorem heard3 (d : Nat) {x y : D} (h : Th x) (k : Th y) (m : MH) : run Pr (d + 5) .law_heard [.int 3, x, y] m = .ok (word (isFrac x && isFrac y)) m := by
  refine heard_by (run Pr (d + 4) .is_less [x, y] ([] :: m)) (x_is_less d h k _) ?_
  simp [b_law_heard, eqD_int]
  cases run Pr (d + 4) .is_less [x, y] ([] :: m) <;> rfl
end Law

set_option Elab.async false
set_option linter.all false
set_option maxRecDepth 100000
set_option maxHeartbeats 2000000
set_option autoImplicit false
namespace Law
open PySem Fw
theorem cat_tup {m : MH} {xs ys : List D} (h : xs.length + ys.length ≤ 1000) : arith .add (.tup xs) (.tup ys) m = .ok (.tup (xs ++ ys)) m := by
  have : xs.length + ys.length ≤ sizeLine := by unfold sizeLine; omega
  simp [arith, isInt2, seqOp, this]
theorem cat_lst {m : MH} {xs ys : List D} (h : xs.length + ys.length ≤ 16777216) : arith .add (.lst xs) (.lst ys) m = .ok (.lst (xs ++ ys)) m := by
  have : xs.length + ys.length ≤ sizeLine := by unfold sizeLine; omega
  simp [arith, isInt2, seqOp, lstOf, seqOf, this]
theorem frac_prop {xs : List D} (hi : ∀ x ∈ xs, ∀ i, x = .int i → i.natAbs < 2 ^ 59) : ∀ a b, D.tup xs = pr a b → Small a b ∨ ¬ 0 < b := by
  intro a b e
  cases e
  have h1 := hi (.int a) (by simp) a rfl
  have h2 := hi (.int b) (by simp) b rfl
  by_cases hb : 0 < b
  · exact .inl ⟨hb, by omega, by omega, by omega⟩
  · exact .inr hb
theorem th_tup {l c : Bool} {dep room : Nat} {xs : List D} (h : NcL l c dep room xs) (hlc : (l && c) = false) (h1 : dep ≤ 50) (h2 : room ≤ 1000000) (hb : bdL 0 xs = true) (hi : ∀ x ∈ xs, ∀ i, x = .int i → i.natAbs < 2 ^ 59) : Th (.tup xs) :=
  ⟨h.tup.repr hlc (by omega) (by omega), by simpa [D.bd] using hb, fun _ => rfl, frac_prop hi⟩
theorem th_lst {c : Bool} {l : Bool} {dep room : Nat} {xs : List D} (h : NcL l c dep room xs) (hlc : c = false) (h1 : dep ≤ 50) (h2 : room ≤ 1000000) (hb : bdL 0 xs = true) : Th (.lst xs) :=
  ⟨h.lst.repr (by simp [hlc]) (by omega) (by omega), by simpa [D.bd] using hb, fun _ => rfl, fun a b e => by cases e⟩
/-- an item: a number that is not great, an odd thing -/
def Lf (x : D) : Prop := (Nc true false 3 8000 x ∨ Nc false true 3 8000 x) ∧ x.bd 0 = true ∧ (∀ i, x = .int i → i.natAbs < 2 ^ 59) ∧ ∀ a b, x ≠ pr a b
theorem lf_odd {x : D} (h : x ∈ odds) : Lf x := ⟨odd_nc x h, odd_bd 0 x h, fun i e => by
  subst e
  simp only [odds, List.mem_cons, List.not_mem_nil, or_false, D.int.injEq, reduceCtorEq, false_or] at h
  omega, fun a b e => by
  subst e
  simp [odds, pr] at h⟩
def Li (x : D) : Prop := ∃ i, x = .int i ∧ i.natAbs < 2 ^ 50
theorem li_nc {x : D} (h : Li x) : Nc false false 0 1921 x := by
  obtain ⟨i, rfl, hi⟩ := h
  exact nc_int (Nat.lt_of_lt_of_le hi (Nat.pow_le_pow_right (by omega) (by omega)))
theorem li_lf {x : D} (h : Li x) : Lf x := ⟨.inl ((li_nc h).mono (by simp) (by simp) (by omega) (by omega)), by obtain ⟨i, rfl, _⟩ := h; rfl, fun i e => by
  obtain ⟨j, e2, hj⟩ := h
  rw [e] at e2
  cases e2
  omega, fun a b e => by
  obtain ⟨j, e2, hj⟩ := h
  rw [e] at e2
  cases e2⟩
theorem th_lf {x : D} (h : Lf x) : Th x := by
  obtain ⟨h1, h2, h3, h4⟩ := h
  refine ⟨h1.elim (fun q => q.repr rfl (by omega) (by omega)) fun q => q.repr rfl (by omega) (by omega), h2, bd_known h2, fun a b e => ?_⟩
  exact absurd e (h4 a b)
theorem cut1 {x y : D} : cut [x, y] none (some 0) = [] := rfl
section
variable {x y : D} {m : MH}
theorem s00 : slD m (.tup [x, y]) none (some 0) = some (.tup []) := rfl
theorem s01 : slD m (.tup [x, y]) none (some 1) = some (.tup [x]) := rfl
theorem s1 : slD m (.tup [x, y]) (some 1) none = some (.tup [y]) := rfl
theorem s2 : slD m (.tup [x, y]) (some 2) none = some (.tup []) := rfl
theorem s0 : slD m (.tup [x, y]) (some 0) none = some (.tup [x, y]) := rfl
theorem s011 : slD m (.tup [x, y]) (some 0) (some 1) = some (.tup [x]) := rfl
theorem s12 : slD m (.tup [x, y]) (some 1) (some 2) = some (.tup [y]) := rfl
theorem sm : slD m (.tup [x, y]) (some (-1)) none = some (.tup [y]) := rfl
theorem ne_nil {a b : Int} : eqD m (pr a b) (.tup []) = some false := rfl
end
section
variable {m : MH} {l i : Nat}
theorem tkC (hl : Lv m l i) (d : Nat) (n far : Int) (h0 : 0 < far) (h1 : far.natAbs.log2 < 9000) : run Pr (d + 1) .law_take [.ref l i, .int far] ([] :: put m l i (.lst [.int n])) = .ok (.int (n % far)) ([] :: put m l i (.lst [.int (n / far)])) := run_takeC (P := Pr) (f := .law_take) rfl d hl h0 h1
theorem odC (hl : Lv m l i) (d : Nat) (n : Int) : ∃ x, x ∈ odds ∧ run Pr (d + 2) .law_odd [.ref l i] ([] :: put m l i (.lst [.int n])) = .ok x ([] :: put m l i (.lst [.int (n / 17)])) := by
  obtain ⟨x, hx, e⟩ := run_odd (P := Pr) (f := .law_odd) (tk := .law_take) rfl rfl d (get_under (fr := []) (lv_get hl (.lst [.int n])))
  rw [put_under (by rw [put_length]; exact lv_lt hl), put_put] at e
  exact ⟨x, hx, e⟩
theorem pickN {xs : List D} {n k : Int} (hk : 0 < k) (h : (xs.length : Int) = k) (p : D → Prop) (hp : ∀ x ∈ xs, p x) : ∃ q, (∀ m, getAt m (.lst xs) (.int (n % k)) = some q) ∧ p q := by
  obtain ⟨q, hq, e⟩ := pick (xs := xs) (i := n % k) (Int.emod_nonneg _ (by omega)) (by rw [h]; exact Int.emod_lt_of_pos _ hk)
  exact ⟨q, e, hp q hq⟩
theorem r_bentI (d : Nat) {n j : Int} (hj : j.natAbs < 2 ^ 40) (hg : get m l i = some (.lst [.int n])) : ∃ x n', run Pr (d + 3) .law_bent [.ref l i, .int j] m = .ok x (put m l i (.lst [.int n'])) ∧ Lf x := by
  have hl : Lv m l i := by unfold Lv; rw [hg]; rfl
  rw [R_law_bent, b_law_bent, ← put_self hg]
  have w := fun m => r_lwhole (d + 1) (x := .int j) rfl m
  have t3 := fun n => tkC hl (d + 1) n 3 (by omega) (by decide)
  have t6 := fun n => tkC hl (d + 1) n 6 (by omega) (by decide)
  have tyI : ∀ m, isTy m .tuple (.int j) = false := fun _ => rfl
  have knI : ∀ m, tyKnown m (.int j) = true := fun _ => rfl
  by_cases h3 : 0 < n % 3
  · obtain ⟨q, e, c, rfl, hc⟩ := pickN (n := n / 3) (k := 6) (xs := [.int 1, .int (-1), .int 9, .int 100, .int 9999, .int (-10000)]) (by omega) rfl (fun q => ∃ c, q = .int c ∧ c.natAbs ≤ 10000) (by
      intro x hx
      simp only [List.mem_cons, List.not_mem_nil, or_false] at hx
      rcases hx with rfl | rfl | rfl | rfl | rfl | rfl <;> exact ⟨_, rfl, by decide⟩)
    refine ⟨.int (j + c), n / 3 / 6, ?_, li_lf ⟨_, rfl, by omega⟩⟩
    simp [knI, tyI, w, isInt, t3, h3, t6, e, left, leave, D.bd]
  · obtain ⟨x, hx, e⟩ := odC hl d (n / 3)
    refine ⟨x, n / 3 / 17, ?_, lf_odd hx⟩
    have hb := odd_bd m.length x hx
    have hlv : ∀ r : MH, leave x ([] :: r) = if x.bd r.length then .ok x r else .fail := fun r => by
      cases x with
      | ref => simp [odds] at hx
      | _ => rfl
    simp [knI, tyI, w, isInt, t3, h3, e, left, hlv, put_length, hb]
theorem li_of {j : Int} (h : j.natAbs < 2 ^ 40) : Li (.int j) := ⟨j, rfl, by omega⟩
/-- a tuple of numbers that are not great, one odd thing among them -/
theorem th_one {xs ys : List D} {x : D} (hx : Lf x) (h1 : xs.length + ys.length ≤ 4) (hl : ∀ y ∈ xs ++ ys, Li y) : Th (.tup (xs ++ [x] ++ ys)) := by
  have allI : ∀ zs : List D, (∀ y ∈ zs, Li y) → zs.length ≤ 4 → NcL false false 0 (1923 * zs.length) zs := by
    intro zs
    induction zs with
    | nil => intro _ _; exact ncl_nil
    | cons z zs ih =>
      intro h hz
      have q := (li_nc (h z List.mem_cons_self)).cons (ih (fun y hy => h y (List.mem_cons_of_mem _ hy)) (by simp at hz; omega))
      obtain ⟨ps, e, b1, b2, b3, b4, b5⟩ := q
      exact ⟨ps, e, b1, b2, b3, b4, by simp only [List.length_cons]; omega⟩
  have app : ∀ (zs ws : List D) {l c : Bool} {dep room : Nat}, (∀ y ∈ zs, Li y) → NcL l c dep room ws → NcL l c dep (1923 * zs.length + room) (zs ++ ws) := by
    intro zs ws l c dep room
    induction zs with
    | nil => intro _ h; simpa using h
    | cons z zs ih =>
      intro h hw
      have q := (li_nc (h z List.mem_cons_self)).cons (ih (fun y hy => h y (List.mem_cons_of_mem _ hy)) hw)
      obtain ⟨ps, e, b1, b2, b3, b4, b5⟩ := q
      exact ⟨ps, e, b1, fun z => b2 (by simpa using z), fun z => b3 (by simpa using z), by simpa using b4, by simp only [List.length_cons]; omega⟩
  have hys := allI ys (fun y hy => hl y (List.mem_append_right _ hy)) (by omega)
  have fin : ∀ {l c : Bool}, Nc l c 3 8000 x → (l && c) = false → Th (.tup (xs ++ [x] ++ ys)) := fun {l c} q hlc => by
    have q2 := app xs _ (fun y hy => hl y (List.mem_append_left _ hy)) (q.cons hys)
    rw [List.append_assoc]
    refine th_tup q2 (by simpa using hlc) (by simp <;> omega) (by simp <;> omega) ?_ ?_
    · have bdi : ∀ zs : List D, (∀ y ∈ zs, y.bd 0 = true) → bdL 0 zs = true := by
        intro zs
        induction zs with
        | nil => intro _; rfl
        | cons z zs ih =>
          intro h
          unfold bdL
          rw [h z List.mem_cons_self, ih fun y hy => h y (List.mem_cons_of_mem _ hy)]; rfl
      refine bdi _ fun y hy => ?_
      simp only [List.mem_append, List.mem_cons, List.not_mem_nil, or_false] at hy
      rcases hy with hy | rfl | hy
      · exact (li_lf (hl y (List.mem_append_left _ hy))).2.1
      · exact hx.2.1
      · exact (li_lf (hl y (List.mem_append_right _ hy))).2.1
    · intro y hy
      simp only [List.mem_append, List.mem_cons, List.not_mem_nil, or_false] at hy
      rcases hy with hy | rfl | hy
      · exact (li_lf (hl y (List.mem_append_left _ hy))).2.2.1
      · exact hx.2.2.1
      · exact (li_lf (hl y (List.mem_append_right _ hy))).2.2.1
  exact hx.1.elim (fun q => fin q rfl) fun q => fin q rfl
theorem th_l2 {x y : D} (hx : Li x) (hy : Li y) : Th (.lst [x, y]) := by
  have q := (li_nc hx).cons ((li_nc hy).cons ncl_nil)
  obtain ⟨i, rfl, _⟩ := hx
  obtain ⟨j, rfl, _⟩ := hy
  exact th_lst q rfl (by decide) (by decide) rfl
theorem leave_bd {x : D} (h : x.bd 0 = true) (r : MH) : leave x ([] :: r) = .ok x r := by
  have hb : x.bd r.length = true := D.bd_le (Nat.zero_le _) x h
  cases x with
  | ref l i => simp [D.bd] at h
  | _ => simp only [leave, hb, if_true]
theorem r_bent (d : Nat) {n a b : Int} (ha : a.natAbs < 2 ^ 40) (hb : b.natAbs < 2 ^ 40) (hg : get m l i = some (.lst [.int n])) : ∃ x n', run Pr (d + 4) .law_bent [.ref l i, pr a b] m = .ok x (put m l i (.lst [.int n'])) ∧ Th x := by
  have hl : Lv m l i := by unfold Lv; rw [hg]; rfl
  rw [R_law_bent, b_law_bent, ← put_self hg]
  have t12 := fun n => tkC hl (d + 2) n 12 (by omega) (by decide)
  have t4 := fun n => tkC hl (d + 2) n 4 (by omega) (by decide)
  have t2 := fun n => tkC hl (d + 2) n 2 (by omega) (by decide)
  have tyT : ∀ m, isTy m .tuple (pr a b) = true := fun _ => rfl
  have knT : ∀ m, tyKnown m (pr a b) = true := fun _ => rfl
  have ln : ∀ m, built .len [pr a b] m = some (.int 2) := fun _ => rfl
  have lt : ∀ m, built .list [pr a b] m = some (.lst [.int a, .int b]) := fun _ => rfl
  have La := li_of ha
  have Lb := li_of hb
  have fin : ∀ {x : D} {n' : Int}, Th x → left (.ok (.rt x) ([] :: put m l i (.lst [.int n']))) = .ok x (put m l i (.lst [.int n'])) := fun {x n'} h => leave_bd h.2.1 _
  by_cases h0 : n % 12 = 0
  · obtain ⟨x1, hx1, e1⟩ := odC hl (d + 1) (n / 12)
    obtain ⟨x2, hx2, e2⟩ := odC hl (d + 1) (n / 12 / 17)
    obtain ⟨q, e, hq⟩ := pickN (n := n / 12 / 17 / 17) (k := 4) (xs := [x1, .lst [.int a, .int b], .tup [.int a, .int b, x2], .tup [.int a, .int b, .int b]]) (by omega) rfl Th (by
      intro x hx
      simp only [List.mem_cons, List.not_mem_nil, or_false] at hx
      rcases hx with rfl | rfl | rfl | rfl
      · exact th_lf (lf_odd hx1)
      · exact th_l2 La Lb
      · exact th_one (xs := [.int a, .int b]) (ys := []) (lf_odd hx2) (by simp) (by simp [La, Lb])
      · exact th_one (xs := [.int a, .int b]) (ys := []) (li_lf Lb) (by simp) (by simp [La, Lb]))
    refine ⟨q, n / 12 / 17 / 17 / 4, ?_, hq⟩
    have hf := fin (n' := n / 12 / 17 / 17 / 4) hq
    simp [knT, tyT, t12, h0, eqD_int, e1, lt, e2, sm, cat_tup, t4, e, hf]
  · have hp : n / 12 % 2 = 0 ∨ n / 12 % 2 = 1 := by omega
    by_cases h1 : n % 12 = 1
    · rcases hp with hp | hp
      · have th : Th (.tup [.int b]) := th_one (xs := []) (ys := []) (li_lf Lb) (by simp) (by simp)
        refine ⟨_, n / 12 / 2, ?_, th⟩
        have hf := fin (n' := n / 12 / 2) th
        simp [knT, tyT, t12, h1, eqD_int, ne_nil, ln, t2, hp, s00, s1, cat_tup, hf]
      · have th : Th (.tup [.int a]) := th_one (xs := []) (ys := []) (li_lf La) (by simp) (by simp)
        refine ⟨_, n / 12 / 2, ?_, th⟩
        have hf := fin (n' := n / 12 / 2) th
        simp [knT, tyT, t12, h1, eqD_int, ne_nil, ln, t2, hp, s01, s2, cat_tup, hf]
    · by_cases h2 : n % 12 = 2
      · rcases hp with hp | hp
        · have th : Th (.tup [.int a, .int a, .int b]) := th_one (xs := [.int a, .int a]) (ys := []) (li_lf Lb) (by simp) (by simp [La])
          refine ⟨_, n / 12 / 2, ?_, th⟩
          have hf := fin (n' := n / 12 / 2) th
          simp [knT, tyT, t12, h2, eqD_int, ne_nil, ln, t2, hp, s00, s011, s0, cat_tup, hf]
        · have th : Th (.tup [.int a, .int b, .int b]) := th_one (xs := [.int a, .int b]) (ys := []) (li_lf Lb) (by simp) (by simp [La, Lb])
          refine ⟨_, n / 12 / 2, ?_, th⟩
          have hf := fin (n' := n / 12 / 2) th
          simp [knT, tyT, t12, h2, eqD_int, ne_nil, ln, t2, hp, s01, s12, s1, cat_tup, hf]
      · have hgb : ∀ n, get ([] :: put m l i (.lst [.int n])) l i = some (.lst [.int n]) := fun n => get_under (lv_get hl _)
        have hpu : ∀ n n', put ([] :: put m l i (.lst [.int n])) l i (.lst [.int n']) = [] :: put m l i (.lst [.int n']) := fun n n' => by rw [put_under (by rw [put_length]; exact lv_lt hl), put_put]
        rcases hp with hp | hp
        · obtain ⟨x, n', e, hx⟩ := r_bentI d ha (hgb (n / 12 / 2))
          rw [hpu] at e
          have th : Th (.tup [x, .int b]) := th_one (xs := []) (ys := [.int b]) hx (by simp) (by simp [Lb])
          refine ⟨_, n', ?_, th⟩
          have hf := fin (n' := n') th
          simp [knT, tyT, t12, h0, h1, h2, eqD_int, ne_nil, ln, t2, hp, s00, getAt0, e, s1, cat_tup, hf]
        · obtain ⟨x, n', e, hx⟩ := r_bentI d hb (hgb (n / 12 / 2))
          rw [hpu] at e
          have th : Th (.tup [.int a, x]) := th_one (xs := [.int a]) (ys := []) hx (by simp) (by simp [La])
          refine ⟨_, n', ?_, th⟩
          have hf := fin (n' := n') th
          simp [knT, tyT, t12, h0, h1, h2, eqD_int, ne_nil, ln, t2, hp, s01, getAt1, e, s2, cat_tup, hf]
end
end Law

set_option Elab.async false
set_option linter.all false
set_option maxRecDepth 100000
set_option maxHeartbeats 2000000
set_option autoImplicit false
namespace Law
open PySem Fw
def outer : S Id := match b_law_ with
  | .cons (.for_ _ _ b) _ => b
  | _ => .nil
def look : S Id := match nth outer 4 with
  | .for_ _ _ b => b
  | _ => .nil
def more : S Id := match nth outer 3 with
  | .for_ _ _ b => b
  | _ => .nil
theorem word4 (g : Bool) (m : MH) : eqD m (.lst [word g, word g, word g, word g]) (.lst [word g, word g, word g, word g]) = some true := by
  cases g
  · exact eqD_self (by decide +kernel)
  · exact eqD_self (by decide +kernel)
theorem word3 (g : Bool) (m : MH) : eqD m (.lst [word g, word g, word g]) (.lst [word g, word g, word g]) = some true := by
  cases g
  · exact eqD_self (by decide +kernel)
  · exact eqD_self (by decide +kernel)
theorem mul_w (g : Bool) (m : MH) : arith .mul (.lst [word g]) (.int 4) m = .ok (.lst [word g, word g, word g, word g]) m ∧ arith .mul (.lst [word g]) (.int 3) m = .ok (.lst [word g, word g, word g]) m := by
  constructor <;> simp [arith, isInt2, seqOp, lstOf, seqOf, sizeLine, List.replicate]
theorem at_w (g : Bool) (m : MH) : getAt m (.lst [.str "none", .str ""]) (.int (if g then 1 else 0)) = some (word g) := by cases g <;> rfl
theorem rep_bl (g : Bool) : ∃ s, ∀ m, reprD m (.bl g) = some s := by
  have q : Nc false false 0 5 (.bl g) := ⟨.bool g, rfl, rfl, fun _ => rfl, fun _ => rfl, Nat.le_refl _, Nat.le_refl _⟩
  exact q.repr rfl (by omega) (by omega)
theorem th_non : Th .non := th_lf (lf_odd (by simp [odds]))
section
variable {d : Nat} {a b : Int} {x : D}
theorem look_ok (hs : Small a b) (hr : Th (pr a b)) (hx : Th x) (x0 x1 x2 x4 x5 x7 x8 x9 : Option D) (m : MH) : ∃ y7 y8, exec (run Pr (d + 5)) look [x0, x1, x2, some (pr a b), x4, x5, some x, x7, x8, x9] m = .ok (.nx [x0, x1, x2, some (pr a b), x4, x5, some x, y7, y8, x9]) m := by
  obtain ⟨s, hsx⟩ := hx.1
  obtain ⟨t, ht⟩ := rep_bl (isFrac x)
  have hf : isFrac (pr a b) = true := by simp [isFrac, hs.1]
  have w1 : ∀ m, run Pr (d + 5) .law_is_fraction [x] m = .ok (.bl (isFrac x)) m := fun m => r_law_is_fraction (d + 3) hx.2.1 m
  have w2 : ∀ m, run Pr (d + 5) .is_fraction [x] m = .ok (.bl (isFrac x)) m := fun m => r_is_fraction (d + 3) hx.2.1 m
  have c1 : ∀ v m, (sem (run Pr (d + 5)) (.lc false [("_law_way", 9)] (.name 9) (.rng1 (.lit (.int 4))) .nil (.call .law_heard (.cons (.var 9) (.cons (.var 6) (.cons (.var 3) .nil)))))).e [x0, x1, x2, some (pr a b), x4, x5, some x, some (.str s), some (.bl (isFrac x)), v] m = .ok (.lst [word (isFrac x), word (isFrac x), word (isFrac x), word (isFrac x)]) m := fun v m => by
    refine e_map (xs := rangeD 0 4) (fun _ => word (isFrac x)) (by decide) (by simp) fun y hy => ?_
    simp only [rangeD, List.mem_map, List.mem_range] at hy
    obtain ⟨k, hk, rfl⟩ := hy
    refine ⟨_, rfl, ?_⟩
    have h0 := heard0 d (y := pr a b) hx m
    have h1 := heard1 d hx hr m
    have h2 := heard2 d hx hr m
    have h3 := heard3 d hx hr m
    rw [hf, Bool.and_true] at h1 h2 h3
    have hk' : k = 0 ∨ k = 1 ∨ k = 2 ∨ k = 3 := by
      have : k < 4 := by simpa using hk
      omega
    rcases hk' with rfl | rfl | rfl | rfl <;> simp [wipeE, h0, h1, h2, h3]
  have c2 : ∀ v m, (sem (run Pr (d + 5)) (.lc false [("_law_way", 9)] (.name 9) (.rng2 (.lit (.int 1)) (.lit (.int 4))) .nil (.call .law_heard (.cons (.var 9) (.cons (.var 3) (.cons (.var 6) .nil)))))).e [x0, x1, x2, some (pr a b), x4, x5, some x, some (.str s), some (.bl (isFrac x)), v] m = .ok (.lst [word (isFrac x), word (isFrac x), word (isFrac x)]) m := fun v m => by
    refine e_map (xs := rangeD 1 4) (fun _ => word (isFrac x)) (by decide) (by simp) fun y hy => ?_
    simp only [rangeD, List.mem_map, List.mem_range] at hy
    obtain ⟨k, hk, rfl⟩ := hy
    refine ⟨_, rfl, ?_⟩
    have h1 := heard1 d hr hx m
    have h2 := heard2 d hr hx m
    have h3 := heard3 d hr hx m
    rw [hf, Bool.true_and] at h1 h2 h3
    have hk' : k = 0 ∨ k = 1 ∨ k = 2 := by
      have : k < 3 := by simpa using hk
      omega
    rcases hk' with rfl | rfl | rfl <;> simp [wipeE, h1, h2, h3]
  have h5 : ∀ m, run Pr (d + 5) .law_heard [.int 1, .non, x] m = .ok (.str "none") m := fun m => heard1 d th_non hx m
  refine ⟨some (.str s), some (.bl (isFrac x)), ?_⟩
  have s0 : ∀ x7 x8, exec (run Pr (d + 5)) (nth look 0) [x0, x1, x2, some (pr a b), x4, x5, some x, x7, x8, x9] m = .ok (.nx [x0, x1, x2, some (pr a b), x4, x5, some x, some (.str s), some (.bl (isFrac x)), x9]) m := fun x7 x8 => by
    simp [nth, look, outer, b_law_, built, hsx, w1]
  have s1 : exec (run Pr (d + 5)) (nth look 1) [x0, x1, x2, some (pr a b), x4, x5, some x, some (.str s), some (.bl (isFrac x)), x9] m = .ok (.nx [x0, x1, x2, some (pr a b), x4, x5, some x, some (.str s), some (.bl (isFrac x)), x9]) m := by
    simp [nth, look, outer, b_law_, built, ht, w2, eqD_str]
  have s2 : exec (run Pr (d + 5)) (nth look 2) [x0, x1, x2, some (pr a b), x4, x5, some x, some (.str s), some (.bl (isFrac x)), x9] m = .ok (.nx [x0, x1, x2, some (pr a b), x4, x5, some x, some (.str s), some (.bl (isFrac x)), x9]) m := by
    simp [nth, look, outer, b_law_, built, c1, at_w, mul_w, word4]
  have s3 : exec (run Pr (d + 5)) (nth look 3) [x0, x1, x2, some (pr a b), x4, x5, some x, some (.str s), some (.bl (isFrac x)), x9] m = .ok (.nx [x0, x1, x2, some (pr a b), x4, x5, some x, some (.str s), some (.bl (isFrac x)), x9]) m := by
    simp [nth, look, outer, b_law_, built, c2, at_w, mul_w, word3]
  have s4 : exec (run Pr (d + 5)) (nth look 4) [x0, x1, x2, some (pr a b), x4, x5, some x, some (.str s), some (.bl (isFrac x)), x9] m = .ok (.nx [x0, x1, x2, some (pr a b), x4, x5, some x, some (.str s), some (.bl (isFrac x)), x9]) m := by
    simp [nth, look, outer, b_law_, built, h5, hsx, eqD_str]
  have hi : look = .cons (nth look 0) (.cons (nth look 1) (.cons (nth look 2) (.cons (nth look 3) (.cons (nth look 4) .nil)))) := rfl
  rw [hi]
  simp only [x_cons, s0, s1, s2, s3, s4, Res.then_nx, x_nil]
end

theorem th_str {s : Str} (h : (reprText s).length ≤ 1000) : Th (.str s) := by
  have q : Nc false false 0 1000 (.str s) := ⟨.str s, rfl, rfl, fun _ => rfl, fun _ => rfl, Nat.le_refl _, h⟩
  exact ⟨q.repr rfl (by omega) (by omega), rfl, fun _ => rfl, fun a b e => by cases e⟩
theorem th_pp : Th (.tup [pr 1 2, .int 1]) := by
  have i1 : ∀ i : Int, i.natAbs < 10 → Nc false false 0 1921 (.int i) := fun i h => nc_int (Nat.lt_of_lt_of_le h (Nat.le_trans (show 10 ≤ 2 ^ 4 by decide) (Nat.pow_le_pow_right (by omega) (by omega))))
  have q := (((i1 1 (by decide)).cons ((i1 2 (by decide)).cons ncl_nil)).tup).cons ((i1 1 (by decide)).cons ncl_nil)
  exact ⟨q.tup.repr rfl (by decide) (by decide), rfl, fun _ => rfl, fun a b e => by simp [pr] at e⟩
theorem th_d : Th (.dct [1] [.int 2]) := by
  have q : Nc false true 1 8000 (.dct [1] [.int 2]) := ⟨_, rfl, by decide, fun q => rfl, fun q => (by cases q), by decide, by decide⟩
  exact ⟨q.repr rfl (by omega) (by omega), rfl, fun _ => rfl, fun a b e => by cases e⟩
/-- things, all of them such -/
def Ths (xs : List D) : Prop := ∀ x ∈ xs, Th x
theorem li_n {j : Int} (h : j.natAbs < 1000) : Li (.int j) := li_of (Nat.lt_of_lt_of_le h (Nat.le_trans (show 1000 ≤ 2 ^ 10 by decide) (Nat.pow_le_pow_right (by omega) (by omega))))
section
variable {d : Nat} {a b : Int}
theorem th_r (ha : a.natAbs < 1000) (hb : b.natAbs < 1000) : Th (pr a b) := th_one (xs := [.int a]) (ys := []) (li_lf (li_n hb)) (by simp) (by simp [li_n ha])
theorem ths0 (ha : a.natAbs < 1000) (hb : b.natAbs < 1000) (hp : 0 < b) : Ths [pr a b, pr a 0, pr a (0 - b), .tup [.bl true, .int 1], .tup [.int 0, .bl true], .lst [.int a, .int b], .tup [.int a, .int b, .int 1], .tup [.int 1]] := by
  have h1 := li_n (j := 1) (by decide)
  have la := li_n ha
  have lb := li_n hb
  have lt : Lf (.bl true) := lf_odd (by simp [odds])
  intro x hx
  simp only [List.mem_cons, List.not_mem_nil, or_false] at hx
  rcases hx with rfl | rfl | rfl | rfl | rfl | rfl | rfl | rfl
  · exact th_r ha hb
  · exact th_r ha (by decide)
  · exact th_r ha (by omega)
  · exact th_one (xs := []) (ys := [.int 1]) lt (by simp) (by simp [h1])
  · exact th_one (xs := [.int 0]) (ys := []) lt (by simp) (by simp [li_n (j := 0) (by decide)])
  · exact th_l2 la lb
  · exact th_one (xs := [.int a, .int b]) (ys := []) (li_lf h1) (by simp) (by simp [la, lb])
  · exact th_one (xs := []) (ys := []) (li_lf h1) (by simp) (by simp)
theorem ths1 : Ths [.non, .str "1/2", .tup [.int 1, .non], .tup [.str "1", .int 2], .tup [pr 1 2, .int 1], .dct [1] [.int 2], .int 3] := by
  have h1 := li_n (j := 1) (by decide)
  have h2 := li_n (j := 2) (by decide)
  intro x hx
  simp only [List.mem_cons, List.not_mem_nil, or_false] at hx
  rcases hx with rfl | rfl | rfl | rfl | rfl | rfl | rfl
  · exact th_non
  · exact th_str (by decide +kernel)
  · exact th_one (xs := [.int 1]) (ys := []) (lf_odd (by simp [odds])) (by simp) (by simp [h1])
  · exact th_one (xs := []) (ys := [.int 2]) (lf_odd (by simp [odds])) (by simp) (by simp [h2])
  · exact th_pp
  · exact th_d
  · exact th_lf (li_lf (li_n (by decide)))
variable {m : MH} {l i : Nat}
theorem get_of {fr : List MO} {j : Nat} {o : MO} (h : fr[j]? = some o) : Fw.get [fr] 0 j = some o := by simp [Fw.get, h]
theorem put_of {fr : List MO} {j : Nat} {o : MO} : put [fr] 0 j o = [fr.set j o] := by simp [put]
theorem set_at {fr : List MO} {j : Nat} {o o' : MO} (h : fr[j]? = some o) : (fr.set j o')[j]? = some o' := by
  rw [List.getElem?_set_self']
  simp [h]
theorem more_ok (ha : a.natAbs < 1000) (hb : b.natAbs < 1000) {xs : List D} (hx : Ths xs) (hl : xs.length ≤ 100) (x0 x1 x5 x6 x7 x8 x9 : Option D) (fr : List MO) (j : Nat) (n : Int) (hj : fr[j]? = some (.lst [.int n])) : ∃ ys fr' n',
    exec (run Pr (d + 5)) more [x0, x1, some (.ref 0 j), some (pr a b), some (.lst xs), x5, x6, x7, x8, x9] [fr] = .ok (.nx [x0, x1, some (.ref 0 j), some (pr a b), some (.lst ys), x5, x6, x7, x8, x9]) [fr'] ∧ fr'[j]? = some (.lst [.int n']) ∧ Ths ys ∧ ys.length = xs.length + 4 := by
  have b40 : ∀ i : Int, i.natAbs < 1000 → i.natAbs < 2 ^ 40 := fun i h => Nat.lt_of_lt_of_le h (Nat.le_trans (show 1000 ≤ 2 ^ 10 by decide) (Nat.pow_le_pow_right (by omega) (by omega)))
  have g0 := get_of hj
  obtain ⟨x, n1, e1, h1⟩ := r_bent (d + 1) (b40 a ha) (b40 b hb) g0
  have g1 := get_put_same (o' := .lst [.int n1]) g0
  obtain ⟨y1, hy1, e2⟩ := run_odd (P := Pr) (f := .law_odd) (tk := .law_take) rfl rfl (d + 3) g1
  rw [put_put] at e2
  have g2 := get_put_same (o' := .lst [.int (n1 / 17)]) g0
  obtain ⟨y2, hy2, e3⟩ := run_odd (P := Pr) (f := .law_odd) (tk := .law_take) rfl rfl (d + 3) g2
  rw [put_put] at e3
  have g3 := get_put_same (o' := .lst [.int (n1 / 17 / 17)]) g0
  obtain ⟨y3, hy3, e4⟩ := run_odd (P := Pr) (f := .law_odd) (tk := .law_take) rfl rfl (d + 3) g3
  rw [put_put] at e4
  have l2 := li_n (j := 2) (by decide)
  refine ⟨xs ++ [x, y1, .tup [y2, .int 2], .tup [.int 2, y3]], fr.set j (.lst [.int (n1 / 17 / 17 / 17)]), n1 / 17 / 17 / 17, ?_, set_at hj, ?_, by simp⟩
  · have hc := fun m => cat_lst (m := m) (xs := xs) (ys := [x, y1, .tup [y2, .int 2], .tup [.int 2, y3]]) (by simp; omega)
    rw [put_of] at e1 e2 e3 e4
    simp only [put_of] at e2 e3 e4
    simp [more, nth, outer, b_law_, e1, e2, e3, e4, hc]
  · intro z hz
    simp only [List.mem_append, List.mem_cons, List.not_mem_nil, or_false] at hz
    rcases hz with hz | rfl | rfl | rfl | rfl
    · exact hx z hz
    · exact h1
    · exact th_lf (lf_odd hy1)
    · exact th_one (xs := []) (ys := [.int 2]) (lf_odd hy2) (by simp) (by simp [l2])
    · exact th_one (xs := [.int 2]) (ys := []) (lf_odd hy3) (by simp) (by simp [l2])
end
theorem outer_ok (d : Nat) (ns : List Int) (k : Nat) (x2 x3 x4 x5 x6 x7 x8 x9 : Option D) (fr : List MO) : ∃ y2 y3 y4 y5 y6 y7 y8 y9 fr',
    exec (run Pr (d + 5)) outer [some (.scr (ns.map .int)), some (.int k), x2, x3, x4, x5, x6, x7, x8, x9] [fr] = .ok (.nx [some (.scr (ns.map .int)), some (.int k), y2, y3, y4, y5, y6, y7, y8, y9]) [fr'] := by
  obtain ⟨z, hz⟩ := run_cell (P := Pr) (f := .law_cell_at) rfl (d + 4) ns k [fr]
  obtain ⟨n, hn⟩ := run_pot (P := Pr) (f := .law_pot) rfl (d + 4) z fr []
  have s0 : exec (run Pr (d + 5)) (nth outer 0) [some (.scr (ns.map .int)), some (.int k), x2, x3, x4, x5, x6, x7, x8, x9] [fr] = .ok (.nx [some (.scr (ns.map .int)), some (.int k), some (.ref 0 fr.length), x3, x4, x5, x6, x7, x8, x9]) [fr ++ [.lst [.int n]]] := by
    simp at hn
    simp [nth, outer, b_law_, hz, hn]
  have hj : (fr ++ [.lst [.int n]])[fr.length]? = some (.lst [.int n]) := by simp
  generalize hfr : fr ++ [.lst [.int n]] = fr1 at s0 hj
  generalize fr.length = j at s0 hj
  clear hfr hn
  have g0 := get_of hj
  have e1 := run_take (P := Pr) (f := .law_take) rfl (d + 4) (far := 99) g0 (by omega) (by decide)
  have g1 := get_put_same (o' := .lst [.int (n / 99)]) g0
  have e2 := run_take (P := Pr) (f := .law_take) rfl (d + 4) (far := 99) g1 (by omega) (by decide)
  rw [put_put, put_of] at e2
  rw [put_of] at e1 e2
  generalize ha : n % 99 - 20 = a
  generalize hb : 1 + n / 99 % 99 = b
  have ha' : a.natAbs < 1000 := by omega
  have hb' : b.natAbs < 1000 := by omega
  have hbp : 0 < b := by omega
  have s1 : exec (run Pr (d + 5)) (nth outer 1) [some (.scr (ns.map .int)), some (.int k), some (.ref 0 j), x3, x4, x5, x6, x7, x8, x9] [fr1] = .ok (.nx [some (.scr (ns.map .int)), some (.int k), some (.ref 0 j), some (pr a b), x4, x5, x6, x7, x8, x9]) [fr1.set j (.lst [.int (n / 99 / 99)])] := by
    simp [nth, outer, b_law_, e1, e2, ha, hb, pr]
  have hj2 := set_at (o' := .lst [.int (n / 99 / 99)]) hj
  generalize fr1.set j (.lst [.int (n / 99 / 99)]) = fr2 at s1 hj2
  generalize n / 99 / 99 = n2 at hj2
  have s2 : exec (run Pr (d + 5)) (nth outer 2) [some (.scr (ns.map .int)), some (.int k), some (.ref 0 j), some (pr a b), x4, x5, x6, x7, x8, x9] [fr2] = .ok (.nx [some (.scr (ns.map .int)), some (.int k), some (.ref 0 j), some (pr a b), some (.lst [pr a b, pr a 0, pr a (0 - b), .tup [.bl true, .int 1], .tup [.int 0, .bl true], .lst [.int a, .int b], .tup [.int a, .int b, .int 1], .tup [.int 1]]), x5, x6, x7, x8, x9]) [fr2] := by
    have lt : ∀ m, built .list [pr a b] m = some (.lst [.int a, .int b]) := fun _ => rfl
    simp [nth, outer, b_law_, getAt0, getAt1, lt, cat_tup]
  have h0 := ths0 ha' hb' hbp
  generalize hxs : [pr a b, pr a 0, pr a (0 - b), .tup [.bl true, .int 1], .tup [.int 0, .bl true], .lst [.int a, .int b], .tup [.int a, .int b, .int 1], .tup [.int 1]] = xs at s2 h0
  have hxl : xs.length = 8 := by rw [← hxs]; rfl
  have hl3 : nth outer 3 = .for_ (.name 5) (.rng1 (.lit (.int 5))) more := rfl
  have s3 : ∃ fl m, exec (run Pr (d + 5)) (nth outer 3) [some (.scr (ns.map .int)), some (.int k), some (.ref 0 j), some (pr a b), some (.lst xs), x5, x6, x7, x8, x9] [fr2] = .ok fl m ∧ (∃ ys y5 fr', fl = .nx [some (.scr (ns.map .int)), some (.int k), some (.ref 0 j), some (pr a b), some (.lst ys), y5, x6, x7, x8, x9] ∧ m = [fr'] ∧ Ths ys ∧ ys.length ≤ 100) := by
    have e6 : ∀ (v : Fw.Env) (m : MH), exec (run Pr (d + 5)) (nth outer 3) v m = loop (run Pr (d + 5)) (.name 5) more (.items (rangeD 0 5)) v m := fun v m => by
      rw [hl3, x_for]
      simp
    rw [e6]
    refine Post.get (loop_inv (fun zs v m => ∃ ys y5 fr' n, v = [some (.scr (ns.map .int)), some (.int k), some (.ref 0 j), some (pr a b), some (.lst ys), y5, x6, x7, x8, x9] ∧ m = [fr'] ∧ fr'[j]? = some (.lst [.int n]) ∧ Ths ys ∧ ys.length + 4 * zs.length ≤ 28) ⟨xs, _, _, n2, rfl, rfl, hj2, h0, by rw [hxl]; decide⟩ ?_ ?_)
    · rintro v m ⟨ys, y5, fr', n, rfl, rfl, h, h2, h3⟩
      exact ⟨_, _, _, rfl, rfl, h2, by omega⟩
    · rintro x ds v m ⟨ys, y5, fr', n, rfl, rfl, h, h2, h3⟩
      simp only [List.length_cons] at h3
      obtain ⟨ys2, fr3, n3, e, q1, q2, q3⟩ := more_ok (d := d) ha' hb' h2 (by omega) (some (.scr (ns.map .int))) (some (.int k)) (some x) x6 x7 x8 x9 fr' j n h
      simp only [g_name, List.length_cons, List.length_nil, Nat.reduceAdd, Nat.reduceLT, if_true, List.set_cons_succ, List.set_cons_zero, Post.ok_iff, e]
      exact ⟨_, _, _, _, rfl, rfl, q1, q2, by omega⟩
  obtain ⟨fl, m, s3, ys, y5, fr3, rfl, rfl, hy, hyl⟩ := s3
  have hl4 : nth outer 4 = .for_ (.name 6) (.bin .add (.var 4) (.lst (.cons (.lit .non) (.cons (.lit (.str "1/2")) (.cons (.tup (.cons (.lit (.int 1)) (.cons (.lit .non) .nil))) (.cons (.tup (.cons (.lit (.str "1")) (.cons (.lit (.int 2)) .nil))) (.cons (.tup (.cons (.tup (.cons (.lit (.int 1)) (.cons (.lit (.int 2)) .nil))) (.cons (.lit (.int 1)) .nil))) (.cons (.dlit [1] [2]) (.cons (.lit (.int 3)) .nil))))))))) look := rfl
  have s4 : ∃ fl m, exec (run Pr (d + 5)) (nth outer 4) [some (.scr (ns.map .int)), some (.int k), some (.ref 0 j), some (pr a b), some (.lst ys), y5, x6, x7, x8, x9] [fr3] = .ok fl m ∧ (∃ y6 y7 y8 y9, fl = .nx [some (.scr (ns.map .int)), some (.int k), some (.ref 0 j), some (pr a b), some (.lst ys), y5, y6, y7, y8, y9] ∧ m = [fr3]) := by
    have e6 : ∀ (m : MH), exec (run Pr (d + 5)) (nth outer 4) [some (.scr (ns.map .int)), some (.int k), some (.ref 0 j), some (pr a b), some (.lst ys), y5, x6, x7, x8, x9] m = loop (run Pr (d + 5)) (.name 6) look (.items (ys ++ [.non, .str "1/2", .tup [.int 1, .non], .tup [.str "1", .int 2], .tup [pr 1 2, .int 1], .dct [1] [.int 2], .int 3])) [some (.scr (ns.map .int)), some (.int k), some (.ref 0 j), some (pr a b), some (.lst ys), y5, x6, x7, x8, x9] m := fun m => by
      have hc := cat_lst (m := m) (xs := ys) (ys := [.non, .str "1/2", .tup [.int 1, .non], .tup [.str "1", .int 2], .tup [pr 1 2, .int 1], .dct [1] [.int 2], .int 3]) (by simp; omega)
      rw [hl4, x_for]
      simp [hc, walked]
    rw [e6]
    refine Post.get (loop_inv (fun zs v m => ∃ y6 y7 y8 y9, v = [some (.scr (ns.map .int)), some (.int k), some (.ref 0 j), some (pr a b), some (.lst ys), y5, y6, y7, y8, y9] ∧ m = [fr3] ∧ Ths zs) ⟨_, _, _, _, rfl, rfl, ?_⟩ ?_ ?_)
    · intro z hz
      rcases List.mem_append.mp hz with hz | hz
      · exact hy z hz
      · exact ths1 z hz
    · rintro v m ⟨y6, y7, y8, y9, rfl, rfl, h⟩
      exact ⟨_, _, _, _, rfl, rfl⟩
    · rintro x ds v m ⟨y6, y7, y8, y9, rfl, rfl, h⟩
      have hs : Small a b := ⟨hbp, by omega, by omega, by omega⟩
      obtain ⟨z7, z8, e⟩ := look_ok (d := d) hs (th_r ha' hb') (h x List.mem_cons_self) (some (.scr (ns.map .int))) (some (.int k)) (some (.ref 0 j)) (some (.lst ys)) y5 y7 y8 y9 [fr3]
      simp only [g_name, List.length_cons, List.length_nil, Nat.reduceAdd, Nat.reduceLT, if_true, List.set_cons_succ, List.set_cons_zero, Post.ok_iff, e]
      exact ⟨_, _, _, _, rfl, trivial, fun x hx => h x (List.mem_cons_of_mem _ hx)⟩
  obtain ⟨fl, m, s4, y6, y7, y8, y9, rfl, rfl⟩ := s4
  have hi : outer = .cons (nth outer 0) (.cons (nth outer 1) (.cons (nth outer 2) (.cons (nth outer 3) (.cons (nth outer 4) .nil)))) := rfl
  refine ⟨some (.ref 0 j), some (pr a b), some (.lst ys), y5, y6, y7, y8, y9, fr3, ?_⟩
  rw [hi]
  simp only [x_cons, s0, s1, s2, s3, s4, Res.then_nx, x_nil]
theorem law_true (ns : List Int) (hl : ns.length ≤ 63) (_ : ∀ z ∈ ns, Builtin.Int.intBits z ≤ 1048576) : ∃ d, d ≤ 40 ∧ run prg.P d .law_ [.scr (ns.map .int)] [] = .ok (.bl true) [] := by
  refine ⟨6, by omega, ?_⟩
  show run Pr 6 .law_ [.scr (ns.map .int)] [] = _
  rw [R_law_]
  have hb : b_law_ = .cons (.for_ (.name 1) (.rng1 (.bi .max (.cons (.lit (.int 1)) (.cons (.bi .min (.cons (.bi .len (.cons (.var 0) .nil)) (.cons (.lit (.int 4)) .nil))) .nil)))) outer) (.cons (.ret (.lit (.bl true))) .nil) := rfl
  have key : ∀ n : Int, -(2 ^ 62) ≤ n ∧ n < 2 ^ 62 → ∃ fl m, loop (run Pr 5) (.name 1) outer (.items (rangeD 0 n)) [some (.scr (ns.map .int)), none, none, none, none, none, none, none, none, none] [[]] = .ok fl m ∧ (∃ v fr, fl = .nx v ∧ m = [fr]) := by
    intro n hn
    refine Post.get (loop_inv (fun xs v m => ∃ y1 y2 y3 y4 y5 y6 y7 y8 y9 fr', v = [some (.scr (ns.map .int)), y1, y2, y3, y4, y5, y6, y7, y8, y9] ∧ m = [fr'] ∧ ∀ x ∈ xs, ∃ k : Nat, x = .int k) ⟨_, _, _, _, _, _, _, _, _, _, rfl, rfl, fun x hx => ?_⟩ ?_ ?_)
    · simp only [rangeD, List.mem_map, List.mem_range] at hx
      obtain ⟨k, hk, rfl⟩ := hx
      exact ⟨k, by simp⟩
    · rintro v m ⟨y1, y2, y3, y4, y5, y6, y7, y8, y9, fr', rfl, rfl, h⟩
      exact ⟨_, _, rfl, rfl⟩
    · rintro x ds v m ⟨y1, y2, y3, y4, y5, y6, y7, y8, y9, fr', rfl, rfl, h⟩
      obtain ⟨k, rfl⟩ := h x List.mem_cons_self
      obtain ⟨q2, q3, q4, q5, q6, q7, q8, q9, fr2, e⟩ := outer_ok 0 ns k y2 y3 y4 y5 y6 y7 y8 y9 fr'
      simp only [g_name, List.length_cons, List.length_nil, Nat.reduceAdd, Nat.reduceLT, if_true, List.set_cons_succ, List.set_cons_zero, Post.ok_iff]
      simp only [Nat.zero_add] at e
      rw [e]
      exact ⟨_, _, _, _, _, _, _, _, _, _, rfl, rfl, fun x hx => h x (List.mem_cons_of_mem _ hx)⟩
  have hr : ∃ n : Int, (-(2 ^ 62) ≤ n ∧ n < 2 ^ 62) ∧ built .max [.int 1, .int (if 4 < (ns.length : Int) then 4 else ns.length)] [[]] = some (.int n) := by
    refine ⟨if (if 4 < (ns.length : Int) then 4 else (ns.length : Int)) > 1 then (if 4 < (ns.length : Int) then 4 else ns.length) else 1, ?_, rfl⟩
    split <;> split <;> omega
  obtain ⟨n, hn, e1⟩ := hr
  obtain ⟨fl, m, e2, v, fr, rfl, rfl⟩ := key n hn
  rw [hb]
  simp only [x_cons, x_for, w_rng1]
  have e0 : ∀ m, built .min [.int (ns.length : Int), .int 4] m = some (.int (if 4 < (ns.length : Int) then 4 else ns.length)) := fun m => rfl
  have e3 : built .len [.scr (ns.map .int)] [[]] = some (.int ns.length) := by simp [built, lenD, seqOf]
  have hn' : -4611686018427387904 ≤ n ∧ n < 4611686018427387904 := by omega
  simp [e3, e0, e1, hn'.1, hn'.2, e2, left, leave, D.bd]
end Law

open PySem PySem.W PySem.Calls PyProof.Rows
theorem PySem.Challenge.cw_fadewalk_k02_fractions_refused_holds : PySem.Challenge.rw_fadewalk_k02_fractions_refused.Holds := by
  w_on; o_law
  refine HandSHeadRun.head_any (r := OpenLaw.row PySem.Challenge.rw_fadewalk_k02_fractions_refused) (q := view (OpenLaw.row PySem.Challenge.rw_fadewalk_k02_fractions_refused).prog [24]) (H := Law.hk) (ob := Law.ob) (M := 4000) (loose := ["FadeError", "NoFraction", "NoLot", "NoBound", "is_whole", "common", "is_fraction", "need_fraction", "plain_of", "plain", "added", "multiplied", "is_less", "_law_cell_at", "_law_pot", "_law_take", "_law_whole", "_law_odd", "_law_bent", "_law_heard", "_law_is_fraction"]) (d := HandSHeadRun.topDef (OpenLaw.row PySem.Challenge.rw_fadewalk_k02_fractions_refused).prog 24) (kwd := []) Law.ob_eq
    (by kernel_rfl) (fun s => by kernel_rfl) Law.run_eq (by kernel_rfl) (by kernel_rfl) (by kernel_rfl) (by rfl) (by first | assumption | decide +kernel) (by decide +kernel) ⟨rfl, rfl, rfl, rfl, rfl, by decide +kernel⟩ ?hw ?hc
  case hw => w_witness2
  case hc =>
    refine Fw.walk_end (l := PySem.Challenge.rw_fadewalk_k02_fractions_refused) (p := Law.prg) (f := .law_) (x := "_law_script") rfl (by kernel_rfl) Law.prg_ok Law.cl_ok rfl ?hY Law.law_true
    intro w mg fa h Y G hmg0
    obtain ⟨K, KX, c, cx⟩ := Y
    have hmg : mg ("law" : PySem.Str) = some (.ref fa) := by
      have e : (HandSHeadRun.topDef (OpenLaw.row PySem.Challenge.rw_fadewalk_k02_fractions_refused).prog 24).name = ("law" : PySem.Str) := by kernel_rfl
      rw [← e]
      exact hmg0
    exact ⟨K, KX, hmg, Law.laid KX G c cx, fun s u => L2.FunD.bindsA (ps := ["_law_script"]) ((Law.laid KX G c cx).def_ .law_) (fun _ _ _ _ _ _ us hl => match us, hl with | [_], _ => rfl) s [u] rfl⟩
