import PyProof.Rows.All
import HandS.ForExc
import HandS.Comp
import HandS.Lambda
import HandS.Wide
import HandS.Deep
import HandS.Zip
import HandS.Iter
import HandS.FStr
import HandS.TupAny
import HandS.TupMul
import HandS.NoneIn
import HandS.SetFor
import HandS.Strs
import HandS.WideBits
import KE.KDictDisplayH
import HandS.ExcCtx
import HandS.Hot
import HandS.HotCalls
import HandS.ExcIs
import HandS.IsInst
import HandS.Conv
import KE.SortData
import HandS.Flow
import HandS.SetKeys
import HandS.Style
import KE.GoesMore
import HandS.Ends
import PySem.Challenge.RW_cellshapes_k12_whole_bricks_in_boxes
set_option linter.all false
set_option Elab.async false
/-! An evaluator of our own over plain data: values, objects, expressions, statements, calls. -/
namespace Ip
open PySem

abbrev D := PyData

/-- a value: plain data that nobody changes; an object of this run that may change; a def -/
inductive Val where
  | d (x : D)
  | ref (n : Nat)
  | fn (f : Nat)

/-- a dict: keys that are ints and texts; tuples of them -/
inductive Dc where
  | k (kvs : List (L2.Key × Val))
  | t (kvs : List (List L2.Key × Val))
inductive IO where
  | lst (xs : List Val)
  | dead (x : D)
  | dct (c : Dc)
  | tx (ds : List D)
  | dl (kvs : List (L2.Key × Val))

def IO.alive : IO → Bool
  | .dead _ => false
  | .tx _ => false
  | .dl _ => false
  | _ => true
abbrev Hq := List IO
abbrev Sg := List (Option Val)

structure Exc where
  cls : Nat
  arg : Option D

inductive R (α : Type) where
  | ok (a : α) (h : Hq)
  | er (e : Exc) (h : Hq)
  | no

def R.bind {α β : Type} (r : R α) (f : α → Hq → R β) : R β :=
  match r with
  | .ok a h => f a h
  | .er e h => .er e h
  | .no => .no
@[simp] theorem R.bind_ok {α β : Type} (a : α) (h : Hq) (f : α → Hq → R β) : (R.ok a h).bind f = f a h := rfl
@[simp] theorem R.bind_er {α β : Type} (e : Exc) (h : Hq) (f : α → Hq → R β) : (R.er e h : R α).bind f = R.er e h := rfl
@[simp] theorem R.bind_no {α β : Type} (f : α → Hq → R β) : (R.no : R α).bind f = R.no := rfl
theorem R.bind_assoc {α β γ : Type} (r : R α) (f : α → Hq → R β) (g : β → Hq → R γ) : (r.bind f).bind g = r.bind fun a h => (f a h).bind g := by cases r <;> rfl
/-- nothing may be raised -/
def R.quiet {α : Type} (r : R α) : R α := match r with
  | .er _ _ => .no
  | r => r
@[simp] theorem R.quiet_ok {α : Type} (a : α) (h : Hq) : (R.ok a h).quiet = .ok a h := rfl
@[simp] theorem R.quiet_no {α : Type} : (R.no : R α).quiet = .no := rfl
/-- a look that may fail -/
def R.of {α : Type} (o : Option α) (h : Hq) : R α := match o with | some a => .ok a h | none => .no
@[simp] theorem R.of_some {α : Type} (a : α) (h : Hq) : R.of (some a) h = .ok a h := rfl
@[simp] theorem R.of_none {α : Type} (h : Hq) : (R.of none h : R α) = .no := rfl

inductive Flow where
  | nx (σ : Sg)
  | bk (σ : Sg)
  | ct (σ : Sg)
  | rt (v : Val)

/-! ### looking at values -/
def allO (f : Val → Option D) : List Val → Option (List D)
  | [] => some []
  | v :: vs => match f v, allO f vs with
    | some x, some xs => some (x :: xs)
    | _, _ => none
/-- the data that a value is now -/
def pk (h : Hq) : Nat → Val → Option D
  | 0, v => match v with
    | .d x => some x
    | _ => none
  | n + 1, v => match v with
    | .d x => some x
    | .ref a => match h[a]? with
      | some (.lst vs) => (allO (pk h n) vs).map .list
      | some (.dead x) => some x
      | some (.tx ds) => some (.tuple ds)
      | _ => none
    | .fn _ => none
abbrev pks (h : Hq) (n : Nat) (vs : List Val) : Option (List D) := allO (pk h n) vs
abbrev peek (h : Hq) (v : Val) : Option D := pk h 3 v

def dat : Val → Option D
  | .d x => some x
  | _ => none
def dats : List Val → Option (List D)
  | [] => some []
  | v :: vs => match dat v, dats vs with
    | some x, some xs => some (x :: xs)
    | _, _ => none
/-- a value that becomes data: the object changes no more (its items are data) -/
def toD (v : Val) (h : Hq) : R D := match v with
  | .d x => .ok x h
  | .ref a => match h[a]? with
    | some (.lst vs) => match dats vs with
      | some ds => .ok (.list ds) (h.set a (.dead (.list ds)))
      | none => .no
    | some (.dead x) => .ok x h
    | some (.tx ds) => .ok (.tuple ds) h
    | _ => .no
  | .fn _ => .no
def toDs : List Val → Hq → R (List D)
  | [], h => .ok [] h
  | v :: vs, h => (toD v h).bind fun x h1 => (toDs vs h1).bind fun xs h2 => .ok (x :: xs) h2

mutual
/-- no list within -/
def flat : D → Bool
  | .none | .bool _ | .int _ | .str _ => true
  | .tuple xs => flatAll xs
  | .list _ => false
  | .dict _ => false
def flatAll : List D → Bool
  | [] => true
  | x :: xs => flat x && flatAll xs
end

/-- the items of a list or tuple -/
def els (h : Hq) : Val → Option (List Val)
  | .d (.list xs) => some (xs.map .d)
  | .d (.tuple xs) => some (xs.map .d)
  | .ref n => match h[n]? with
    | some (.lst vs) => some vs
    | some (.dead (.list xs)) => some (xs.map .d)
    | some (.tx ds) => some (ds.map .d)
    | _ => none
  | _ => none

def fits (n : Nat) : Bool := decide (n ≤ 16777216)
def truthD : D → Option Bool
  | .none => some false
  | .bool b => some b
  | .int i => some (i != 0)
  | .str s => if fits s.length then some (s.length != 0) else none
  | .list xs => some (!xs.isEmpty)
  | .tuple xs => some (!xs.isEmpty)
  | .dict _ => none
def tru (v : Val) (h : Hq) : R Bool := match peek h v with
  | some x => R.of (truthD x) h
  | none => .no

/-! ### operators -/
inductive Bop | add | sub | mul | fdiv | mod | pow
inductive Cop | eq | ne | lt | le | gt | ge | isN | notN | inn | nin

def okMul (i j : Int) : Bool := decide (i.natAbs.log2 + j.natAbs.log2 < 900000)
def okDiv (j : Int) : Bool := decide (j ≠ 0) && decide (j.natAbs.log2 < 8000)
def okPow (i j : Int) : Bool := decide (0 ≤ j) && decide (j ≤ 1000000) && decide (i.natAbs.log2 < 64)

def binD : Bop → D → D → Option D
  | .add, .int i, .int j => some (.int (i + j))
  | .add, .str x, .str y => if fits (x.length + y.length) then some (.str (x ++ y)) else none
  | .sub, .int i, .int j => some (.int (i - j))
  | .mul, .int i, .int j => if okMul i j then some (.int (i * j)) else none
  | .fdiv, .int i, .int j => if okDiv j then some (.int (i.fdiv j)) else none
  | .mod, .int i, .int j => if j = 0 then none else some (.int (i.fmod j))
  | .pow, .int i, .int j => if okPow i j then some (.int (i ^ j.toNat)) else none
  | _, _, _ => none

def cmpD : Cop → D → D → Option Bool
  | .eq, .int x, .int y => some (decide (x = y))
  | .ne, .int x, .int y => some (!decide (x = y))
  | .eq, .str x, .str y => some (decide (x = y))
  | .ne, .str x, .str y => some (!decide (x = y))
  | .eq, x, y => if SeqAt.shaped x && SeqAt.shaped y then some (PyData.eqv x y) else none
  | .ne, x, y => if SeqAt.shaped x && SeqAt.shaped y then some (!PyData.eqv x y) else none
  | .lt, .int i, .int j => some (decide (i < j))
  | .le, .int i, .int j => some (decide (i ≤ j))
  | .gt, .int i, .int j => some (decide (j < i))
  | .ge, .int i, .int j => some (decide (j ≤ i))
  | .isN, x, .none => some (match x with | .none => true | _ => false)
  | .notN, x, .none => some (match x with | .none => false | _ => true)
  | .inn, d, .list ds => if SeqAt.shaped d && SeqAt.shaped (.list ds) then some (ds.any fun z => PyData.eqv z d) else none
  | .nin, d, .list ds => if SeqAt.shaped d && SeqAt.shaped (.list ds) then some (!ds.any fun z => PyData.eqv z d) else none
  | .inn, d, .tuple ds => if SeqAt.shaped d && SeqAt.shaped (.tuple ds) then some (ds.any fun z => PyData.eqv z d) else none
  | .nin, d, .tuple ds => if SeqAt.shaped d && SeqAt.shaped (.tuple ds) then some (!ds.any fun z => PyData.eqv z d) else none
  | _, _, _ => none

/-- Python's place of an index -/
def ixn (n : Nat) (i : Int) : Option Nat := if 0 ≤ i then (if i < n then some i.toNat else none) else if -(n : Int) ≤ i then some (i + n).toNat else none
def atD (xs : List Val) (i : Int) : Option Val := match ixn xs.length i with | some j => xs[j]? | none => none
/-- an end of a slice -/
def cutIx (n d : Nat) : Option Int → Nat
  | none => d
  | some i => if i < 0 then (i + n).toNat else min i.toNat n
def cutD {α : Type} (xs : List α) (lo hi : Option Int) : List α := (xs.drop (cutIx xs.length 0 lo)).take (cutIx xs.length xs.length hi - cutIx xs.length 0 lo)

/-! ### built-ins by their data -/
inductive Prm | len | abs | int | str | repr | sum | max1 | min1 | max2 | min2 | all | any

def intsOf : List D → Option (List Int)
  | [] => some []
  | .int i :: r => (intsOf r).map (i :: ·)
  | _ => none
def boolsOf : List D → Option (List Bool)
  | [] => some []
  | .bool i :: r => (boolsOf r).map (i :: ·)
  | _ => none
def maxI : Int → List Int → Int
  | m, [] => m
  | m, x :: r => maxI (if x > m then x else m) r
def minI : Int → List Int → Int
  | m, [] => m
  | m, x :: r => minI (if x < m then x else m) r
def sumI : List Int → Int
  | [] => 0
  | x :: r => x + sumI r

def prmD : Prm → List D → Option D
  | .len, [.list xs] => some (.int xs.length)
  | .len, [.tuple xs] => some (.int xs.length)
  | .len, [.str s] => if fits s.length then some (.int s.length) else none
  | .abs, [.int i] => some (.int (if i < 0 then -i else i))
  | .int, [.int i] => some (.int i)
  | .int, [.bool b] => some (.int (if b then 1 else 0))
  | .str, [.int i] => if i.natAbs.log2 < 1920 then some (.str (toString i)) else none
  | .repr, [.list xs] => if (PyData.list xs).showable && !(PyData.list xs).hasDict && decide ((PyData.list xs).depth ≤ 60) && fits (PyData.list xs).shown.length then some (.str (PyData.list xs).shown) else none
  | .repr, [.tuple xs] => if (PyData.tuple xs).showable && !(PyData.tuple xs).hasDict && decide ((PyData.tuple xs).depth ≤ 60) && fits (PyData.tuple xs).shown.length then some (.str (PyData.tuple xs).shown) else none
  | .sum, [.list xs] => (intsOf xs).map fun ns => .int (sumI ns)
  | .sum, [.tuple xs] => (intsOf xs).map fun ns => .int (sumI ns)
  | .max1, [.list xs] => match intsOf xs with | some (n :: ns) => some (.int (maxI n ns)) | _ => none
  | .min1, [.list xs] => match intsOf xs with | some (n :: ns) => some (.int (minI n ns)) | _ => none
  | .max2, [.int i, .int j] => some (.int (if j > i then j else i))
  | .min2, [.int i, .int j] => some (.int (if j < i then j else i))
  | .all, [.list xs] => (boolsOf xs).map fun bs => .bool (bs.all id)
  | .any, [.list xs] => (boolsOf xs).map fun bs => .bool (bs.any id)
  | _, _ => none

/-! ### syntax -/
inductive Tgt where
  | nm (i : Nat)
  | tp (is : List Nat)

mutual
inductive Ex where
  | lit (x : D)
  | var (i : Nat)
  | fnv (f : Nat)
  | bin (o : Bop) (a b : Ex)
  | neg (a : Ex)
  | cmp (o : Cop) (a b : Ex)
  | chn (o o' : Cop) (a b c : Ex)
  | and_ (a b : Ex)
  | or_ (a b : Ex)
  | not_ (a : Ex)
  | ife (c a b : Ex)
  | tup (xs : List Ex)
  | ofL (l : Lx)
  | new (l : Lx)
  | ix (a b : Ex)
  | slc (a : Ex) (lo hi : Option Ex)
  | call (f : Nat) (xs : List Ex)
  | prm (p : Prm) (xs : List Ex)
  | app (o a : Ex)
  | fmt (a : Ex)
  | fst (xs : List Ex)
  | frz (a : Ex)
  | nev
  | tupO (a : Ex)
  | pop (o : Ex)
  | told (ws : List Str) (a : Ex)
  | ext (o : Ex) (l : Lx)
  | tix (o a : Ex)
  | tupX (xs : List Ex)
  | repX (a b : Ex)
  | tupL (a : Ex)
  | dvm (a b : Ex)
  | lset (a : Ex)
  | dnew (t : Bool)
  | ddsp (t : Bool) (k v : Ex)
  | lidx (o a : Ex)
  | dgt (o k d : Ex)
  | sdf (o k d : Ex)
  | rev (a : Ex)
  | frzD (a : Ex)
/-- a list that is made here -/
inductive Lx where
  | dsp (xs : List Ex)
  | lst (a : Ex)
  | cat (a b : Ex)
  | rep (l : Lx) (b : Ex)
  | cmp (own : List Nat) (t : Tgt) (s : Sx) (ifs : List Ex) (e : Ex)
/-- what is walked -/
inductive Sx where
  | val (a : Ex)
  | rng (a : Ex)
  | rng2 (a b : Ex)
  | zip (a b : Ex)
  | rng3 (a b c : Ex)
  | enm (a : Ex)
  | keys (a : Ex)
  | vals (a : Ex)
end

inductive St where
  | set (i : Nat) (e : Ex)
  | asg (t : Tgt) (e : Ex)
  | par (i j : Nat) (a b : Ex)
  | six (o i e : Ex)
  | exp (e : Ex)
  | iff (c : Ex) (a b : List St)
  | for_ (t : Tgt) (s : Sx) (b : List St)
  | whl (c : Ex) (b : List St)
  | ret (e : Ex)
  | retN
  | brk
  | cnt
  | pas
  | rse (c : Nat)
  | nev

/-! ### walks -/
def bindT (h : Hq) : Tgt → Val → Sg → Option Sg
  | .nm i, v, σ => some (σ.set i (some v))
  | .tp is, v, σ => match els h v with
    | some vs => if vs.length = is.length then some ((is.zip vs).foldl (fun s p => s.set p.1 (some p.2)) σ) else none
    | none => none
def wipe (σ : Sg) : List Nat → Sg
  | [] => σ
  | i :: is => (wipe σ is).set i none

/-- what a statement brings about -/
inductive RF where
  | ok (fl : Flow) (h : Hq)
  | er (e : Exc) (σ : Sg) (h : Hq)
  | no
/-- an expression, then a statement's rest -/
def R.thn {α : Type} (r : R α) (σ : Sg) (f : α → Hq → RF) : RF := match r with
  | .ok a h => f a h
  | .er e h => .er e σ h
  | .no => .no
@[simp] theorem R.thn_ok {α : Type} (a : α) (h : Hq) (σ : Sg) (f : α → Hq → RF) : (R.ok a h).thn σ f = f a h := rfl
@[simp] theorem R.thn_er {α : Type} (e : Exc) (h : Hq) (σ : Sg) (f : α → Hq → RF) : (R.er e h : R α).thn σ f = .er e σ h := rfl
@[simp] theorem R.thn_no {α : Type} (σ : Sg) (f : α → Hq → RF) : (R.no : R α).thn σ f = .no := rfl
/-- a statement, then the next -/
def RF.thn (r : RF) (f : Sg → Hq → RF) : RF := match r with
  | .ok (.nx σ) h => f σ h
  | r => r
/-- a loop's body, then the next turn -/
def RF.turn (r : RF) (f : Sg → Hq → RF) : RF := match r with
  | .ok (.nx σ) h => f σ h
  | .ok (.ct σ) h => f σ h
  | .ok (.bk σ) h => .ok (.nx σ) h
  | r => r
@[simp] theorem RF.thn_nx (σ : Sg) (h : Hq) (f : Sg → Hq → RF) : (RF.ok (.nx σ) h).thn f = f σ h := rfl
@[simp] theorem RF.turn_nx (σ : Sg) (h : Hq) (f : Sg → Hq → RF) : (RF.ok (.nx σ) h).turn f = f σ h := rfl
@[simp] theorem RF.turn_ct (σ : Sg) (h : Hq) (f : Sg → Hq → RF) : (RF.ok (.ct σ) h).turn f = f σ h := rfl
@[simp] theorem RF.turn_bk (σ : Sg) (h : Hq) (f : Sg → Hq → RF) : (RF.ok (.bk σ) h).turn f = .ok (.nx σ) h := rfl
def forL (f : Val → Sg → Hq → RF) : List Val → Sg → Hq → RF
  | [], σ, h => .ok (.nx σ) h
  | v :: vs, σ, h => (f v σ h).turn fun σ' h1 => forL f vs σ' h1
/-- the items of a list -/
def elsL (h : Hq) : Val → Option (List Val)
  | .d (.list xs) => some (xs.map .d)
  | .ref n => match h[n]? with
    | some (.lst vs) => some vs
    | some (.dead (.list xs)) => some (xs.map .d)
    | _ => none
  | _ => none
/-- over an object, as it stands at each turn -/
def forO (f : Val → Sg → Hq → RF) (n : Nat) : Nat → Nat → Sg → Hq → RF
  | 0, _, _, _ => .no
  | w + 1, i, σ, h => match elsL h (.ref n) with
    | none => .no
    | some vs => match vs[i]? with
      | none => .ok (.nx σ) h
      | some v => (f v σ h).turn fun σ' h1 => forO f n w (i + 1) σ' h1
def whlN (c : Sg → Hq → R Bool) (f : Sg → Hq → RF) : Nat → Sg → Hq → RF
  | 0, _, _ => .no
  | w + 1, σ, h => (c σ h).thn σ fun b h1 => if b then (f σ h1).turn fun σ' h2 => whlN c f w σ' h2 else .ok (.nx σ) h1
def cmpL (f : Val → Hq → R (List Val)) : List Val → Hq → R (List Val)
  | [], h => .ok [] h
  | v :: vs, h => (f v h).bind fun ws h1 => (cmpL f vs h1).bind fun us h2 => .ok (ws ++ us) h2
def rangeL : Int → Nat → List Val
  | _, 0 => []
  | i, n + 1 => .d (.int i) :: rangeL (i + 1) n
/-- a range with a step -/
def rangeC : Int → Int → Nat → List Val
  | _, _, 0 => []
  | i, c, n + 1 => .d (.int i) :: rangeC (i + c) c n
def stepN (i j c : Int) : Nat := if i < j then ((j - i - 1) / c + 1).toNat else 0
def okStep (c : Int) : Bool := decide (0 < c) && decide (c.natAbs.log2 < 29)
/-- the pairs of an enumerate -/
def enumD (xs : List D) : List Val := xs.zipIdx.map fun p => .d (.tuple [.int (p.2 : Int), p.1])
def okRng (i : Int) : Bool := decide (i.natAbs.log2 < 62)

abbrev Orc := Nat → List Val → Hq → R Val
/-- what is walked: data, or an object -/
inductive Sv where
  | data (vs : List Val)
  | obj (n : Nat)

def binV (o : Bop) (x y : Val) (h : Hq) : R Val := match peek h x, peek h y with
  | some a, some b => match binD o a b with
    | some c => .ok (.d c) h
    | none => .no
  | _, _ => .no
def cmpW (o : Cop) (x y : Val) (h : Hq) : R Bool := match peek h x, peek h y with
  | some a, some b => match cmpD o a b with
    | some c => .ok c h
    | none => .no
  | _, _ => .no
/-! ### dicts -/
def keyK : D → Option L2.Key
  | .int i => some (.inl i)
  | .str x => some (.inr x)
  | _ => none
def keyKs : List D → Option (List L2.Key)
  | [] => some []
  | d :: ds => match keyK d, keyKs ds with
    | some k, some ks => some (k :: ks)
    | _, _ => none
def keyT : D → Option (List L2.Key)
  | .tuple ds => keyKs ds
  | _ => none
def lookK {κ : Type} [DecidableEq κ] (kvs : List (κ × Val)) (k : κ) : Option Val := (kvs.find? fun p => decide (p.1 = k)).map (·.2)
def storK {κ : Type} [DecidableEq κ] (kvs : List (κ × Val)) (k : κ) (v : Val) : List (κ × Val) :=
  if (kvs.any fun p => decide (p.1 = k)) = true then kvs.map (fun p => if p.1 = k then (p.1, v) else p) else kvs ++ [(k, v)]
def dropD {κ : Type} [DecidableEq κ] (kvs : List (κ × Val)) (k : κ) : List (κ × Val) := kvs.filter fun p => decide (p.1 ≠ k)
/-- the dict at a value -/
def dct (h : Hq) : Val → Option Dc
  | .ref n => match h[n]? with
    | some (.dct c) => some c
    | _ => none
  | _ => none
/-- the dict at a value, locked or not -/
def dctR (h : Hq) : Val → Option Dc
  | .ref n => match h[n]? with
    | some (.dct c) => some c
    | some (.dl kvs) => some (.k kvs)
    | _ => none
  | _ => none
/-- what it holds at a key; none: no key of its kind -/
def Dc.get : Dc → Val → Option (Option Val)
  | .k kvs, .d d => (keyK d).map (lookK kvs)
  | .t kvs, .d d => (keyT d).map (lookK kvs)
  | _, _ => none
def Dc.put : Dc → Val → Val → Option Dc
  | .k kvs, .d d, v => match keyK d with
    | some q => if kvs.length < 16777216 then some (.k (storK kvs q v)) else none
    | none => none
  | .t kvs, .d d, v => match keyT d with
    | some q => if kvs.length < 16777216 then some (.t (storK kvs q v)) else none
    | none => none
  | _, _, _ => none
def Dc.len : Dc → Nat
  | .k kvs => kvs.length
  | .t kvs => kvs.length
def dgetV (c : Dc) (y : Val) (h : Hq) : R Val := match c.get y with
  | some (some v) => .ok v h
  | _ => .no
def dinV (c : Dc) (x : Val) (h : Hq) : R Bool := match c.get x with
  | some o => .ok o.isSome h
  | none => .no
def ixW (x y : Val) (h : Hq) : R Val := match els h x, y with
  | some vs, .d (.int i) => match atD vs i with
    | some v => .ok v h
    | none => .no
  | none, .d (.int i) => match x with
    | .d (.str z) => if fits z.length then match ixn z.cps.toList.length i with
        | some j => match z.cps.toList[j]? with
          | some c => .ok (.d (.str ⟨#[c]⟩)) h
          | none => .no
        | none => .no
      else .no
    | _ => .no
  | _, _ => .no
def ixV (x y : Val) (h : Hq) : R Val := match dctR h x with
  | some c => dgetV c y h
  | none => ixW x y h
def cmpV (o : Cop) (x y : Val) (h : Hq) : R Bool := match dct h y with
  | some c => match o with
    | .inn => dinV c x h
    | .nin => (dinV c x h).bind fun b h1 => .ok (!b) h1
    | _ => .no
  | none => cmpW o x y h
def slcV (x : Val) (l u : Option Int) (h : Hq) : R Val := match elsL h x with
  | some vs => (toDs (cutD vs l u) h).bind fun ds h1 => .ok (.d (.list ds)) h1
  | none => match x with
    | .d (.tuple xs) => .ok (.d (.tuple (cutD xs l u))) h
    | .d (.str z) => if fits z.length then .ok (.d (.str ⟨(cutD z.cps.toList l u).toArray⟩)) h else .no
    | _ => .no
/-- a list that may change -/
def lstV (x : Val) (h : Hq) : R Unit := match x with
  | .ref n => match h[n]? with
    | some (.lst _) => .ok () h
    | _ => .no
  | _ => .no
def prmV (p : Prm) (vs : List Val) (h : Hq) : R Val := match pks h 3 vs with
  | some ds => match prmD p ds with
    | some c => .ok (.d c) h
    | none => .no
  | none => .no
def appV (o v : Val) (h : Hq) : R Val := match o with
  | .ref n => match h[n]? with
    | some (.lst vs) => if vs.length < 16777216 then .ok (.d .none) (h.set n (.lst (vs ++ [v]))) else .no
    | _ => .no
  | _ => .no
def setW (o i v : Val) (h : Hq) : R Unit := match o, i with
  | .ref n, .d (.int k) => match h[n]? with
    | some (.lst vs) => match ixn vs.length k with
      | some j => .ok () (h.set n (.lst (vs.set j v)))
      | none => .no
    | _ => .no
  | _, _ => .no
def setD (o i v : Val) (h : Hq) : R Unit := match o with
  | .ref n => match h[n]? with
    | some (.dct c) => match c.put i v with
      | some c' => .ok () (h.set n (.dct c'))
      | none => .no
    | _ => .no
  | _ => .no
def setV (o i v : Val) (h : Hq) : R Unit := match dct h o with
  | some _ => setD o i v h
  | none => setW o i v h
/-- divmod -/
def dvmV (x y : Val) (h : Hq) : R Val := match x, y with
  | .d (.int i), .d (.int j) => if 0 < j && okDiv j then .ok (.d (.tuple [.int (i / j), .int (i % j)])) h else .no
  | _, _ => .no
/-- how many different ones -/
def distI : List Int → List Int
  | [] => []
  | x :: r => if x ∈ r then distI r else x :: distI r
def lsetV (x : Val) (h : Hq) : R Val := match x with
  | .d (.tuple xs) => match intsOf xs with
    | some ns => if ns.length ≤ 1000 then .ok (.d (.int (distI ns).length)) h else .no
    | none => .no
  | _ => .no
/-- an exact tuple -/
def txV (x : Val) (h : Hq) : R (List D) := match x with
  | .ref n => match h[n]? with
    | some (.tx ds) => .ok ds h
    | _ => .no
  | _ => .no
/-- the place of a value in a tuple -/
def tixV (xs : List D) (y : Val) (h : Hq) : R Val := match y with
  | .d (.int k) => match intsOf xs with
    | some ns => match ns.findIdx? (· == k) with
      | some j => .ok (.d (.int j)) h
      | none => .no
    | none => .no
  | _ => .no
def repX (x : Val) (ds : List D) (y : Val) (h : Hq) : R Val := match y with
  | .d (.int k) => if k = 1 then .ok x h else if !ds.isEmpty && decide (ds.length ≤ 1000) && decide (k.natAbs.log2 < 9) && decide (2 ≤ k) then .ok (.ref h.length) (h ++ [.tx (List.replicate k.toNat ds).flatten]) else .no
  | _ => .no
/-- a list grows by new ones -/
def extV (o : Val) (vs : List Val) (h : Hq) : R Val := match o with
  | .ref n => match h[n]? with
    | some (.lst us) => if fits (us.length + vs.length) then .ok (.d .none) (h.set n (.lst (us ++ vs))) else .no
    | _ => .no
  | _ => .no
/-- a dict with one pair -/
def dspV (t : Bool) (k v : Val) (h : Hq) : R Val := match (if t then Dc.t [] else Dc.k []).put k v with
  | some c => .ok (.ref h.length) (h ++ [.dct c])
  | none => .no
/-- the place of an int in a list -/
def lidxV (x y : Val) (h : Hq) : R Val := match elsL h x with
  | some vs => match dats vs with
    | some ds => match intsOf ds, y with
      | some ns, .d (.int k) => match ns.findIdx? (· == k) with
        | some j => .ok (.d (.int j)) h
        | none => .no
      | _, _ => .no
    | none => .no
  | none => .no
/-- a dict with scalar keys -/
def dctK (x : Val) (h : Hq) : R Unit := match dct h x with
  | some (.k _) => .ok () h
  | _ => .no
/-- d.get(k, x) -/
def dgtV (x y z : Val) (h : Hq) : R Val := match dct h x, y with
  | some (.k kvs), .d d => match keyK d with
    | some k => .ok ((lookK kvs k).getD z) h
    | none => .no
  | _, _ => .no
/-- d.setdefault(k, x) -/
def sdfV (x y z : Val) (h : Hq) : R Val := match x, y with
  | .ref n, .d d => match h[n]? with
    | some (.dct (.k kvs)) => match keyK d with
      | some k => if kvs.length < 16777216 then match lookK kvs k with
          | some v => .ok v h
          | none => .ok z (h.set n (.dct (.k (storK kvs k z))))
        else .no
      | none => .no
    | _ => .no
  | _, _ => .no
def revV (x : Val) (h : Hq) : R Val := match x with
  | .d (.tuple xs) => .ok (.d (.tuple xs.reverse)) h
  | .d (.list xs) => .ok (.d (.list xs.reverse)) h
  | _ => .no
/-- a list of lists becomes data -/
def toDD (x : Val) (h : Hq) : R D := match x with
  | .d x => .ok x h
  | .ref n => match h[n]? with
    | some (.lst vs) => (toDs vs h).bind fun ds h1 => match h1[n]? with
      | some (.lst _) => .ok (.list ds) (h1.set n (.dead (.list ds)))
      | _ => .no
    | some (.dead x) => .ok x h
    | some (.tx ds) => .ok (.tuple ds) h
    | _ => .no
  | .fn _ => .no
/-- tuple(x) -/
def tupV (x : Val) (h : Hq) : R Val := match x with
  | .d (.tuple xs) => .ok (.d (.tuple xs)) h
  | x => match elsL h x with
    | some vs => (toDs vs h).bind fun ds h1 => .ok (.d (.tuple ds)) h1
    | none => .no
def catV (x y : Val) (h : Hq) : R Val := match x, y with
  | .d (.tuple xs), .d (.tuple ys) => if fits (xs.length + ys.length) then .ok (.d (.tuple (xs ++ ys))) h else .no
  | _, _ => .no
def repV (x y : Val) (h : Hq) : R Val := match x, y with
  | .d (.tuple xs), .d (.int k) => if k = 1 then .ok x h else if !xs.isEmpty && decide (xs.length ≤ 1000) && decide (k.natAbs.log2 < 9) && decide (2 ≤ k) then .ok (.d (.tuple (List.replicate k.toNat xs).flatten)) h else .no
  | _, _ => .no
/-- + and * of texts, ints, tuples -/
def binA (o : Bop) (x y : Val) (h : Hq) : R Val := match binV o x y h with
  | .no => match o with
    | .add => catV x y h
    | .mul => repV x y h
    | _ => .no
  | r => r
/-- the last one, taken away -/
def popV (o : Val) (h : Hq) : R Val := match o with
  | .ref n => match h[n]? with
    | some (.lst vs) => match vs.getLast? with
      | some v => .ok v (h.set n (.lst vs.dropLast))
      | none => .no
    | _ => .no
  | _ => .no
/-- what the def that calls a lambda makes of its end; ws: the word of each class -/
def toldV (ws : List Str) (r : R Val) : R Val := match r with
  | .ok v h => (toD v h).bind fun x h1 => .ok (.d (.tuple [.str "told", x])) h1
  | .er e h => match ws[e.cls]?, e.arg with
    | some w, none => .ok (.d (.tuple [.str w])) h
    | _, _ => .no
  | .no => .no
def catL (x y : Val) (h : Hq) : R (List Val) := match elsL h x, elsL h y with
  | some vs, some ws => if fits (vs.length + ws.length) then .ok (vs ++ ws) h else .no
  | _, _ => .no
def repL (vs : List Val) (y : Val) (h : Hq) : R (List Val) := match y with
  | .d (.int k) => if okRng k && fits (vs.length * k.toNat) then .ok (List.replicate k.toNat vs).flatten h else .no
  | _ => .no
/-- the text of an f-string's part -/
def partS : Val → Option Str
  | .d (.str s) => if fits s.length then some s else none
  | .d (.int i) => if i.natAbs.log2 < 1920 then some (toString i) else none
  | _ => none

def keyV : L2.Key → Val
  | .inl i => .d (.int i)
  | .inr x => .d (.str x)
/-- a dict's keys, walked: the dict changes no more -/
def keysV (x : Val) (h : Hq) : R Sv := match x with
  | .ref n => match h[n]? with
    | some (.dct (.k kvs)) => .ok (.data (kvs.map fun p => keyV p.1)) (h.set n (.dl kvs))
    | some (.dl kvs) => .ok (.data (kvs.map fun p => keyV p.1)) h
    | _ => .no
  | _ => .no
/-- its values -/
def valsV (x : Val) (h : Hq) : R Sv := match x with
  | .ref n => match h[n]? with
    | some (.dct (.k kvs)) => .ok (.data (kvs.map fun p => p.2)) (h.set n (.dl kvs))
    | some (.dl kvs) => .ok (.data (kvs.map fun p => p.2)) h
    | _ => .no
  | _ => .no
def intV : Val → Option Int
  | .d (.int i) => some i
  | _ => none
def srcV (v : Val) (h : Hq) : R Sv := match v with
  | .ref n => match h[n]? with
    | some (.lst _) => .ok (.obj n) h
    | some (.dead (.list xs)) => .ok (.data (xs.map .d)) h
    | some (.tx ds) => .ok (.data (ds.map .d)) h
    | _ => .no
  | v => match els h v with
    | some vs => .ok (.data vs) h
    | none => .no

mutual
def ev (W : Nat) (C : List Orc) : Ex → Sg → Hq → R Val
  | .lit x, _, h => .ok (.d x) h
  | .var i, σ, h => match σ[i]? with
    | some (some v) => .ok v h
    | _ => .no
  | .fnv f, _, h => .ok (.fn f) h
  | .bin o a b, σ, h => (ev W C a σ h).bind fun x h1 => (ev W C b σ h1).bind fun y h2 => binA o x y h2
  | .neg a, σ, h => (ev W C a σ h).bind fun x h1 => match intV x with
    | some i => .ok (.d (.int (-i))) h1
    | none => .no
  | .cmp o a b, σ, h => (ev W C a σ h).bind fun x h1 => (ev W C b σ h1).bind fun y h2 => (cmpV o x y h2).bind fun c h3 => .ok (.d (.bool c)) h3
  | .chn o o' a b c, σ, h => (ev W C a σ h).bind fun x h1 => (ev W C b σ h1).bind fun y h2 => (cmpV o x y h2).bind fun k h3 =>
      if k then (ev W C c σ h3).bind fun z h4 => (cmpV o' y z h4).bind fun k' h5 => .ok (.d (.bool k')) h5 else .ok (.d (.bool false)) h3
  | .and_ a b, σ, h => (ev W C a σ h).bind fun x h1 => (tru x h1).bind fun k h2 => if k then ev W C b σ h2 else .ok x h2
  | .or_ a b, σ, h => (ev W C a σ h).bind fun x h1 => (tru x h1).bind fun k h2 => if k then .ok x h2 else ev W C b σ h2
  | .not_ a, σ, h => (ev W C a σ h).bind fun x h1 => (tru x h1).bind fun k h2 => .ok (.d (.bool (!k))) h2
  | .ife c a b, σ, h => (ev W C c σ h).bind fun x h1 => (tru x h1).bind fun k h2 => if k then ev W C a σ h2 else ev W C b σ h2
  | .tup xs, σ, h => (evs W C xs σ h).bind fun vs h1 => (toDs vs h1).bind fun ds h2 => .ok (.d (.tuple ds)) h2
  | .ofL l, σ, h => (evL W C l σ h).bind fun vs h1 => (toDs vs h1).bind fun ds h2 => .ok (.d (.list ds)) h2
  | .new l, σ, h => (evL W C l σ h).bind fun vs h1 => .ok (.ref h1.length) (h1 ++ [.lst vs])
  | .ix a b, σ, h => (ev W C a σ h).bind fun x h1 => (ev W C b σ h1).bind fun y h2 => ixV x y h2
  | .slc a lo hi, σ, h => (ev W C a σ h).bind fun x h1 => (evO W C lo σ h1).bind fun l h2 => (evO W C hi σ h2).bind fun u h3 => slcV x l u h3
  | .call f xs, σ, h => match C with
    | c :: _ => (evs W C xs σ h).bind fun vs h1 => c f vs h1
    | [] => .no
  | .prm p xs, σ, h => (evs W C xs σ h).bind fun vs h1 => prmV p vs h1
  | .app o a, σ, h => (ev W C o σ h).bind fun x h1 => (lstV x h1).bind fun _ h1 => (ev W C a σ h1).bind fun y h2 => appV x y h2
  | .fmt a, σ, h => (ev W C a σ h).bind fun x h1 => match partS x with
    | some s => .ok (.d (.str s)) h1
    | none => .no
  | .fst xs, σ, h => (evJ W C xs Str.empty σ h).bind fun s h1 => .ok (.d (.str s)) h1
  | .frz a, σ, h => (ev W C a σ h).bind fun x h1 => (toD x h1).bind fun d h2 => .ok (.d d) h2
  | .nev, _, _ => .no
  | .tupO a, σ, h => (ev W C a σ h).bind fun x h1 => tupV x h1
  | .pop o, σ, h => (ev W C o σ h).bind fun x h1 => popV x h1
  | .told ws a, σ, h => toldV ws (ev W C a σ h)
  | .ext o l, σ, h => (ev W C o σ h).bind fun x h1 => (lstV x h1).bind fun _ h1 => (evL W C l σ h1).bind fun vs h2 => extV x vs h2
  | .tix o a, σ, h => (ev W C o σ h).bind fun x h1 => (txV x h1).bind fun ds h1 => (ev W C a σ h1).bind fun y h2 => tixV ds y h2
  | .tupX xs, σ, h => (evs W C xs σ h).bind fun vs h1 => (toDs vs h1).bind fun ds h2 => .ok (.ref h2.length) (h2 ++ [.tx ds])
  | .repX a b, σ, h => (ev W C a σ h).bind fun x h1 => (txV x h1).bind fun ds h1 => (ev W C b σ h1).bind fun y h2 => repX x ds y h2
  | .tupL a, σ, h => (ev W C a σ h).bind fun x h1 => match elsL h1 x with
    | some vs => (toDs vs h1).bind fun ds h2 => .ok (.ref h2.length) (h2 ++ [.tx ds])
    | none => .no
  | .dvm a b, σ, h => (ev W C a σ h).bind fun x h1 => (ev W C b σ h1).bind fun y h2 => dvmV x y h2
  | .lset a, σ, h => (ev W C a σ h).bind fun x h1 => lsetV x h1
  | .dnew t, _, h => .ok (.ref h.length) (h ++ [.dct (if t then .t [] else .k [])])
  | .ddsp t k v, σ, h => (ev W C k σ h).bind fun x h1 => (ev W C v σ h1).bind fun y h2 => dspV t x y h2
  | .lidx o a, σ, h => (ev W C o σ h).bind fun x h1 => (R.of (elsL h1 x) h1).bind fun _ h1 => (ev W C a σ h1).bind fun y h2 => lidxV x y h2
  | .dgt o k d, σ, h => (ev W C o σ h).bind fun x h1 => (dctK x h1).bind fun _ h1 => (ev W C k σ h1).bind fun y h2 => (ev W C d σ h2).bind fun z h3 => dgtV x y z h3
  | .sdf o k d, σ, h => (ev W C o σ h).bind fun x h1 => (dctK x h1).bind fun _ h1 => (ev W C k σ h1).bind fun y h2 => (ev W C d σ h2).bind fun z h3 => sdfV x y z h3
  | .rev a, σ, h => (ev W C a σ h).bind fun x h1 => revV x h1
  | .frzD a, σ, h => (ev W C a σ h).bind fun x h1 => (toDD x h1).bind fun d h2 => .ok (.d d) h2
def evs (W : Nat) (C : List Orc) : List Ex → Sg → Hq → R (List Val)
  | [], _, h => .ok [] h
  | e :: es, σ, h => (ev W C e σ h).bind fun v h1 => (evs W C es σ h1).bind fun vs h2 => .ok (v :: vs) h2
/-- parts, one behind the other -/
def evJ (W : Nat) (C : List Orc) : List Ex → Str → Sg → Hq → R Str
  | [], acc, _, h => .ok acc h
  | e :: es, acc, σ, h => (ev W C e σ h).bind fun v h1 => match v with
    | .d (.str y) => if fits (acc ++ y).length then evJ W C es (acc ++ y) σ h1 else .no
    | _ => .no
def evL (W : Nat) (C : List Orc) : Lx → Sg → Hq → R (List Val)
  | .dsp xs, σ, h => (evs W C xs σ h).bind fun vs h1 => if fits vs.length then .ok vs h1 else .no
  | .lst a, σ, h => (ev W C a σ h).bind fun x h1 => match els h1 x with
    | some vs => .ok vs h1
    | none => .no
  | .cat a b, σ, h => (ev W C a σ h).bind fun x h1 => (ev W C b σ h1).bind fun y h2 => catL x y h2
  | .rep l b, σ, h => (evL W C l σ h).bind fun vs h1 => (ev W C b σ h1).bind fun y h2 => repL vs y h2
  | .cmp own t s ifs e, σ, h => (evS W C s σ h).bind fun sv h1 => match sv with
    | .data vs => if fits vs.length then cmpL (fun v h => match bindT h t v (wipe σ own) with
        | none => .no
        | some σ' => ((evI W C ifs σ' h).bind fun k h2 => if k then (ev W C e σ' h2).bind fun x h3 => .ok [x] h3 else .ok [] h2).quiet) vs h1 else .no
    | .obj n => .no
def evS (W : Nat) (C : List Orc) : Sx → Sg → Hq → R Sv
  | .val a, σ, h => (ev W C a σ h).bind fun x h1 => srcV x h1
  | .rng a, σ, h => (ev W C a σ h).bind fun x h1 => match intV x with
    | some i => if okRng i then .ok (.data (rangeL 0 i.toNat)) h1 else .no
    | none => .no
  | .rng2 a b, σ, h => (ev W C a σ h).bind fun x h1 => (ev W C b σ h1).bind fun y h2 => match intV x, intV y with
    | some i, some j => if okRng i && okRng j then .ok (.data (rangeL i (j - i).toNat)) h2 else .no
    | _, _ => .no
  | .zip a b, σ, h => (ev W C a σ h).bind fun x h1 => (ev W C b σ h1).bind fun y h2 => match x, y with
    | .d (.list xs), .d (.list ys) => .ok (.data ((xs.zip ys).map fun p => .d (.tuple [p.1, p.2]))) h2
    | _, _ => .no
  | .rng3 a b c, σ, h => (ev W C a σ h).bind fun x h1 => (ev W C b σ h1).bind fun y h2 => (ev W C c σ h2).bind fun z h3 => match intV x, intV y, intV z with
    | some i, some j, some k => if okRng i && okRng j && okStep k then .ok (.data (rangeC i k (stepN i j k))) h3 else .no
    | _, _, _ => .no
  | .enm a, σ, h => (ev W C a σ h).bind fun x h1 => match x with
    | .d (.tuple xs) => .ok (.data (enumD xs)) h1
    | .d (.list xs) => .ok (.data (enumD xs)) h1
    | _ => .no
  | .keys a, σ, h => (ev W C a σ h).bind fun x h1 => keysV x h1
  | .vals a, σ, h => (ev W C a σ h).bind fun x h1 => valsV x h1
/-- the tests of a comprehension -/
def evI (W : Nat) (C : List Orc) : List Ex → Sg → Hq → R Bool
  | [], _, h => .ok true h
  | e :: es, σ, h => (ev W C e σ h).bind fun x h1 => (tru x h1).bind fun k h2 => if k then evI W C es σ h2 else .ok false h2
def evO (W : Nat) (C : List Orc) : Option Ex → Sg → Hq → R (Option Int)
  | none, _, h => .ok none h
  | some e, σ, h => (ev W C e σ h).bind fun x h1 => match intV x with
    | some i => .ok (some i) h1
    | none => .no
end

/-- a test -/
abbrev tst (m : Sg → Hq → R Val) : Sg → Hq → R Bool := fun σ h => (m σ h).bind fun v h1 => tru v h1
/-- a turn of a walk -/
def turnV (t : Tgt) (f : Sg → Hq → RF) (v : Val) (σ : Sg) (h : Hq) : RF := match bindT h t v σ with
  | none => .no
  | some σ' => f σ' h
mutual
def ex (W : Nat) (C : List Orc) : St → Sg → Hq → RF
  | .set i e, σ, h => (ev W C e σ h).thn σ fun v h1 => .ok (.nx (σ.set i (some v))) h1
  | .asg t e, σ, h => (ev W C e σ h).thn σ fun v h1 => match bindT h1 t v σ with
    | some σ' => .ok (.nx σ') h1
    | none => .no
  | .par i j a b, σ, h => (ev W C a σ h).thn σ fun v h1 => (ev W C b σ h1).thn σ fun w h2 => .ok (.nx ((σ.set i (some v)).set j (some w))) h2
  | .six o i e, σ, h => (ev W C e σ h).thn σ fun v h1 => (ev W C o σ h1).thn σ fun x h2 => (ev W C i σ h2).thn σ fun y h3 => (setV x y v h3).thn σ fun _ h4 => .ok (.nx σ) h4
  | .exp e, σ, h => (ev W C e σ h).thn σ fun _ h1 => .ok (.nx σ) h1
  | .iff c a b, σ, h => (tst (ev W C c) σ h).thn σ fun k h2 => if k then exs W C a σ h2 else exs W C b σ h2
  | .for_ t s b, σ, h => (evS W C s σ h).thn σ fun sv h1 => match sv with
    | .data vs => forL (turnV t fun σ h => exs W C b σ h) vs σ h1
    | .obj n => forO (turnV t fun σ h => exs W C b σ h) n W 0 σ h1
  | .whl c b, σ, h => whlN (tst (ev W C c)) (fun σ h => exs W C b σ h) W σ h
  | .ret e, σ, h => (ev W C e σ h).thn σ fun v h1 => .ok (.rt v) h1
  | .retN, _, h => .ok (.rt (.d .none)) h
  | .brk, σ, h => .ok (.bk σ) h
  | .cnt, σ, h => .ok (.ct σ) h
  | .pas, σ, h => .ok (.nx σ) h
  | .rse c, σ, h => .er ⟨c, none⟩ σ h
  | .nev, _, _ => .no
def exs (W : Nat) (C : List Orc) : List St → Sg → Hq → RF
  | [], σ, h => .ok (.nx σ) h
  | s :: ss, σ, h => (ex W C s σ h).thn fun σ' h1 => exs W C ss σ' h1
end

/-! ### defs -/
structure Fn where
  ps : Nat
  ns : Nat
  pure : Bool
  body : List St

/-- a body, as it stands -/
def run (W : Nat) (C : List Orc) (f : Fn) (vs : List Val) (h : Hq) : R Val :=
  match exs W C f.body (vs.map some ++ List.replicate (f.ns - f.ps) none) h with
    | .ok (.rt v) h1 => .ok v h1
    | .ok (.nx _) h1 => .ok (.d .none) h1
    | .er e _ h1 => .er e h1
    | _ => .no
def allDat : List Val → Bool
  | [] => true
  | .d _ :: vs => allDat vs
  | _ => false
def below (n : Nat) : Val → Bool
  | .ref m => decide (m < n)
  | _ => true
/-- no object leads out of the first n -/
def closed (n : Nat) : Hq → Bool
  | [] => true
  | .lst vs :: r => vs.all (below n) && closed n r
  | .dead _ :: r => closed n r
  | .tx _ :: r => closed n r
  | .dl kvs :: r => kvs.all (fun p => below n p.2) && closed n r
  | .dct (.k kvs) :: r => kvs.all (fun p => below n p.2) && closed n r
  | .dct (.t kvs) :: r => kvs.all (fun p => below n p.2) && closed n r
/-- a call: of a pure def over data, in a run of its own; of another one over this run's objects -/
def callR (W : Nat) (C : List Orc) (f : Fn) (vs : List Val) (h : Hq) : R Val :=
  if vs.length = f.ps then
    if f.pure then match pks h 3 vs with
      | some ds => match run W C f (ds.map .d) [] with
        | .ok v h1 => match toD v h1 with
          | .ok x _ => if flat x || allDat vs then .ok (.d x) h else .no
          | _ => .no
        | .er e _ => .er e h
        | .no => .no
      | none => .no
    else match run W C f vs h with
      | .ok v h1 => match toD v h1 with
        | .ok x h2 => if closed h.length (h2.take h.length) then .ok (.d x) (h2.take h.length) else .no
        | _ => .no
      | .er e h1 => if closed h.length (h1.take h.length) then .er e (h1.take h.length) else .no
      | .no => .no
  else .no
def orcs (T : List Fn) (W : Nat) : Nat → List Orc
  | 0 => []
  | k + 1 => (fun f vs h => match T[f]? with
      | some fn => callR W (orcs T W k) fn vs h
      | none => .no) :: orcs T W k
end Ip

set_option linter.all false
set_option Elab.async false
set_option autoImplicit false
/-! How the evaluator's values lie in the abstract heap. -/
namespace Ip
open PySem L2

/-- what is fixed through a law: the written part, the defs' and the classes' addresses -/
structure Gb where
  K : PySem.W.Frag
  fa : List Addr
  ca : List Addr
  tb : List (Addr × Str)
  P : Program
  w : World

/-- a state: where the objects lie, the objects, the abstract heap -/
structure S3 where
  r : List Addr
  h : Hq
  H : Hp

abbrev WrL (K : PySem.W.Frag) (a : Addr) (xs : List V) : Prop := SqL K (fun _ => none) a xs
abbrev WrT (K : PySem.W.Frag) (a : Addr) (xs : List V) : Prop := SqT K (fun _ => none) a xs
theorem rd_none {a : Addr} {u : HO} : ¬ Rd (fun _ => none) a u := fun h => by
  rcases h with h | ⟨_, h⟩ <;> cases h
theorem WrL.any {K : PySem.W.Frag} {a : Addr} {xs : List V} (h : WrL K a xs) (H : Hp) : SqL K H a xs := by
  rcases h with h | h
  · exact (rd_none h).elim
  · exact .inr h
theorem WrT.any {K : PySem.W.Frag} {a : Addr} {xs : List V} (h : WrT K a xs) (H : Hp) : SqT K H a xs := by
  rcases h with h | h
  · exact (rd_none h).elim
  · exact .inr h

mutual
/-- plain data at a value; B: the addresses that may change -/
inductive DR (K : PySem.W.Frag) (H : Hp) (B : Addr → Prop) : V → D → Prop
  | non : DR K H B .non .none
  | bl (b : Bool) : DR K H B (.bl b) (.bool b)
  | int (i : Int) : DR K H B (.int i) (.int i)
  | str (x : Str) : DR K H B (.str x) (.str x)
  | lst {a : Addr} {xs : List V} {ds : List D} : (Rd H a (.lst xs) ∧ ¬ B a) ∨ WrL K a xs → DRs K H B xs ds → DR K H B (.ref a) (.list ds)
  | tup {a : Addr} {xs : List V} {ds : List D} : SqT K H a xs → DRs K H B xs ds → DR K H B (.ref a) (.tuple ds)
inductive DRs (K : PySem.W.Frag) (H : Hp) (B : Addr → Prop) : List V → List D → Prop
  | nil : DRs K H B [] []
  | cons {v : V} {vs : List V} {d : D} {ds : List D} : DR K H B v d → DRs K H B vs ds → DRs K H B (v :: vs) (d :: ds)
end

theorem DRs.length {K : PySem.W.Frag} {H : Hp} {B : Addr → Prop} : ∀ {xs : List V} {ds : List D}, DRs K H B xs ds → xs.length = ds.length
  | _, _, .nil => rfl
  | _, _, .cons _ t => by rw [List.length_cons, List.length_cons, DRs.length t]

/-- nothing but what may change changes; what stands stands on -/
structure Fr (P : Addr → Prop) (H H' : Hp) : Prop where
  keep : ∀ a o, H a = some o → ¬ P a → (∀ ps, o ≠ .tbl ps) → H' a = some o
  there : ∀ a, H a ≠ none → H' a ≠ none
  tup : ∀ a xs, H a = some (.tup xs) → H' a = some (.tup xs)
  frz : ∀ a o u, H a = some (.frz o u) → H' a = some (.frz o u)
theorem Fr.refl (P : Addr → Prop) (H : Hp) : Fr P H H := ⟨fun _ _ h _ _ => h, fun _ h => h, fun _ _ h => h, fun _ _ _ h => h⟩
theorem Fr.sqt {K : PySem.W.Frag} {P : Addr → Prop} {H H' : Hp} (f : Fr P H H') {a : Addr} {xs : List V} (h : SqT K H a xs) : SqT K H' a xs := by
  rcases h with (h | ⟨o, h⟩) | h
  · exact .inl (.inl (f.tup _ _ h))
  · exact .inl (.inr ⟨o, f.frz _ _ _ h⟩)
  · exact .inr h
theorem Fr.rd {P : Addr → Prop} {H H' : Hp} (f : Fr P H H') {a : Addr} {u : HO} (h : Rd H a u) (n : ¬ P a) (nt : ∀ ps, u ≠ .tbl ps) : Rd H' a u := by
  rcases h with h | ⟨o, h⟩
  · exact .inl (f.keep a _ h n nt)
  · exact .inr ⟨o, f.keep a _ h n (fun ps z => by cases z)⟩
theorem rd_some {H : Hp} {a : Addr} {u : HO} (h : Rd H a u) : H a ≠ none := by
  rcases h with h | ⟨o, h⟩ <;> rw [h] <;> exact fun z => by cases z

mutual
theorem DR.mono {K : PySem.W.Frag} {H H' : Hp} {B B' P : Addr → Prop} (f : Fr P H H') (hP : ∀ a, P a → B a) (hB : ∀ a, H a ≠ none → ¬ B a → ¬ B' a) : ∀ {v : V} {d : D}, DR K H B v d → DR K H' B' v d
  | _, _, .non => .non
  | _, _, .bl b => .bl b
  | _, _, .int i => .int i
  | _, _, .str x => .str x
  | _, _, .lst h t => .lst (h.elim (fun q => .inl ⟨f.rd q.1 (fun z => q.2 (hP _ z)) (fun ps z => by cases z), hB _ (rd_some q.1) q.2⟩) .inr) (DRs.mono f hP hB t)
  | _, _, .tup h t => .tup (f.sqt h) (DRs.mono f hP hB t)
theorem DRs.mono {K : PySem.W.Frag} {H H' : Hp} {B B' P : Addr → Prop} (f : Fr P H H') (hP : ∀ a, P a → B a) (hB : ∀ a, H a ≠ none → ¬ B a → ¬ B' a) : ∀ {vs : List V} {ds : List D}, DRs K H B vs ds → DRs K H' B' vs ds
  | _, _, .nil => .nil
  | _, _, .cons h t => .cons (DR.mono f hP hB h) (DRs.mono f hP hB t)
end
theorem DR.weak {K : PySem.W.Frag} {H : Hp} {B B' : Addr → Prop} (hB : ∀ a, H a ≠ none → ¬ B a → ¬ B' a) {v : V} {d : D} (h : DR K H B v d) : DR K H B' v d :=
  DR.mono (P := fun _ => False) (Fr.refl _ H) (fun _ z => z.elim) hB h
theorem DRs.weak {K : PySem.W.Frag} {H : Hp} {B B' : Addr → Prop} (hB : ∀ a, H a ≠ none → ¬ B a → ¬ B' a) {v : List V} {d : List D} (h : DRs K H B v d) : DRs K H B' v d :=
  DRs.mono (P := fun _ => False) (Fr.refl _ H) (fun _ z => z.elim) hB h

theorem sql_of {K : PySem.W.Frag} {H : Hp} {B : Addr → Prop} {a : Addr} {xs : List V} (h : (Rd H a (.lst xs) ∧ ¬ B a) ∨ WrL K a xs) : SqL K H a xs := h.elim (fun q => .inl q.1) fun q => q.any H
mutual
theorem DR.dp {K : PySem.W.Frag} {H : Hp} {B : Addr → Prop} : ∀ {v : V} {d : D}, DR K H B v d → Dp K H v d
  | _, _, .non => .non
  | _, _, .bl b => .bl b
  | _, _, .int i => .int i
  | _, _, .str x => .str x
  | _, _, .lst h t => .lst (sql_of h) (DRs.dp t)
  | _, _, .tup h t => .tup h (DRs.dp t)
theorem DRs.dp {K : PySem.W.Frag} {H : Hp} {B : Addr → Prop} : ∀ {vs : List V} {ds : List D}, DRs K H B vs ds → DpAll K H vs ds
  | _, _, .nil => .nil
  | _, _, .cons h t => .cons (DR.dp h) (DRs.dp t)
end

/-! ### objects -/
theorem tabs_upd {T : List (Addr × Str)} {H : Hp} {a : Addr} {o : HO} (t : LamX.Tabs T H) (h : H a = none ∨ ∃ u, H a = some u ∧ (∀ ps, u ≠ .tbl ps) ∧ ∀ q, u ≠ LamX.CodeO a q) : LamX.Tabs T (upd H a o) := fun p hp => by
  obtain ⟨ps, h1, h2, h3⟩ := t p hp
  have n1 : p.1 ≠ a := fun z => by
    rcases h with h | ⟨u, h, n, _⟩
    · rw [z, h] at h1; cases h1
    · rw [z, h] at h1; cases h1; exact n _ rfl
  refine ⟨ps, (upd_ne n1).trans h1, h2, fun pos cv hc => ?_⟩
  obtain ⟨c, e1, e2⟩ := h3 pos cv hc
  refine ⟨c, e1, (upd_ne fun z => ?_).trans e2⟩
  rcases h with h | ⟨u, h, _, n⟩
  · rw [z, h] at e2; cases e2
  · subst z; rw [h] at e2; exact n _ (Option.some.inj e2)

def live (h : Hq) (n : Nat) : Prop := ∃ o, h[n]? = some o ∧ o.alive = true
/-- what may change -/
def Bad (Av : Addr → Prop) (s : S3) (a : Addr) : Prop := Av a ∨ ∃ n, s.r[n]? = some a ∧ live s.h n

inductive VR (G : Gb) (Av : Addr → Prop) (s : S3) : Val → V → Prop
  | d {x : D} {v : V} : DR G.K s.H (Bad Av s) v x → VR G Av s (.d x) v
  | ref {n : Nat} {a : Addr} : s.r[n]? = some a → VR G Av s (.ref n) (.ref a)
  | fn {f : Nat} {a : Addr} : G.fa[f]? = some a → VR G Av s (.fn f) (.ref a)
inductive VRs (G : Gb) (Av : Addr → Prop) (s : S3) : List Val → List V → Prop
  | nil : VRs G Av s [] []
  | cons {v : Val} {vs : List Val} {x : V} {xs : List V} : VR G Av s v x → VRs G Av s vs xs → VRs G Av s (v :: vs) (x :: xs)
theorem VRs.length {G : Gb} {Av : Addr → Prop} {s : S3} : ∀ {vs : List Val} {xs : List V}, VRs G Av s vs xs → vs.length = xs.length
  | _, _, .nil => rfl
  | _, _, .cons _ t => by rw [List.length_cons, List.length_cons, VRs.length t]
theorem VRs.append {G : Gb} {Av : Addr → Prop} {s : S3} : ∀ {vs ws : List Val} {xs ys : List V}, VRs G Av s vs xs → VRs G Av s ws ys → VRs G Av s (vs ++ ws) (xs ++ ys)
  | _, _, _, _, .nil, q => q
  | _, _, _, _, .cons h t, q => .cons h (VRs.append t q)
theorem VRs.get {G : Gb} {Av : Addr → Prop} {s : S3} : ∀ {vs : List Val} {xs : List V} {i : Nat} {v : Val}, VRs G Av s vs xs → vs[i]? = some v → ∃ x, xs[i]? = some x ∧ VR G Av s v x
  | _, _, _, _, .nil, e => by simp at e
  | _, _, 0, v, .cons h _, e => by
    have e : some _ = some v := e
    cases e
    exact ⟨_, rfl, h⟩
  | _, _, i + 1, v, .cons _ t, e => VRs.get (i := i) t e
theorem VRs.get' {G : Gb} {Av : Addr → Prop} {s : S3} : ∀ {vs : List Val} {xs : List V} {i : Nat} {x : V}, VRs G Av s vs xs → xs[i]? = some x → ∃ v, vs[i]? = some v ∧ VR G Av s v x
  | _, _, _, _, .nil, e => by simp at e
  | _, _, 0, v, .cons h _, e => by
    have e : some _ = some v := e
    cases e
    exact ⟨_, rfl, h⟩
  | _, _, i + 1, v, .cons _ t, e => VRs.get' (i := i) t e
theorem VRs.set {G : Gb} {Av : Addr → Prop} {s : S3} {v : Val} {x : V} (r : VR G Av s v x) : ∀ {vs : List Val} {xs : List V} (i : Nat), VRs G Av s vs xs → VRs G Av s (vs.set i v) (xs.set i x)
  | _, _, _, .nil => .nil
  | _, _, 0, .cons _ t => .cons r t
  | _, _, i + 1, .cons h t => .cons h (VRs.set r i t)
theorem VRs.take {G : Gb} {Av : Addr → Prop} {s : S3} : ∀ {vs : List Val} {xs : List V} (i : Nat), VRs G Av s vs xs → VRs G Av s (vs.take i) (xs.take i)
  | _, _, 0, _ => .nil
  | _, _, _ + 1, .nil => .nil
  | _, _, i + 1, .cons h t => .cons h (VRs.take i t)
theorem VRs.drop {G : Gb} {Av : Addr → Prop} {s : S3} : ∀ {vs : List Val} {xs : List V} (i : Nat), VRs G Av s vs xs → VRs G Av s (vs.drop i) (xs.drop i)
  | _, _, 0, h => h
  | _, _, _ + 1, .nil => .nil
  | _, _, i + 1, .cons h t => VRs.drop i t
theorem VRs.of_data {G : Gb} {Av : Addr → Prop} {s : S3} : ∀ {xs : List V} {ds : List D}, DRs G.K s.H (Bad Av s) xs ds → VRs G Av s (ds.map .d) xs
  | _, _, .nil => .nil
  | _, _, .cons h t => .cons (.d h) (VRs.of_data t)
theorem VRs.to_data {G : Gb} {Av : Addr → Prop} {s : S3} : ∀ {ds : List D} {xs : List V}, VRs G Av s (ds.map .d) xs → DRs G.K s.H (Bad Av s) xs ds
  | [], _, .nil => .nil
  | _ :: _, _, .cons (.d h) t => .cons h (VRs.to_data t)

/-- the pairs of a dict -/
inductive KVs {κ : Type} (G : Gb) (Av : Addr → Prop) (s : S3) : List (κ × Val) → List (κ × V) → Prop
  | nil : KVs G Av s [] []
  | cons {k : κ} {v : Val} {x : V} {l : List (κ × Val)} {m : List (κ × V)} : VR G Av s v x → KVs G Av s l m → KVs G Av s ((k, v) :: l) ((k, x) :: m)
theorem KVs.map {κ : Type} {G : Gb} {Av Av' : Addr → Prop} {s s' : S3} (f : ∀ {v : Val} {x : V}, VR G Av s v x → VR G Av' s' v x) : ∀ {l : List (κ × Val)} {m : List (κ × V)}, KVs G Av s l m → KVs G Av' s' l m
  | _, _, .nil => .nil
  | _, _, .cons h t => .cons (f h) (KVs.map f t)
theorem KVs.length {κ : Type} {G : Gb} {Av : Addr → Prop} {s : S3} : ∀ {l : List (κ × Val)} {m : List (κ × V)}, KVs G Av s l m → l.length = m.length
  | _, _, .nil => rfl
  | _, _, .cons _ t => by rw [List.length_cons, List.length_cons, KVs.length t]
/-- the pairs of a dict whose keys are tuples, as they lie -/
def VT : List (List Key × Addr × V) → List (List Key × Addr × Value) → Prop := Paired fun p q => p.1 = q.1 ∧ p.2.1 = q.2.1 ∧ RelV p.2.2 q.2.2
def dtxP (P : Program) (w : World) (a : Addr) (xs : List (List Key × Addr × V)) (h : Heap) : Prop := xs.length ≤ sizeLine ∧ (a == sysModules) = false ∧ ∃ ys, VT xs ys ∧
  ∃ o es ep, h.get? a = some o ∧ o.ExactDict ∧ o.data = .dict es ep ∧ es.toList = ys.map (entryOfKey (tupleKind (mixKind P w))) ∧ (ys.map (·.1)).Nodup
/-- a dict whose keys are tuples, wherever these come from -/
def dtx (P : Program) (w : World) (a : Addr) (xs : List (List Key × Addr × V)) : HO := .ext (dtxP P w a xs)
theorem dtx_ne {P : Program} {w : World} {a : Addr} {xs : List (List Key × Addr × V)} (q : Str) : dtx P w a xs ≠ LamX.CodeO a q := fun z => by
  have e : dtxP P w a xs = _ := HO.ext.inj z
  have e2 := congrFun e ⟨Array.replicate (a + 1) { cls := .none, data := .fields #[.none, .str q 0] }, {}⟩
  have hg : Heap.get? ⟨Array.replicate (a + 1) { cls := .none, data := .fields #[.none, .str q 0] }, {}⟩ a = some { cls := .none, data := .fields #[.none, .str q 0] } := by
    unfold Heap.get?
    simp
  obtain ⟨_, _, _, _, o, es, ep, ho, _, hd, _⟩ := e2.mpr ⟨_, _, 0, hg, rfl, rfl⟩
  rw [hg] at ho
  cases ho
  cases hd
inductive KVt (G : Gb) (Av : Addr → Prop) (s : S3) : List (List Key × Val) → List (List Key × Addr × V) → Prop
  | nil : KVt G Av s [] []
  | cons {k : List Key} {b : Addr} {v : Val} {x : V} {l : List (List Key × Val)} {m : List (List Key × Addr × V)} : SqT G.K s.H b (k.map kV) → VR G Av s v x → KVt G Av s l m → KVt G Av s ((k, v) :: l) ((k, b, x) :: m)
theorem KVt.map {G : Gb} {Av Av' : Addr → Prop} {s s' : S3} (f : ∀ {v : Val} {x : V}, VR G Av s v x → VR G Av' s' v x) (g : ∀ {b : Addr} {ys : List V}, SqT G.K s.H b ys → SqT G.K s'.H b ys) : ∀ {l : List (List Key × Val)} {m : List (List Key × Addr × V)}, KVt G Av s l m → KVt G Av' s' l m
  | _, _, .nil => .nil
  | _, _, .cons q h t => .cons (g q) (f h) (KVt.map f g t)
theorem KVt.length {G : Gb} {Av : Addr → Prop} {s : S3} : ∀ {l : List (List Key × Val)} {m : List (List Key × Addr × V)}, KVt G Av s l m → l.length = m.length
  | _, _, .nil => rfl
  | _, _, .cons _ _ t => by rw [List.length_cons, List.length_cons, KVt.length t]
inductive CR2 (G : Gb) (Av : Addr → Prop) (s : S3) (a : Addr) : Dc → HO → Prop
  | k {kvs : List (Key × Val)} {es : List (Key × V)} : KVs G Av s kvs es → CR2 G Av s a (.k kvs) (.dK es)
  | t {kvs : List (List Key × Val)} {es : List (List Key × Addr × V)} : KVt G Av s kvs es → CR2 G Av s a (.t kvs) (dtx G.P G.w a es)
theorem CR2.map {G : Gb} {Av Av' : Addr → Prop} {s s' : S3} (f : ∀ {v : Val} {x : V}, VR G Av s v x → VR G Av' s' v x) (g : ∀ {b : Addr} {ys : List V}, SqT G.K s.H b ys → SqT G.K s'.H b ys) {a : Addr} {c : Dc} {o : HO} (h : CR2 G Av s a c o) : CR2 G Av' s' a c o := by
  cases h with
  | k h => exact .k (h.map f)
  | t h => exact .t (h.map f g)
theorem CR2.nt {G : Gb} {Av : Addr → Prop} {s : S3} {a : Addr} {c : Dc} {o : HO} (h : CR2 G Av s a c o) : (∀ ps, o ≠ .tbl ps) ∧ (∀ xs, o ≠ .tup xs) ∧ (∀ q, o ≠ LamX.CodeO a q) ∧ ∀ ob w, o ≠ .frz ob w := by
  cases h with
  | k h => exact ⟨fun _ z => (by cases z), fun _ z => (by cases z), fun _ z => (by cases z), fun _ _ z => (by cases z)⟩
  | t h => exact ⟨fun _ z => (by unfold dtx at z; cases z), fun _ z => (by unfold dtx at z; cases z), fun q => dtx_ne q, fun _ _ z => (by unfold dtx at z; cases z)⟩
/-- an object at an address -/
def OR (G : Gb) (Av : Addr → Prop) (s : S3) (a : Addr) : IO → Prop
  | .lst vs => ∃ xs, s.H a = some (.lst xs) ∧ VRs G Av s vs xs
  | .dead x => DR G.K s.H (Bad Av s) (.ref a) x
  | .dct c => ∃ o, s.H a = some o ∧ CR2 G Av s a c o
  | .tx ds => ∃ o xs, o.dict = none ∧ s.H a = some (.frz o (.tup xs)) ∧ DRs G.K s.H (Bad Av s) xs ds
  | .dl kvs => ∃ o es, s.H a = some (.frz o (.dK es)) ∧ KVs G Av s kvs es

structure RepH (G : Gb) (Av : Addr → Prop) (s : S3) : Prop where
  len : s.r.length = s.h.length
  nd : s.r.Nodup
  obj : ∀ (n : Nat) (a : Addr) (o : IO), s.r[n]? = some a → s.h[n]? = some o → OR G Av s a o
  av : ∀ a, Av a → s.H a ≠ none
  dis : ∀ a, Av a → a ∉ s.r
  trk : ∀ a ∈ s.r, s.H a ≠ none
  tabs : LamX.Tabs G.tb s.H

/-- slots -/
structure SR (G : Gb) (Av : Addr → Prop) (s : S3) (σ : Sg) (τ : L2.St) : Prop where
  len : σ.length = τ.length
  at_ : ∀ (i : Nat) (v : Val), σ[i]? = some (some v) → ∃ x, τ[i]? = some (some x) ∧ VR G Av s v x

/-- a step -/
structure Stp (s s' : S3) : Prop where
  pre : s.r <+: s'.r
  liv : ∀ n, n < s.r.length → live s'.h n → live s.h n
  fr : Fr (fun a => ∃ n, s.r[n]? = some a ∧ live s.h n) s.H s'.H
  new : ∀ a ∈ s'.r, a ∈ s.r ∨ s.H a = none
theorem Stp.refl (s : S3) : Stp s s := ⟨List.prefix_refl _, fun _ _ h => h, Fr.refl _ _, fun _ h => .inl h⟩
theorem pre_get {α : Type} {l l' : List α} (p : l <+: l') {n : Nat} {a : α} (h : l[n]? = some a) : l'[n]? = some a := by
  obtain ⟨t, rfl⟩ := p
  have hn : n < l.length := by
    rcases Nat.lt_or_ge n l.length with q | q
    · exact q
    · rw [List.getElem?_eq_none q] at h; cases h
  rw [List.getElem?_append_left hn]
  exact h
theorem nd_get {l : List Addr} (nd : l.Nodup) {i j : Nat} {a : Addr} (hi : l[i]? = some a) (hj : l[j]? = some a) : i = j := by
  obtain ⟨h1, e1⟩ := List.getElem?_eq_some_iff.mp hi
  obtain ⟨h2, e2⟩ := List.getElem?_eq_some_iff.mp hj
  exact (List.getElem_inj nd).mp (e1.trans e2.symm)
theorem lt_of_get {α : Type} {l : List α} {i : Nat} {a : α} (h : l[i]? = some a) : i < l.length := (List.getElem?_eq_some_iff.mp h).1
/-- what may change after a step may have changed ahead of it, or is new -/
theorem Stp.bad {Av : Addr → Prop} {s s' : S3} (t : Stp s s') (nd : s'.r.Nodup) : ∀ a, s.H a ≠ none → ¬ Bad Av s a → ¬ Bad Av s' a := fun a ha hb hb' => by
  rcases hb' with h | ⟨n, h, l⟩
  · exact hb (.inl h)
  · by_cases hn : n < s.r.length
    · have e : s.r[n]? = some (s.r[n]) := List.getElem?_eq_getElem hn
      have e' := pre_get t.pre e
      rw [h] at e'
      have e2 : a = s.r[n] := Option.some.inj e'
      exact hb (.inr ⟨n, by rw [e, e2], t.liv n hn l⟩)
    · rcases t.new a (List.mem_of_getElem? h) with hm | hm
      · obtain ⟨m, hm2, e⟩ := List.mem_iff_getElem.mp hm
        have e1 : s'.r[m]? = some a := pre_get t.pre (by rw [List.getElem?_eq_getElem hm2, e])
        have := nd_get nd h e1
        omega
      · exact ha hm
theorem Stp.dr {G : Gb} {Av : Addr → Prop} {s s' : S3} (t : Stp s s') (nd : s'.r.Nodup) {v : V} {d : D} (h : DR G.K s.H (Bad Av s) v d) : DR G.K s'.H (Bad Av s') v d :=
  DR.mono t.fr (fun a z => .inr z) (t.bad nd) h
theorem Stp.vr {G : Gb} {Av : Addr → Prop} {s s' : S3} (t : Stp s s') (nd : s'.r.Nodup) {v : Val} {x : V} (h : VR G Av s v x) : VR G Av s' v x := by
  cases h with
  | d q => exact .d (t.dr nd q)
  | ref q => exact .ref (pre_get t.pre q)
  | fn q => exact .fn q
theorem Stp.vrs {G : Gb} {Av : Addr → Prop} {s s' : S3} (t : Stp s s') (nd : s'.r.Nodup) : ∀ {vs : List Val} {xs : List V}, VRs G Av s vs xs → VRs G Av s' vs xs
  | _, _, .nil => .nil
  | _, _, .cons h q => .cons (t.vr nd h) (t.vrs nd q)
theorem Stp.sr {G : Gb} {Av : Addr → Prop} {s s' : S3} (t : Stp s s') (nd : s'.r.Nodup) {σ : Sg} {τ : L2.St} (h : SR G Av s σ τ) : SR G Av s' σ τ :=
  ⟨h.len, fun i v e => let ⟨x, e1, q⟩ := h.at_ i v e; ⟨x, e1, t.vr nd q⟩⟩
theorem Stp.trans {s s' s'' : S3} (a : Stp s s') (b : Stp s' s'') (nd : s'.r.Nodup) (hl : s'.r.length = s'.h.length) : Stp s s'' where
  pre := a.pre.trans b.pre
  liv := fun n hn l => a.liv n hn (b.liv n (Nat.lt_of_lt_of_le hn a.pre.length_le) l)
  fr := ⟨fun c o h np nt => b.fr.keep c o (a.fr.keep c o h np nt) (fun ⟨n, e, l⟩ => by
      by_cases hn : n < s.r.length
      · have e0 : s.r[n]? = some (s.r[n]) := List.getElem?_eq_getElem hn
        have e' := pre_get a.pre e0
        rw [e] at e'
        have e2 : c = s.r[n] := Option.some.inj e'
        exact np ⟨n, by rw [e0, e2], a.liv n hn l⟩
      · rcases a.new c (List.mem_of_getElem? e) with hm | hm
        · obtain ⟨m, hm2, e3⟩ := List.mem_iff_getElem.mp hm
          have e1 : s'.r[m]? = some c := pre_get a.pre (by rw [List.getElem?_eq_getElem hm2, e3])
          have := nd_get nd e e1
          omega
        · rw [h] at hm; cases hm) nt, fun c h => b.fr.there c (a.fr.there c h), fun c xs h => b.fr.tup c xs (a.fr.tup c xs h), fun c o u h => b.fr.frz c o u (a.fr.frz c o u h)⟩
  new := fun c hc => by
    rcases b.new c hc with h | h
    · exact a.new c h
    · right
      cases q : s.H c with
      | none => rfl
      | some o => exact absurd h (a.fr.there c (by rw [q]; exact fun z => by cases z))

/-! ### exceptions, ends -/
/-- an exception of ours, as it lies -/
def XR (G : Gb) (e : Exc) (c : Value) (dx : Option Addr) : Prop := ∃ C, G.ca[e.cls]? = some C ∧ c = .ref C ∧ (e.arg = none → dx = none)

/-- what a piece's result must bring about -/
def Post (G : Gb) (E : XK) (Av : Addr → Prop) (s : S3) {α β : Type} (Rl : α → β → S3 → Prop) (r : R α) (Q : β → Hp → Prop) : Prop :=
  match r with
  | .ok a h' => ∀ (s' : S3) (y : β), s'.h = h' → RepH G Av s' → Stp s s' → Rl a y s' → Q y s'.H
  | .er e h' => ∀ (s' : S3) (c : Value) (dx : Option Addr), s'.h = h' → RepH G Av s' → Stp s s' → XR G e c dx → E c dx s'.H
  | .no => False

section
variable {G : Gb} {E : XK} {Av : Addr → Prop} {s s1 : S3} {α β γ δ : Type}
theorem Post.ok {Rl : α → β → S3 → Prop} {a : α} {h : Hq} {Q : β → Hp → Prop} (p : Post G E Av s Rl (.ok a h) Q) {s' : S3} {y : β} (e : s'.h = h) (r : RepH G Av s') (t : Stp s s') (q : Rl a y s') : Q y s'.H := p s' y e r t q
/-- a part, then the rest -/
theorem Post.bind {Rl : α → β → S3 → Prop} {Rm : γ → δ → S3 → Prop} {r : R α} {f : α → Hq → R γ} {Q : δ → Hp → Prop} (p : Post G E Av s Rm (r.bind f) Q) :
    Post G E Av s Rl r fun y H1 => ∃ (a : α) (s1 : S3), s1.H = H1 ∧ RepH G Av s1 ∧ Stp s s1 ∧ Rl a y s1 ∧ Post G E Av s1 Rm (f a s1.h) Q := by
  cases r with
  | ok a h =>
    intro s1 y e rp t q
    refine ⟨a, s1, rfl, rp, t, q, ?_⟩
    subst e
    have p : Post G E Av s Rm (f a s1.h) Q := p
    revert p
    cases hf : f a s1.h with
    | ok c h2 =>
      intro p s2 z e2 rp2 t2 q2
      exact p s2 z e2 rp2 (t.trans t2 rp.nd rp.len) q2
    | er x h2 =>
      intro p s2 c dx e2 rp2 t2 q2
      exact p s2 c dx e2 rp2 (t.trans t2 rp.nd rp.len) q2
    | no => exact fun p => p
  | er x h => exact p
  | no => exact p
theorem Post.mono {Rl : α → β → S3 → Prop} {r : R α} {Q Q' : β → Hp → Prop} (p : Post G E Av s Rl r Q) (h : ∀ y H, Q y H → Q' y H) : Post G E Av s Rl r Q' := by
  cases r with
  | ok a h1 => exact fun s' y e rp t q => h _ _ (p s' y e rp t q)
  | er x h1 => exact p
  | no => exact p
end

/-- the wish about exceptions, at the slots -/
abbrev We (W : WX) (τ : L2.St) : XK := fun c d H => W c d τ H
/-- an expression's reading by the evaluator -/
def tE (G : Gb) (W : WX) (m : Sg → Hq → R Val) : TE := fun τ H Q => ∃ (Av : Addr → Prop) (s : S3) (σ : Sg), s.H = H ∧ RepH G Av s ∧ SR G Av s σ τ ∧ Post G (We W τ) Av s (fun v y s' => VR G Av s' v y) (m σ s.h) Q
def tT (G : Gb) (W : WX) (m : Sg → Hq → R Bool) : TT := fun τ H Q => ∃ (Av : Addr → Prop) (s : S3) (σ : Sg), s.H = H ∧ RepH G Av s ∧ SR G Av s σ τ ∧ Post G (We W τ) Av s (fun v y _ => v = y) (m σ s.h) Q
def tA (G : Gb) (W : WX) (m : Sg → Hq → R (List Val)) : TA := fun τ H Q => ∃ (Av : Addr → Prop) (s : S3) (σ : Sg), s.H = H ∧ RepH G Av s ∧ SR G Av s σ τ ∧ Post G (We W τ) Av s (fun v y s' => VRs G Av s' v y) (m σ s.h) Q
end Ip

set_option linter.all false
set_option Elab.async false
set_option autoImplicit false
/-! Values looked at, handed on, made. -/
namespace Ip
open PySem L2

/-! ### heaps that grow -/
theorem fr_upd_new {P : Addr → Prop} {H : Hp} {p : Addr} {o : HO} (hp : H p = none) : Fr P H (upd H p o) := by
  refine ⟨fun a u h _ _ => ?_, fun a h => ?_, fun a xs h => ?_, fun a _ _ h => ?_⟩
  · rw [upd_ne (ne_of_none h hp)]; exact h
  · by_cases e : a = p
    · subst e; rw [upd_same]; exact fun z => by cases z
    · rw [upd_ne e]; exact h
  · rw [upd_ne (ne_of_none h hp)]; exact h
  · rw [upd_ne (ne_of_none h hp)]; exact h
/-- an object that may change is written -/
theorem fr_upd_live {P : Addr → Prop} {H : Hp} {p : Addr} {o u : HO} (hp : H p = some u) (hu : ∀ xs, u ≠ .tup xs) (hf : ∀ ob w, u ≠ .frz ob w) (hP : P p) : Fr P H (upd H p o) := by
  refine ⟨fun a u h n _ => ?_, fun a h => ?_, fun a ys h => ?_, fun a ob w h => ?_⟩
  · have e : a ≠ p := fun z => by subst z; exact n hP
    rw [upd_ne e]; exact h
  · by_cases e : a = p
    · subst e; rw [upd_same]; exact fun z => by cases z
    · rw [upd_ne e]; exact h
  · have e : a ≠ p := fun z => by
      subst z
      rw [hp] at h
      exact hu _ (Option.some.inj h)
    rw [upd_ne e]; exact h
  · have e : a ≠ p := fun z => by
      subst z
      rw [hp] at h
      exact hf _ _ (Option.some.inj h)
    rw [upd_ne e]; exact h

section
variable {G : Gb} {Av : Addr → Prop} {s : S3}
theorem RepH.bad_some (r : RepH G Av s) {a : Addr} (h : Bad Av s a) : s.H a ≠ none := by
  rcases h with h | ⟨n, e, vs, hl⟩
  · exact r.av a h
  · exact r.trk a (List.mem_of_getElem? e)
theorem tx_step {s s' : S3} {a : Addr} {ds : List D} (t : Stp s s') (nd : s'.r.Nodup) (q : OR G Av s a (.tx ds)) : OR G Av s' a (.tx ds) := by
  obtain ⟨o, xs, h1, h2, h3⟩ := q
  exact ⟨o, xs, h1, t.fr.frz _ _ _ h2, DRs.mono t.fr (fun a z => .inr z) (t.bad nd) h3⟩
theorem dl_step {s s' : S3} {a : Addr} {kvs : List (Key × Val)} (t : Stp s s') (nd : s'.r.Nodup) (q : OR G Av s a (.dl kvs)) : OR G Av s' a (.dl kvs) := by
  obtain ⟨o, es, h1, h2⟩ := q
  exact ⟨o, es, t.fr.frz _ _ _ h1, h2.map (t.vr nd)⟩
/-- the abstract heap grows beside -/
theorem RepH.grow (r : RepH G Av s) {H' : Hp} (f : Fr (fun a => ∃ n, s.r[n]? = some a ∧ live s.h n) s.H H') (hl : ∀ n a, s.r[n]? = some a → live s.h n → H' a = s.H a) (ht : LamX.Tabs G.tb H') : RepH G Av ⟨s.r, s.h, H'⟩ ∧ Stp s ⟨s.r, s.h, H'⟩ := by
  have st : Stp s ⟨s.r, s.h, H'⟩ := ⟨List.prefix_refl _, fun _ _ h => h, f, fun _ h => .inl h⟩
  refine ⟨⟨r.len, r.nd, fun n a o e1 e2 => ?_, fun a h => f.there a (r.av a h), r.dis, fun a h => f.there a (r.trk a h), ht⟩, st⟩
  have q := r.obj n a o e1 e2
  cases o with
  | lst vs =>
    obtain ⟨xs, h1, h2⟩ := q
    exact ⟨xs, (hl n a e1 ⟨_, e2, rfl⟩).trans h1, st.vrs r.nd h2⟩
  | dead x => exact st.dr r.nd q
  | dct c =>
    obtain ⟨ob, h1, h2⟩ := q
    exact ⟨ob, (hl n a e1 ⟨_, e2, rfl⟩).trans h1, h2.map (st.vr r.nd) st.fr.sqt⟩
  | tx ds => exact tx_step st r.nd q
  | dl kvs => exact dl_step st r.nd q
/-- an object that may change, as it lies -/
theorem RepH.at_live (r : RepH G Av s) {n : Nat} {a : Addr} (e : s.r[n]? = some a) (l : live s.h n) : ∃ u, s.H a = some u ∧ (∀ ps, u ≠ .tbl ps) ∧ (∀ xs, u ≠ .tup xs) ∧ ∀ q, u ≠ LamX.CodeO a q := by
  obtain ⟨o, hl, ha⟩ := l
  have q := r.obj n a _ e hl
  cases o with
  | lst vs => obtain ⟨xs, hx, _⟩ := q; exact ⟨_, hx, fun _ z => (by cases z), fun _ z => (by cases z), fun _ z => (by unfold LamX.CodeO at z; cases z)⟩
  | dead x => cases ha
  | dct c => obtain ⟨ob, hx, h2⟩ := q; exact ⟨ob, hx, h2.nt.1, h2.nt.2.1, h2.nt.2.2.1⟩
  | tx ds => cases ha
  | dl kvs => cases ha
theorem RepH.upd_new (r : RepH G Av s) {p : Addr} {o : HO} (hp : s.H p = none) : RepH G Av ⟨s.r, s.h, upd s.H p o⟩ ∧ Stp s ⟨s.r, s.h, upd s.H p o⟩ :=
  r.grow (fr_upd_new hp) (fun n a e _ => by
    have : a ≠ p := fun z => by subst z; exact r.trk a (List.mem_of_getElem? e) hp
    rw [upd_ne this]) (tabs_upd r.tabs (.inl hp))

/-- the data of a value -/
theorem dat_eq {v : Val} {x : D} (h : dat v = some x) : v = .d x := by
  cases v with
  | d y => cases h; rfl
  | ref _ => cases h
  | fn _ => cases h
theorem dats_eq : ∀ {vs : List Val} {ds : List D}, dats vs = some ds → vs = ds.map .d
  | [], ds, h => by cases h; rfl
  | v :: vs, ds, h => by
    unfold dats at h
    split at h
    · rename_i x xs h1 h2
      cases h
      rw [dat_eq h1, dats_eq h2]; rfl
    · cases h
theorem dats_map (ds : List D) : dats (ds.map .d) = some ds := by
  induction ds with
  | nil => rfl
  | cons x r ih => simp only [List.map_cons, dats, dat, ih]

/-- what may change no more -/
theorem bad_dead {n : Nat} {a : Addr} {x : D} (nd : s.r.Nodup) (hn : s.r[n]? = some a) (dis : ∀ a, Av a → a ∉ s.r) : ¬ Bad Av ⟨s.r, s.h.set n (.dead x), s.H⟩ a := fun h => by
  rcases h with h | ⟨m, e, o, hl, ha⟩
  · exact dis a h (List.mem_of_getElem? hn)
  · have : m = n := nd_get nd e hn
    subst this
    have hm : m < s.h.length ∨ ¬ m < s.h.length := Nat.lt_or_ge m s.h.length |>.imp id Nat.not_lt.mpr
    rcases hm with hm | hm
    · rw [List.getElem?_set_self hm] at hl; cases hl; cases ha
    · rw [List.getElem?_eq_none (by rw [List.length_set]; exact Nat.not_lt.mp hm)] at hl; cases hl
theorem bad_set_sub {n : Nat} {x : D} {a : Addr} (h : Bad Av ⟨s.r, s.h.set n (.dead x), s.H⟩ a) : Bad Av s a := by
  rcases h with h | ⟨m, e, o, hl, ha⟩
  · exact .inl h
  · refine .inr ⟨m, e, o, ?_, ha⟩
    have hl : (s.h.set n (.dead x))[m]? = some o := hl
    by_cases hmn : n = m
    · subst hmn
      by_cases hm : n < s.h.length
      · rw [List.getElem?_set_self hm] at hl; cases hl; cases ha
      · rw [List.getElem?_eq_none (by rw [List.length_set]; exact Nat.not_lt.mp hm)] at hl; cases hl
    · rw [List.getElem?_set_ne hmn] at hl; exact hl
theorem DR.sub {K : PySem.W.Frag} {H : Hp} {B B' : Addr → Prop} (h : ∀ a, B' a → B a) {v : V} {d : D} (q : DR K H B v d) : DR K H B' v d := q.weak fun a _ n z => n (h a z)
theorem DRs.sub {K : PySem.W.Frag} {H : Hp} {B B' : Addr → Prop} (h : ∀ a, B' a → B a) {v : List V} {d : List D} (q : DRs K H B v d) : DRs K H B' v d := q.weak fun a _ n z => n (h a z)

theorem RepH.kill (r : RepH G Av s) {n : Nat} {a : Addr} {vs : List Val} {ds : List D} (hn : s.r[n]? = some a) (hl : s.h[n]? = some (.lst vs)) (e : vs = ds.map .d) :
    RepH G Av ⟨s.r, s.h.set n (.dead (.list ds)), s.H⟩ ∧ Stp s ⟨s.r, s.h.set n (.dead (.list ds)), s.H⟩ ∧ DR G.K s.H (Bad Av ⟨s.r, s.h.set n (.dead (.list ds)), s.H⟩) (.ref a) (.list ds) := by
  subst e
  have st : Stp s ⟨s.r, s.h.set n (.dead (.list ds)), s.H⟩ := by
    refine ⟨List.prefix_refl _, fun m _ h => ?_, Fr.refl _ _, fun _ h => .inl h⟩
    obtain ⟨o, h, ha⟩ := h
    have h : (s.h.set n (.dead (.list ds)))[m]? = some o := h
    by_cases hmn : n = m
    · subst hmn
      rw [List.getElem?_set_self (lt_of_get hl)] at h; cases h; cases ha
    · rw [List.getElem?_set_ne hmn] at h; exact ⟨o, h, ha⟩
  obtain ⟨xs, hx, hv⟩ := r.obj n a _ hn hl
  have dd : DR G.K s.H (Bad Av ⟨s.r, s.h.set n (.dead (.list ds)), s.H⟩) (.ref a) (.list ds) :=
    .lst (.inl ⟨.inl hx, bad_dead r.nd hn r.dis⟩) (hv.to_data.sub fun _ z => bad_set_sub z)
  refine ⟨⟨by rw [List.length_set]; exact r.len, r.nd, fun m b o e1 e2 => ?_, r.av, r.dis, r.trk, r.tabs⟩, st, dd⟩
  by_cases hmn : n = m
  · subst hmn
    have e2 : (s.h.set n (.dead (.list ds)))[n]? = some o := e2
    rw [List.getElem?_set_self (lt_of_get hl)] at e2
    cases e2
    have : b = a := by
      have e1 : s.r[n]? = some b := e1
      rw [hn] at e1; exact (Option.some.inj e1).symm
    subst this
    exact dd
  · have e2 : (s.h.set n (.dead (.list ds)))[m]? = some o := e2
    rw [List.getElem?_set_ne hmn] at e2
    have q := r.obj m b o e1 e2
    cases o with
    | lst ws =>
      obtain ⟨ys, h1, h2⟩ := q
      exact ⟨ys, h1, st.vrs r.nd h2⟩
    | dead x => exact st.dr r.nd q
    | dct c =>
      obtain ⟨ob, h1, h2⟩ := q
      exact ⟨ob, h1, h2.map (st.vr r.nd) st.fr.sqt⟩
    | tx ds2 => exact tx_step st r.nd q
    | dl kvs => exact dl_step st r.nd q

theorem toD_ok (r : RepH G Av s) {v : Val} {y : V} (q : VR G Av s v y) {x : D} {h' : Hq} (e : toD v s.h = .ok x h') :
    RepH G Av ⟨s.r, h', s.H⟩ ∧ Stp s ⟨s.r, h', s.H⟩ ∧ DR G.K s.H (Bad Av ⟨s.r, h', s.H⟩) y x := by
  cases q with
  | d q =>
    cases e
    exact ⟨r, Stp.refl _, q⟩
  | ref hn =>
    rename_i n a
    unfold toD at e
    simp only at e
    split at e
    · rename_i vs hl
      split at e
      · rename_i ds hd
        cases e
        exact r.kill hn hl (dats_eq hd)
      · cases e
    · rename_i x' hl
      cases e
      exact ⟨r, Stp.refl _, r.obj n a _ hn hl⟩
    · rename_i ds hl
      cases e
      obtain ⟨o, xs, h1, h2, h3⟩ := r.obj n a _ hn hl
      exact ⟨r, Stp.refl _, .tup (.inl (.inr ⟨o, h2⟩)) h3⟩
    · cases e
  | fn _ => cases e
theorem toD_no_er (v : Val) (h : Hq) (x : Exc) (h' : Hq) : toD v h ≠ .er x h' := fun z => by
  cases v with
  | d y => cases z
  | fn _ => cases z
  | ref n =>
    unfold toD at z
    simp only at z
    split at z
    · split at z <;> cases z
    · cases z
    · cases z
    · cases z
theorem toDs_no_er : ∀ (vs : List Val) (h : Hq) (x : Exc) (h' : Hq), toDs vs h ≠ .er x h'
  | [], _, _, _, z => by cases z
  | v :: vs, h, x, h', z => by
    unfold toDs at z
    cases e : toD v h with
    | ok a h1 =>
      rw [e] at z
      simp only [R.bind_ok] at z
      cases e2 : toDs vs h1 with
      | ok a h2 => rw [e2] at z; cases z
      | er x2 h2 => exact toDs_no_er vs h1 _ _ e2
      | no => rw [e2] at z; cases z
    | er x2 h2 => exact toD_no_er v h _ _ e
    | no => rw [e] at z; cases z
theorem toDs_ok : ∀ {vs : List Val} {s : S3} {ys : List V} {xs : List D} {h' : Hq}, RepH G Av s → VRs G Av s vs ys → toDs vs s.h = .ok xs h' →
    RepH G Av ⟨s.r, h', s.H⟩ ∧ Stp s ⟨s.r, h', s.H⟩ ∧ DRs G.K s.H (Bad Av ⟨s.r, h', s.H⟩) ys xs
  | [], s, _, _, _, r, .nil, e => by
    cases e
    exact ⟨r, Stp.refl _, .nil⟩
  | v :: vs, s, _, xs, h', r, .cons q t, e => by
    unfold toDs at e
    cases e1 : toD v s.h with
    | er x h1 => exact absurd e1 (toD_no_er _ _ _ _)
    | no => rw [e1] at e; cases e
    | ok x h1 =>
      rw [e1] at e
      simp only [R.bind_ok] at e
      obtain ⟨r1, t1, d1⟩ := toD_ok r q e1
      cases e2 : toDs vs h1 with
      | er x h2 => exact absurd e2 (toDs_no_er _ _ _ _)
      | no => rw [e2] at e; cases e
      | ok ds h2 =>
        rw [e2] at e
        cases e
        obtain ⟨r2, t2, d2⟩ := toDs_ok (s := ⟨s.r, h1, s.H⟩) r1 (t1.vrs r1.nd t) e2
        exact ⟨r2, t1.trans t2 r1.nd r1.len, .cons (t2.dr r2.nd d1) d2⟩

/-! ### looks -/
abbrev NoB : Addr → Prop := fun _ => False
theorem allO_dr {f : Val → Option D} {B : Addr → Prop} (hf : ∀ v y x, VR G Av s v y → f v = some x → DR G.K s.H B y x) : ∀ {vs : List Val} {ys : List V} {xs : List D}, VRs G Av s vs ys → allO f vs = some xs → DRs G.K s.H B ys xs
  | _, _, _, .nil, e => by
    simp only [allO] at e
    cases e
    exact .nil
  | v :: vs, _, _, .cons q t, e => by
    simp only [allO] at e
    split at e
    · rename_i x xs h1 h2
      cases e
      exact .cons (hf _ _ _ q h1) (allO_dr hf t h2)
    · cases e
theorem pk_dr (r : RepH G Av s) : ∀ {n : Nat} {v : Val} {y : V} {x : D}, VR G Av s v y → pk s.h n v = some x → DR G.K s.H NoB y x
  | 0, .d x, _, _, .d q, e => by
    simp only [pk] at e
    cases e
    exact q.sub fun _ z => z.elim
  | n + 1, .d x, _, _, .d q, e => by
    simp only [pk] at e
    cases e
    exact q.sub fun _ z => z.elim
  | 0, .ref m, _, _, .ref hn, e => by simp only [pk] at e; cases e
  | n + 1, .ref m, _, x, .ref hn, e => by
    simp only [pk] at e
    split at e
    · rename_i vs hl
      obtain ⟨xs, hx, hv⟩ := r.obj m _ _ hn hl
      cases e2 : allO (pk s.h n) vs with
      | none => rw [e2] at e; cases e
      | some ds =>
        rw [e2] at e
        cases e
        exact .lst (.inl ⟨.inl hx, fun z => z⟩) (allO_dr (fun _ _ _ q e => pk_dr r q e) hv e2)
    · rename_i x' hl
      cases e
      exact DR.sub (fun _ z => z.elim) (r.obj m _ _ hn hl)
    · rename_i ds hl
      cases e
      obtain ⟨o, xs, h1, h2, h3⟩ := r.obj m _ _ hn hl
      exact .tup (.inl (.inr ⟨o, h2⟩)) (h3.sub fun _ z => z.elim)
    · cases e
  | 0, .fn _, _, _, .fn _, e => by simp only [pk] at e; cases e
  | _ + 1, .fn _, _, _, .fn _, e => by simp only [pk] at e; cases e
theorem pks_dr (r : RepH G Av s) {n : Nat} {vs : List Val} {ys : List V} {xs : List D} (q : VRs G Av s vs ys) (e : pks s.h n vs = some xs) : DRs G.K s.H NoB ys xs :=
  allO_dr (fun _ _ _ q e => pk_dr r q e) q e
/-- items -/
theorem els_ok (r : RepH G Av s) {v : Val} {y : V} {vs : List Val} (q : VR G Av s v y) (e : els s.h v = some vs) :
    ∃ a xs, y = .ref a ∧ (SqL G.K s.H a xs ∨ SqT G.K s.H a xs) ∧ VRs G Av s vs xs := by
  cases q with
  | d q =>
    cases q with
    | lst h t => cases e; exact ⟨_, _, rfl, .inl (sql_of h), VRs.of_data t⟩
    | tup h t => cases e; exact ⟨_, _, rfl, .inr h, VRs.of_data t⟩
    | non => cases e
    | bl b => cases e
    | int i => cases e
    | str x => cases e
  | ref hn =>
    unfold els at e
    simp only at e
    split at e
    · rename_i ws hl
      cases e
      obtain ⟨xs, hx, hv⟩ := r.obj _ _ _ hn hl
      exact ⟨_, xs, rfl, .inl (.inl (.inl hx)), hv⟩
    · rename_i ws hl
      cases e
      have q := r.obj _ _ _ hn hl
      cases q with
      | lst h t => exact ⟨_, _, rfl, .inl (sql_of h), VRs.of_data t⟩
    · rename_i ws hl
      cases e
      obtain ⟨o, xs, h1, h2, h3⟩ := r.obj _ _ _ hn hl
      exact ⟨_, _, rfl, .inr (.inl (.inr ⟨o, h2⟩)), VRs.of_data h3⟩
    · cases e
  | fn _ => cases e
end

/-! ### expressions: how a rule of the layer is taken -/
section
variable {X : Cx} {G : Gb} {E : XK} {W : WX} {e : Expr} {t t' : TE} {u u' : TT} {es : List Expr} {ta ta' : TA}
theorem _root_.L2.PE.imp (h : PE X e t) (q : ∀ τ H Q, t' τ H Q → t τ H Q) : PE X e t' := ⟨fun pins s σ H Q I w => h.run pins s σ H Q I (q _ _ _ w)⟩
theorem _root_.L2.PT.imp (h : PT X e u) (q : ∀ τ H Q, u' τ H Q → u τ H Q) : PT X e u' := ⟨fun pins s σ H Q I w => h.run pins s σ H Q I (q _ _ _ w)⟩
theorem _root_.L2.PW.imp (h : PW X e u) (q : ∀ τ H Q, u' τ H Q → u τ H Q) : PW X e u' := ⟨fun wh pins s σ H Q I w => h.run wh pins s σ H Q I (q _ _ _ w)⟩
theorem _root_.L2.PA.imp (h : PA X es ta) (q : ∀ τ H Q, ta' τ H Q → ta τ H Q) : PA X es ta' := ⟨fun pos pins s σ H Q I w => h.run pos pins s σ H Q I (q _ _ _ w)⟩
end
section
variable {G : Gb} {E : XK} {W : WX} {Av : Addr → Prop} {s : S3} {σ : Sg} {τ : L2.St}
/-- a part's reading, from the whole's -/
theorem tE_bind {γ δ : Type} {m : Sg → Hq → R Val} {f : Val → Hq → R γ} {Rm : γ → δ → S3 → Prop} {Q : δ → Hp → Prop} (rp : RepH G Av s) (sr : SR G Av s σ τ) (p : Post G (We W τ) Av s Rm ((m σ s.h).bind f) Q) {Q' : VK}
    (h : ∀ (v : Val) (y : V) (s1 : S3), RepH G Av s1 → Stp s s1 → SR G Av s1 σ τ → VR G Av s1 v y → Post G (We W τ) Av s1 Rm (f v s1.h) Q → Q' y s1.H) : tE G W m τ s.H Q' := by
  refine ⟨Av, s, σ, rfl, rp, sr, (p.bind (Rl := fun v y s' => VR G Av s' v y)).mono ?_⟩
  rintro y H1 ⟨v, s1, rfl, rp1, st, q, p1⟩
  exact h v y s1 rp1 st (st.sr rp1.nd sr) q p1
theorem tT_bind {γ δ : Type} {m : Sg → Hq → R Bool} {f : Bool → Hq → R γ} {Rm : γ → δ → S3 → Prop} {Q : δ → Hp → Prop} (rp : RepH G Av s) (sr : SR G Av s σ τ) (p : Post G (We W τ) Av s Rm ((m σ s.h).bind f) Q) {Q' : Bool → Hp → Prop}
    (h : ∀ (b : Bool) (s1 : S3), RepH G Av s1 → Stp s s1 → SR G Av s1 σ τ → Post G (We W τ) Av s1 Rm (f b s1.h) Q → Q' b s1.H) : tT G W m τ s.H Q' := by
  refine ⟨Av, s, σ, rfl, rp, sr, (p.bind (Rl := fun v y s' => v = y)).mono ?_⟩
  rintro y H1 ⟨v, s1, rfl, rp1, st, q, p1⟩
  subst q
  exact h v s1 rp1 st (st.sr rp1.nd sr) p1
theorem tA_bind {γ δ : Type} {m : Sg → Hq → R (List Val)} {f : List Val → Hq → R γ} {Rm : γ → δ → S3 → Prop} {Q : δ → Hp → Prop} (rp : RepH G Av s) (sr : SR G Av s σ τ) (p : Post G (We W τ) Av s Rm ((m σ s.h).bind f) Q) {Q' : List V → Hp → Prop}
    (h : ∀ (v : List Val) (y : List V) (s1 : S3), RepH G Av s1 → Stp s s1 → SR G Av s1 σ τ → VRs G Av s1 v y → Post G (We W τ) Av s1 Rm (f v s1.h) Q → Q' y s1.H) : tA G W m τ s.H Q' := by
  refine ⟨Av, s, σ, rfl, rp, sr, (p.bind (Rl := fun v y s' => VRs G Av s' v y)).mono ?_⟩
  rintro y H1 ⟨v, s1, rfl, rp1, st, q, p1⟩
  exact h v y s1 rp1 st (st.sr rp1.nd sr) q p1
/-- the end of a piece that leaves the state as it is -/
theorem Post.fin {α β : Type} {Rl : α → β → S3 → Prop} {a : α} {y : β} {Q : β → Hp → Prop} (p : Post G E Av s Rl (.ok a s.h) Q) (rp : RepH G Av s) (q : Rl a y s) : Q y s.H := p s y rfl rp (Stp.refl _) q
end

/-! ### scalars -/
def scalV : D → Option V
  | .none => some .non
  | .bool b => some (.bl b)
  | .int i => some (.int i)
  | .str x => some (.str x)
  | _ => none
theorem scal_dr {K : PySem.W.Frag} {H : Hp} {B : Addr → Prop} {x : D} {v : V} (h : scalV x = some v) : DR K H B v x := by
  cases x with
  | none => cases h; exact .non
  | bool b => cases h; exact .bl b
  | int i => cases h; exact .int i
  | str z => cases h; exact .str z
  | list _ => cases h
  | tuple _ => cases h
  | dict _ => cases h
theorem binD_scal {o : Bop} {a b c : D} (h : binD o a b = some c) : ∃ v, scalV c = some v := by
  unfold binD at h
  split at h <;> (try split at h) <;> first | (cases h; exact ⟨_, rfl⟩) | cases h

/-- the layer's word for an operator -/
def opOf : Bop → Operator
  | .add => .Add
  | .sub => .Sub
  | .mul => .Mult
  | .fdiv => .FloorDiv
  | .mod => .Mod
  | .pow => .Pow
theorem fits_line {n : Nat} (h : fits n = true) : n ≤ sizeLine := by
  rw [sizeLine_eq]
  exact of_decide_eq_true h
theorem lt_of_log2 {n k : Nat} (h : n.log2 < k) : n < 2 ^ k := by
  by_cases h0 : n = 0
  · subst h0; exact Nat.pow_pos (by decide)
  · exact (Nat.log2_lt h0).mp h
theorem okMul_c {i j : Int} (h : okMul i j = true) : CMulW i j := by
  have h := of_decide_eq_true h
  exact wide_mul (a := i.natAbs.log2 + 1) (b := j.natAbs.log2 + 1) (lt_of_log2 (Nat.lt_succ_self _)) (lt_of_log2 (Nat.lt_succ_self _)) (Nat.succ_pos _) (Nat.succ_pos _) (by omega)
def rBin (G : Gb) (o : Bop) : R2 := fun x y H Q => ∃ a b c v, Dp G.K H x a ∧ Dp G.K H y b ∧ binD o a b = some c ∧ scalV c = some v ∧ Q v H
theorem dp_int {K : PySem.W.Frag} {H : Hp} {x : V} {i : Int} (h : Dp K H x (.int i)) : x = .int i := by cases h; rfl
theorem dp_str {K : PySem.W.Frag} {H : Hp} {x : V} {i : Str} (h : Dp K H x (.str i)) : x = .str i := by cases h; rfl
theorem dp_bl {K : PySem.W.Frag} {H : Hp} {x : V} {i : Bool} (h : Dp K H x (.bool i)) : x = .bl i := by cases h; rfl
theorem dp_non {K : PySem.W.Frag} {H : Hp} {x : V} (h : Dp K H x .none) : x = .non := by cases h; rfl
theorem op_fdivA {X : Cx} : OpR X (binaryOp .FloorDiv) (rI (fun _ j => j ≠ 0 ∧ j.natAbs.log2 < 9000) fun i j => .int (i.fdiv j)) := opI fun _ _ _ _ _ _ _ hc q => PyProof.Rows.floordiv_int hc.1 q (.inl (PyProof.noPylong_of_log2 hc.2))
theorem op_bin {X : Cx} {G : Gb} (o : Bop) : OpR X (binaryOp (opOf o)) (rBin G o) := by
  rintro pins s σ H x y v u Q I rx ry ⟨a, b, c, w, da, db, e, sc, q⟩
  unfold binD at e
  split at e
  · cases e; cases sc; cases dp_int da; cases dp_int db
    exact op_add pins s σ H _ _ v u Q I rx ry ⟨_, _, rfl, rfl, q⟩
  · split at e
    · rename_i hf
      cases e; cases sc; cases dp_str da; cases dp_str db
      exact op_add_str pins s σ H _ _ v u Q I rx ry ⟨_, _, rfl, rfl, fits_line hf, q⟩
    · cases e
  · cases e; cases sc; cases dp_int da; cases dp_int db
    exact op_sub pins s σ H _ _ v u Q I rx ry ⟨_, _, rfl, rfl, q⟩
  · split at e
    · rename_i hf
      cases e; cases sc; cases dp_int da; cases dp_int db
      exact op_mulW pins s σ H _ _ v u Q I rx ry ⟨_, _, rfl, rfl, okMul_c hf, q⟩
    · cases e
  · split at e
    · rename_i hf
      cases e; cases sc; cases dp_int da; cases dp_int db
      unfold okDiv at hf
      simp only [Bool.and_eq_true, Bool.or_eq_true, decide_eq_true_eq] at hf
      exact op_fdivA pins s σ H _ _ v u Q I rx ry ⟨_, _, rfl, rfl, ⟨hf.1, by omega⟩, q⟩
    · cases e
  · split at e
    · cases e
    · rename_i hf
      cases e; cases sc; cases dp_int da; cases dp_int db
      exact op_modN pins s σ H _ _ v u Q I rx ry ⟨_, _, rfl, rfl, hf, q⟩
  · split at e
    · rename_i hf
      cases e; cases sc; cases dp_int da; cases dp_int db
      unfold okPow at hf
      simp only [Bool.and_eq_true, decide_eq_true_eq] at hf
      exact op_pow pins s σ H _ _ v u Q I rx ry ⟨_, _, rfl, rfl, ⟨hf.1.1, hf.1.2, lt_of_log2 hf.2⟩, q⟩
    · cases e
  · cases e
end Ip

set_option linter.all false
set_option Elab.async false
set_option autoImplicit false
/-! Dicts: looked at, written, made. -/
namespace Ip
open PySem PySem.Spec L2 PyProof.Rows
section
variable {G : Gb} {Av : Addr → Prop} {s : S3}
theorem KVs.look {κ : Type} [DecidableEq κ] : ∀ {l : List (κ × Val)} {m : List (κ × V)} (k : κ), KVs G Av s l m → (lookK l k = none ∧ valV m k = none) ∨ ∃ v x, lookK l k = some v ∧ valV m k = some x ∧ VR G Av s v x
  | _, _, k, .nil => .inl ⟨rfl, rfl⟩
  | _, _, k, @KVs.cons _ _ _ _ k0 v x l m q t => by
    by_cases e : k0 = k
    · exact .inr ⟨v, x, by simp [lookK, List.find?_cons, e], valV_pos e, q⟩
    · rcases KVs.look k t with ⟨h1, h2⟩ | ⟨v', x', h1, h2, h3⟩
      · exact .inl ⟨by simpa [lookK, List.find?_cons, e] using h1, by rw [valV_neg e]; exact h2⟩
      · exact .inr ⟨v', x', by simpa [lookK, List.find?_cons, e] using h1, by rw [valV_neg e]; exact h2, h3⟩
theorem KVs.any {κ : Type} [DecidableEq κ] (k : κ) : ∀ {l : List (κ × Val)} {m : List (κ × V)}, KVs G Av s l m → (l.any fun p => decide (p.1 = k)) = m.any fun p => decide (p.1 = k)
  | _, _, .nil => rfl
  | _, _, .cons _ t => by rw [List.any_cons, List.any_cons, KVs.any k t]
theorem KVs.append {κ : Type} : ∀ {l l' : List (κ × Val)} {m m' : List (κ × V)}, KVs G Av s l m → KVs G Av s l' m' → KVs G Av s (l ++ l') (m ++ m')
  | _, _, _, _, .nil, q => q
  | _, _, _, _, .cons h t, q => .cons h (KVs.append t q)
theorem KVs.repl {κ : Type} [DecidableEq κ] (k : κ) {v : Val} {x : V} (q : VR G Av s v x) : ∀ {l : List (κ × Val)} {m : List (κ × V)}, KVs G Av s l m → KVs G Av s (l.map fun p => if p.1 = k then (p.1, v) else p) (m.map fun p => if p.1 = k then (p.1, x) else p)
  | _, _, .nil => .nil
  | _, _, @KVs.cons _ _ _ _ k0 v0 x0 l m h t => by
    rw [List.map_cons, List.map_cons]
    by_cases e : k0 = k
    · simp only [e, if_true]; exact .cons q (KVs.repl k q t)
    · simp only [e, if_false]; exact .cons h (KVs.repl k q t)
theorem KVs.stor {κ : Type} [DecidableEq κ] (k : κ) {v : Val} {x : V} (q : VR G Av s v x) {l : List (κ × Val)} {m : List (κ × V)} (h : KVs G Av s l m) : KVs G Av s (storK l k v) (putK m k x) := by
  unfold storK putK
  rw [h.any k]
  split
  · exact h.repl k q
  · exact h.append (.cons q .nil)
theorem keyK_ok {K : PySem.W.Frag} {H : Hp} {B : Addr → Prop} {d : D} {y : V} {k : L2.Key} (q : DR K H B y d) (e : keyK d = some k) : y = kV k := by
  cases q <;> cases e <;> rfl
theorem keyKs_ok {K : PySem.W.Frag} {H : Hp} {B : Addr → Prop} : ∀ {ds : List D} {ys : List V} {ks : List L2.Key}, DRs K H B ys ds → keyKs ds = some ks → ys = ks.map kV
  | [], _, _, .nil, e => by cases e; rfl
  | d :: ds, _, ks, .cons h t, e => by
    unfold keyKs at e
    split at e
    · rename_i k ks' h1 h2
      cases e
      rw [keyK_ok h h1, keyKs_ok t h2]; rfl
    · cases e
theorem keyT_ok {K : PySem.W.Frag} {H : Hp} {B : Addr → Prop} {d : D} {y : V} {k : List L2.Key} (q : DR K H B y d) (e : keyT d = some k) : ∃ b, y = .ref b ∧ SqT K H b (k.map kV) := by
  cases q with
  | tup h t => exact ⟨_, rfl, by rw [← keyKs_ok t e]; exact h⟩
  | non => cases e
  | bl _ => cases e
  | int _ => cases e
  | str _ => cases e
  | lst _ _ => cases e
theorem dct_ok (r : RepH G Av s) {v : Val} {y : V} {c : Dc} (q : VR G Av s v y) (e : dct s.h v = some c) : ∃ n a ob, v = .ref n ∧ y = .ref a ∧ s.r[n]? = some a ∧ s.h[n]? = some (.dct c) ∧ s.H a = some ob ∧ CR2 G Av s a c ob := by
  cases q with
  | d q => cases e
  | fn _ => cases e
  | @ref n a hn =>
    unfold dct at e
    simp only at e
    split at e
    · rename_i c' hl
      cases e
      obtain ⟨ob, h1, h2⟩ := r.obj n a _ hn hl
      exact ⟨n, a, ob, rfl, rfl, hn, hl, h1, h2⟩
    · cases e
theorem dct_R {h : Hq} {v : Val} (e : dctR h v = none) : dct h v = none := by
  cases v with
  | d _ => rfl
  | fn _ => rfl
  | ref n =>
    unfold dctR at e
    unfold dct
    simp only at e ⊢
    split at e
    · cases e
    · cases e
    · split
      · rename_i h1 _ _ _ h2; exact absurd h2 (h1 _)
      · rfl
/-- what stands at a key that is a tuple -/
def lookT (xs : List (List Key × Addr × V)) (k : List Key) : Option V := (xs.find? fun p => decide (p.1 = k)).map (·.2.2)
def storT (xs : List (List Key × Addr × V)) (k : List Key) (b : Addr) (x : V) : List (List Key × Addr × V) :=
  if (xs.any fun p => decide (p.1 = k)) = true then xs.map (fun p => if p.1 = k then (p.1, p.2.1, x) else p) else xs ++ [(k, b, x)]
theorem KVt.look : ∀ {l : List (List Key × Val)} {m : List (List Key × Addr × V)} (k : List Key), KVt G Av s l m → (lookK l k = none ∧ lookT m k = none) ∨ ∃ v x, lookK l k = some v ∧ lookT m k = some x ∧ VR G Av s v x
  | _, _, k, .nil => .inl ⟨rfl, rfl⟩
  | _, _, k, @KVt.cons _ _ _ k0 b0 v x l m z q t => by
    by_cases e : k0 = k
    · exact .inr ⟨v, x, by simp [lookK, List.find?_cons, e], by simp [lookT, List.find?_cons, e], q⟩
    · rcases KVt.look k t with ⟨h1, h2⟩ | ⟨v', x', h1, h2, h3⟩
      · exact .inl ⟨by simpa [lookK, List.find?_cons, e] using h1, by simpa [lookT, List.find?_cons, e] using h2⟩
      · exact .inr ⟨v', x', by simpa [lookK, List.find?_cons, e] using h1, by simpa [lookT, List.find?_cons, e] using h2, h3⟩
theorem KVt.any (k : List Key) : ∀ {l : List (List Key × Val)} {m : List (List Key × Addr × V)}, KVt G Av s l m → (l.any fun p => decide (p.1 = k)) = m.any fun p => decide (p.1 = k)
  | _, _, .nil => rfl
  | _, _, .cons _ _ t => by rw [List.any_cons, List.any_cons, KVt.any k t]
theorem KVt.append : ∀ {l l' : List (List Key × Val)} {m m' : List (List Key × Addr × V)}, KVt G Av s l m → KVt G Av s l' m' → KVt G Av s (l ++ l') (m ++ m')
  | _, _, _, _, .nil, q => q
  | _, _, _, _, .cons z h t, q => .cons z h (KVt.append t q)
theorem KVt.repl (k : List Key) {v : Val} {x : V} (q : VR G Av s v x) : ∀ {l : List (List Key × Val)} {m : List (List Key × Addr × V)}, KVt G Av s l m → KVt G Av s (l.map fun p => if p.1 = k then (p.1, v) else p) (m.map fun p => if p.1 = k then (p.1, p.2.1, x) else p)
  | _, _, .nil => .nil
  | _, _, @KVt.cons _ _ _ k0 b0 v0 x0 l m z h t => by
    rw [List.map_cons, List.map_cons]
    by_cases e : k0 = k
    · rw [if_pos e, if_pos e]; exact .cons z q (KVt.repl k q t)
    · rw [if_neg e, if_neg e]; exact .cons z h (KVt.repl k q t)
theorem KVt.stor (k : List Key) {b : Addr} {v : Val} {x : V} (z : SqT G.K s.H b (k.map kV)) (q : VR G Av s v x) {l : List (List Key × Val)} {m : List (List Key × Addr × V)} (h : KVt G Av s l m) : KVt G Av s (storK l k v) (storT m k b x) := by
  unfold storK storT
  rw [h.any k]
  split
  · exact h.repl k q
  · exact h.append (.cons z q .nil)
theorem KVt.keys : ∀ {l : List (List Key × Val)} {m : List (List Key × Addr × V)}, KVt G Av s l m → ∀ p ∈ m, SqT G.K s.H p.2.1 (p.1.map kV)
  | _, _, .nil, p, hp => by cases hp
  | _, _, .cons z _ t, p, hp => by
    rcases List.mem_cons.mp hp with rfl | hp
    · exact z
    · exact KVt.keys t p hp
/-- a look at a dict -/
def DG (P : Program) (w : World) (K : PySem.W.Frag) (H : Hp) (a : Addr) (y : V) (o : Option V) : Prop := DGet H a y o ∨
  ∃ xs k b, H a = some (dtx P w a xs) ∧ (∀ p ∈ xs, SqT K H p.2.1 (p.1.map kV)) ∧ y = .ref b ∧ SqT K H b (k.map kV) ∧ o = lookT xs k
/-- a store into a dict -/
def DP (P : Program) (w : World) (K : PySem.W.Frag) (H : Hp) (a : Addr) (y x : V) (H' : Hp) : Prop := DPut H a y x H' ∨
  ∃ xs k b, H a = some (dtx P w a xs) ∧ (∀ p ∈ xs, SqT K H p.2.1 (p.1.map kV)) ∧ y = .ref b ∧ SqT K H b (k.map kV) ∧ xs.length < sizeLine ∧ H' = upd H a (dtx P w a (storT xs k b x))
/-- a look at a key -/
theorem dget_ok {c : Dc} {ob : HO} {a : Addr} {k : Val} {y : V} {o : Option Val} (h : s.H a = some ob) (cr : CR2 G Av s a c ob) (q : VR G Av s k y) (e : c.get k = some o) :
    ∃ ov, DG G.P G.w G.K s.H a y ov ∧ ((o = none ∧ ov = none) ∨ ∃ v x, o = some v ∧ ov = some x ∧ VR G Av s v x) := by
  cases cr with
  | k kv =>
    cases k with
    | ref _ => cases e
    | fn _ => cases e
    | d d =>
      have e : (keyK d).map (lookK _) = some o := e
      cases ek : keyK d with
      | none => rw [ek] at e; cases e
      | some kk =>
        rw [ek] at e
        cases e
        cases q with
        | d q =>
          rw [keyK_ok q ek]
          refine ⟨_, .inl (.k h), ?_⟩
          rcases kv.look kk with ⟨h1, h2⟩ | ⟨v, x, h1, h2, h3⟩
          · exact .inl ⟨h1, h2⟩
          · exact .inr ⟨v, x, h1, h2, h3⟩
  | t kv =>
    cases k with
    | ref _ => cases e
    | fn _ => cases e
    | d d =>
      have e : (keyT d).map (lookK _) = some o := e
      cases ek : keyT d with
      | none => rw [ek] at e; cases e
      | some kk =>
        rw [ek] at e
        cases e
        cases q with
        | d q =>
          obtain ⟨b, rfl, hb⟩ := keyT_ok q ek
          refine ⟨_, .inr ⟨_, kk, b, h, kv.keys, rfl, hb, rfl⟩, ?_⟩
          rcases kv.look kk with ⟨h1, h2⟩ | ⟨v, x, h1, h2, h3⟩
          · exact .inl ⟨h1, h2⟩
          · exact .inr ⟨v, x, h1, h2, h3⟩
/-- a look at a key of a dict, locked or not -/
theorem dgetR_ok {s : S3} (r : RepH G Av s) {v k : Val} {y u : V} {c : Dc} {o : Option Val} (q : VR G Av s v y) (e0 : dctR s.h v = some c) (q2 : VR G Av s k u) (e : c.get k = some o) :
    ∃ a ov, y = .ref a ∧ DG G.P G.w G.K s.H a u ov ∧ ((o = none ∧ ov = none) ∨ ∃ v x, o = some v ∧ ov = some x ∧ VR G Av s v x) := by
  cases q with
  | d q => cases e0
  | fn _ => cases e0
  | @ref n a hn =>
    unfold dctR at e0
    simp only at e0
    split at e0
    · rename_i c' hl
      cases e0
      obtain ⟨ob, h1, h2⟩ := r.obj n a _ hn hl
      obtain ⟨ov, g1, g2⟩ := dget_ok h1 h2 q2 e
      exact ⟨a, ov, rfl, g1, g2⟩
    · rename_i kvs hl
      cases e0
      obtain ⟨ob, es, h1, kv⟩ := r.obj n a _ hn hl
      cases k with
      | ref _ => cases e
      | fn _ => cases e
      | d d =>
        have e : (keyK d).map (lookK _) = some o := e
        cases ek : keyK d with
        | none => rw [ek] at e; cases e
        | some kk =>
          rw [ek] at e
          cases e
          cases q2 with
          | d q2 =>
            rw [keyK_ok q2 ek]
            refine ⟨a, _, rfl, .inl (.inl ⟨es, kk, .inr ⟨ob, h1⟩, rfl, rfl⟩), ?_⟩
            rcases kv.look kk with ⟨h1, h2⟩ | ⟨v, x, h1, h2, h3⟩
            · exact .inl ⟨h1, h2⟩
            · exact .inr ⟨v, x, h1, h2, h3⟩
    · cases e0
/-- the dict's object replaced -/
theorem RepH.writeD (rp : RepH G Av s) {n : Nat} {a : Addr} {c c' : Dc} {ob ob' : HO} (hn : s.r[n]? = some a) (hl : s.h[n]? = some (.dct c)) (hH : s.H a = some ob) (cr : CR2 G Av s a c ob) (cr' : CR2 G Av s a c' ob') :
    RepH G Av ⟨s.r, s.h.set n (.dct c'), upd s.H a ob'⟩ ∧ Stp s ⟨s.r, s.h.set n (.dct c'), upd s.H a ob'⟩ := by
  have hnl : n < s.h.length := lt_of_get hl
  have lv : ∀ m, live (s.h.set n (.dct c')) m → live s.h m := fun m ⟨us, e, ha⟩ => by
    by_cases hmn : n = m
    · subst hmn; exact ⟨_, hl, rfl⟩
    · rw [List.getElem?_set_ne hmn] at e; exact ⟨us, e, ha⟩
  have st : Stp s ⟨s.r, s.h.set n (.dct c'), upd s.H a ob'⟩ :=
    ⟨List.prefix_refl _, fun m _ h => lv m h, fr_upd_live hH cr.nt.2.1 cr.nt.2.2.2 ⟨n, hn, _, hl, rfl⟩, fun _ h => .inl h⟩
  refine ⟨⟨by rw [List.length_set]; exact rp.len, rp.nd, fun m b o e1 e2 => ?_, fun b z => st.fr.there b (rp.av b z), rp.dis, fun b z => st.fr.there b (rp.trk b z), tabs_upd rp.tabs (.inr ⟨_, hH, cr.nt.1, cr.nt.2.2.1⟩)⟩, st⟩
  by_cases hmn : n = m
  · subst hmn
    have e2 : (s.h.set n (.dct c'))[n]? = some o := e2
    rw [List.getElem?_set_self hnl] at e2
    cases e2
    have e1 : s.r[n]? = some b := e1
    rw [hn] at e1; cases e1
    exact ⟨ob', upd_same, cr'.map (st.vr rp.nd) st.fr.sqt⟩
  · have e2 : (s.h.set n (.dct c'))[m]? = some o := e2
    rw [List.getElem?_set_ne hmn] at e2
    have q2 := rp.obj m b o e1 e2
    have nb : b ≠ a := fun z => by subst z; exact hmn (nd_get rp.nd hn e1)
    cases o with
    | lst us =>
      obtain ⟨ys, h1, h2⟩ := q2
      exact ⟨ys, (upd_ne nb).trans h1, st.vrs rp.nd h2⟩
    | dead x => exact st.dr rp.nd q2
    | dct c2 =>
      obtain ⟨ob2, h1, h2⟩ := q2
      exact ⟨ob2, (upd_ne nb).trans h1, h2.map (st.vr rp.nd) st.fr.sqt⟩
    | tx ds => exact tx_step st rp.nd q2
    | dl kvs => exact dl_step st rp.nd q2
/-- a store at a key -/
theorem dput_ok (rp : RepH G Av s) {n : Nat} {a : Addr} {c c' : Dc} {ob : HO} {k v : Val} {y x : V} (hn : s.r[n]? = some a) (hl : s.h[n]? = some (.dct c)) (hH : s.H a = some ob) (cr : CR2 G Av s a c ob) (qk : VR G Av s k y) (qv : VR G Av s v x) (e : c.put k v = some c') :
    ∃ H', DP G.P G.w G.K s.H a y x H' ∧ RepH G Av ⟨s.r, s.h.set n (.dct c'), H'⟩ ∧ Stp s ⟨s.r, s.h.set n (.dct c'), H'⟩ := by
  cases cr with
  | @k kvs es kv =>
    cases k with
    | ref _ => cases e
    | fn _ => cases e
    | d d =>
      unfold Dc.put at e
      simp only at e
      split at e
      · rename_i kk ek
        split at e
        · rename_i hz
          cases e
          cases qk with
          | d q =>
            rw [keyK_ok q ek]
            exact ⟨_, .inl (.k hH (by rw [← kv.length, sizeLine_eq]; exact hz)), rp.writeD hn hl hH (.k kv) (.k (kv.stor kk qv))⟩
        · cases e
      · cases e
  | @t kvs es kv =>
    cases k with
    | ref _ => cases e
    | fn _ => cases e
    | d d =>
      unfold Dc.put at e
      simp only at e
      split at e
      · rename_i kk ek
        split at e
        · rename_i hz
          cases e
          cases qk with
          | d q =>
            obtain ⟨b, rfl, hb⟩ := keyT_ok q ek
            exact ⟨_, .inr ⟨_, kk, b, hH, kv.keys, rfl, hb, by rw [← kv.length, sizeLine_eq]; exact hz, rfl⟩, rp.writeD hn hl hH (.t kv) (.t (kv.stor kk hb qv))⟩
        · cases e
      · cases e
/-- a new object that stands alone -/
theorem RepH.newD (rp : RepH G Av s) {p : Addr} {c : Dc} {ob : HO} (hp : s.H p = none) (cr : CR2 G Av s p c ob) :
    RepH G Av ⟨s.r ++ [p], s.h ++ [.dct c], upd s.H p ob⟩ ∧ Stp s ⟨s.r ++ [p], s.h ++ [.dct c], upd s.H p ob⟩ ∧ VR G Av ⟨s.r ++ [p], s.h ++ [.dct c], upd s.H p ob⟩ (.ref s.h.length) (.ref p) := by
  obtain ⟨r1, t1⟩ := rp.upd_new (o := ob) hp
  have np : p ∉ s.r := fun z => rp.trk p z hp
  have nA : ¬ Av p := fun z => rp.av p z hp
  have st : Stp s ⟨s.r ++ [p], s.h ++ [.dct c], upd s.H p ob⟩ := by
    refine ⟨List.prefix_append _ _, fun n hn ⟨o, hl, ha⟩ => ?_, fr_upd_new hp, fun b hb => ?_⟩
    · rw [List.getElem?_append_left (by rw [← rp.len]; exact hn)] at hl
      exact ⟨o, hl, ha⟩
    · rcases List.mem_append.mp hb with w | w
      · exact .inl w
      · have : b = p := by simpa using w
        subst this; exact .inr hp
  have nd : (s.r ++ [p]).Nodup := by
    rw [List.nodup_append]
    exact ⟨rp.nd, by simp, fun x hx2 y hy => by
      have : y = p := by simpa using hy
      subst this; exact fun z => np (z ▸ hx2)⟩
  refine ⟨⟨by simp [rp.len], nd, fun n b o e1 e2 => ?_, fun b z => st.fr.there b (rp.av b z), fun b z w => ?_, fun b z => ?_, r1.tabs⟩, st, .ref ?_⟩
  · by_cases hn : n < s.r.length
    · have e1 : (s.r ++ [p])[n]? = some b := e1
      have e2 : (s.h ++ [.dct c])[n]? = some o := e2
      rw [List.getElem?_append_left hn] at e1
      rw [List.getElem?_append_left (by rw [← rp.len]; exact hn)] at e2
      have q := rp.obj n b o e1 e2
      have nb : b ≠ p := fun z => np (z ▸ List.mem_of_getElem? e1)
      cases o with
      | lst ws => obtain ⟨zs, h1, h2⟩ := q; exact ⟨zs, (upd_ne nb).trans h1, st.vrs nd h2⟩
      | dead x => exact st.dr nd q
      | dct c2 => obtain ⟨ob2, h1, h2⟩ := q; exact ⟨ob2, (upd_ne nb).trans h1, h2.map (st.vr nd) st.fr.sqt⟩
      | tx ds => exact tx_step st nd q
      | dl kvs => exact dl_step st nd q
    · have e1 : (s.r ++ [p])[n]? = some b := e1
      have e2 : (s.h ++ [.dct c])[n]? = some o := e2
      rw [List.getElem?_append_right (Nat.not_lt.mp hn)] at e1
      rw [List.getElem?_append_right (by rw [← rp.len]; exact Nat.not_lt.mp hn), ← rp.len] at e2
      cases hk : n - s.r.length with
      | zero =>
        rw [hk] at e1 e2
        have e1 : some p = some b := e1
        have e2 : some (IO.dct c) = some o := e2
        cases e1; cases e2
        exact ⟨ob, upd_same, cr.map (st.vr nd) st.fr.sqt⟩
      | succ k => rw [hk] at e1; cases e1
  · rcases List.mem_append.mp w with w | w
    · exact rp.dis b z w
    · have : b = p := by simpa using w
      subst this; exact nA z
  · rcases List.mem_append.mp z with w | w
    · exact st.fr.there b (rp.trk b w)
    · have : b = p := by simpa using w
      subst this
      show upd s.H b ob b ≠ none
      rw [upd_same]; exact fun z => by cases z
  · show (s.r ++ [p])[s.h.length]? = some p
    rw [← rp.len, List.getElem?_append_right (Nat.le_refl _), Nat.sub_self]; rfl
end
/-! ### the layer's rules -/
section
variable {X : Cx} {pins : List (Addr × Obj)} {σ : L2.St} {H : Hp} {s : Shared} {a b : Addr} {k : List Key} {xs : List (List Key × Addr × V)}
theorem key_is (I : Inv X pins σ H s) (h : SqT X.K H b (k.map kV)) : (tupleKind (mixKind X.prog X.w)).is s.heap k b := by
  obtain ⟨its, r, ⟨o, ho, hc, n, hd⟩, _⟩ := I.tuple h
  exact ⟨o, its.toArray, n, ho, hc, hd, items_are r⟩
theorem VT.look {ys : List (List Key × Addr × Value)} (k : List Key) (h : VT xs ys) : RelO (lookT xs k) ((atKey ys k).map (·.2)) := by
  unfold VT at h
  induction h with
  | nil => exact trivial
  | @cons p q ps qs r t ih =>
    unfold lookT atKey
    rw [List.find?_cons, List.find?_cons, ← r.1]
    by_cases e : p.1 = k
    · simp only [e, decide_true, Option.map_some]; exact r.2.2
    · simp only [e, decide_false]; exact ih
theorem VT.any {ys : List (List Key × Addr × Value)} (k : List Key) (h : VT xs ys) : (xs.any fun p => decide (p.1 = k)) = (atKey ys k).isSome := by
  unfold VT at h
  induction h with
  | nil => rfl
  | @cons p q ps qs r t ih =>
    unfold atKey
    rw [List.any_cons, List.find?_cons, ← r.1]
    by_cases e : p.1 = k
    · simp [e]
    · simp only [e, decide_false, Bool.false_or]; exact ih
theorem VT.stor {ys : List (List Key × Addr × Value)} (k : List Key) {b : Addr} {x : V} {u : Value} (rx : RelV x u) (h : VT xs ys) : VT (storT xs k b x) (storedH ys k b u) := by
  unfold storT storedH
  rw [h.any k]
  split
  · rename_i hh
    clear hh
    unfold VT at h ⊢
    induction h with
    | nil => exact .nil
    | @cons p q ps qs r t ih =>
      rw [List.map_cons, List.map_cons]
      refine .cons ?_ ih
      unfold putAt
      rw [← r.1]
      by_cases e : p.1 = k
      · rw [if_pos e, if_pos e]; exact ⟨rfl, r.2.1, rx⟩
      · rw [if_neg e, if_neg e]; exact r
  · rename_i hh
    clear hh
    unfold VT at h ⊢
    induction h with
    | nil => exact .cons ⟨rfl, rfl, rx⟩ .nil
    | cons r t ih => exact .cons r ih
theorem VT.length {ys : List (List Key × Addr × Value)} (h : VT xs ys) : xs.length = ys.length := Paired.length h
theorem storT_le (k : List Key) (b : Addr) (x : V) : (storT xs k b x).length ≤ xs.length + 1 := by
  unfold storT
  split
  · rw [List.length_map]; omega
  · rw [List.length_append]; simp
theorem VT.is (I : Inv X pins σ H s) : ∀ {xs : List (List Key × Addr × V)} {ys : List (List Key × Addr × Value)}, VT xs ys → (∀ p ∈ xs, SqT X.K H p.2.1 (p.1.map kV)) → ∀ q ∈ ys, (tupleKind (mixKind X.prog X.w)).is s.heap q.1 q.2.1
  | _, _, .nil, _, q, hq => by cases hq
  | _, _, .cons r t, h, q, hq => by
    rcases List.mem_cons.mp hq with rfl | hq
    · rw [← r.1, ← r.2.1]; exact key_is I (h _ List.mem_cons_self)
    · exact VT.is I t (fun p hp => h p (List.mem_cons_of_mem _ hp)) q hq
theorem dtx_at (I : Inv X pins σ H s) (h : H a = some (dtx X.prog X.w a xs)) (hk : ∀ p ∈ xs, SqT X.K H p.2.1 (p.1.map kV)) : xs.length ≤ sizeLine ∧ (a == sysModules) = false ∧ ∃ ys, VT xs ys ∧ s.heap.DictOfH (tupleKind (mixKind X.prog X.w)) a ys := by
  obtain ⟨⟨z, hd, ys, r, o, es, ep, h1, h2, h3, h4, h5⟩, _⟩ := I.hok a _ h
  exact ⟨z, hd, ys, r, o, es, ep, h1, h2, h3, h4, VT.is I r hk, h5⟩
theorem dtx_new {P : Program} {w : World} {H : Hp} {h : Heap} {ys : List (List Key × Addr × Value)} (z : xs.length ≤ sizeLine) (hd : (a == sysModules) = false) (r : VT xs ys) (d : h.DictOfH (tupleKind (mixKind P w)) a ys) : ObjOk P w H h a (dtx P w a xs) := by
  obtain ⟨o, es, ep, h1, h2, h3, h4, _, h5⟩ := d
  refine ⟨⟨z, hd, ys, r, o, es, ep, h1, h2, h3, h4, h5⟩, ⟨o, h1⟩, fun g1 g2 ⟨z, hd, ys, r, o, es, ep, q1, q2⟩ st => ⟨z, hd, ys, r, o, es, ep, st _ q1, q2⟩⟩
/-- d[y], there -/
theorem dg_getItem {A : Around} {E : Value → Shared → Prop} {y v : V} {u : Value} {Q : Value → Shared → Prop} (hu : A.units + 1 < cLine) (I : Inv X pins σ H s) (g : DG X.prog X.w X.K H a y (some v)) (ry : RelV y u) (h : ∀ w' s', Inv X pins σ H s' → RelV v w' → Q w' s') :
    wpAny (model X.prog X.w) A (getItem (.ref a) u) Q E s := by
  rcases g with g | ⟨xs, k, b, e, hk, rfl, eb, l⟩
  · exact d_getItem hu I g ry h
  · cases (show u = Value.ref b from ry)
    obtain ⟨z, hd, ys, rel, dd⟩ := dtx_at I e hk
    obtain ⟨w', hw, rw'⟩ := RelO.some_of (v := v) (o := (atKey ys k).map (·.2)) (by rw [l]; exact rel.look k)
    obtain ⟨p, hp, hp2⟩ := Option.map_eq_some_iff.mp hw
    refine wpAny_getItem_heap (tupleKind_room_in1 hu) (key_is I eb) dd hp ?_
    rw [hp2]
    exact h w' _ (I.tok _) rw'
theorem dg_type {y : V} {o : Option V} (I : Inv X pins σ H s) (g : DG X.prog X.w X.K H a y o) : s.TypeIs (.ref a) "dict" := by
  rcases g with g | ⟨xs, k, b, e, hk, rfl, eb, l⟩
  · exact dict_typeIs I g
  · obtain ⟨_, _, ys, _, dd⟩ := dtx_at I e hk
    exact dd.typeIs
def rDGetV (P : Program) (w : World) (K : PySem.W.Frag) : R2 := fun x y H Q => ∃ a v, x = .ref a ∧ DG P w K H a y (some v) ∧ Q v H
theorem ix_dct (hu : X.A.units + 1 < cLine) : IxR X (rDGetV X.prog X.w X.K) := by
  rintro value slice pins s σ H x y v u Q I rx ry ⟨a, w, rfl, g, q⟩ hs
  obtain rfl : v = Value.ref a := rx
  have hT := dg_type I g
  unfold subscriptTail
  refine wpAny_bind ?_
  rw [getitemInPython_of_ne hT.not_modules]
  refine wpAny_bind (wpAny_specialOf hT PySem.F.slot_dict_getitem.lookup ?_)
  have fin : wpAny (model X.prog X.w) X.A (subscripted slice false (.ref a) u) (fun r s₃ => wpAny (model X.prog X.w) X.A (letTemporaryGo value (.ref a) r >>= fun _ => pure r) (EP X pins σ Q) X.xe s₃) X.xe s := by
    rw [hs]
    exact wpAny_operating (dg_getItem hu I g ry fun w' s3 I3 rw' => wpAny_bind (wpAny_letTemporaryGo (wpAny_pure ⟨w, H, I3, rw', q⟩)))
  first
    | exact wpAny_pure (wpAny_bind fin)
    | exact wpAny_bind (wpAny_pure (wpAny_bind fin))
    | exact wpAny_bind fin
def rDIn (P : Program) (w : World) (K : PySem.W.Frag) (neg : Bool) : R2 := fun x y H Q => ∃ a o, y = .ref a ∧ DG P w K H a x o ∧ Q (.bl (if neg then !o.isSome else o.isSome)) H
theorem op_dIn (hu : X.A.units + 1 < cLine) : OpR X (compareOp .In) (rDIn X.prog X.w X.K false) := by
  rintro pins s σ H x y v u Q I rx ry ⟨a, o, rfl, g, q⟩
  obtain rfl : u = Value.ref a := ry
  rcases g with g | ⟨xs, k, b, e, hk, rfl, eb, l⟩
  · exact d_in hu I g rx fun s' I' => ⟨.bl o.isSome, H, I', rfl, q⟩
  · cases (show v = Value.ref b from rx)
    obtain ⟨z, hd, ys, rel, dd⟩ := dtx_at I e hk
    refine wpAny_in_heap (tupleKind_room_in1 hu) (key_is I eb) hd dd ?_
    have q2 := (rel.look k).isSome_eq
    rw [Option.isSome_map] at q2
    rw [← q2, ← l]
    exact ⟨.bl o.isSome, H, I.tok _, rfl, q⟩
theorem op_dNotIn (hu : X.A.units + 1 < cLine) : OpR X (compareOp .NotIn) (rDIn X.prog X.w X.K true) := by
  rintro pins s σ H x y v u Q I rx ry ⟨a, o, rfl, g, q⟩
  obtain rfl : u = Value.ref a := ry
  rcases g with g | ⟨xs, k, b, e, hk, rfl, eb, l⟩
  · exact d_notIn hu I g rx fun s' I' => ⟨.bl (!o.isSome), H, I', rfl, q⟩
  · cases (show v = Value.ref b from rx)
    obtain ⟨z, hd, ys, rel, dd⟩ := dtx_at I e hk
    refine wpAny_notIn_heap (tupleKind_room_in1 hu) (key_is I eb) hd dd ?_
    have q2 := (rel.look k).isSome_eq
    rw [Option.isSome_map] at q2
    rw [← q2, ← l]
    exact ⟨.bl (!o.isSome), H, I.tok _, rfl, q⟩
/-- d[y] = v -/
theorem dp_setItem {A : Around} {E : Value → Shared → Prop} {y v : V} {u r : Value} {H' : Hp} {Q : Unit → Shared → Prop} (hu : A.units + 1 < cLine) (I : Inv X pins σ H s) (g : DP X.prog X.w X.K H a y v H') (ry : RelV y u) (rv : RelV v r) (h : ∀ s', Inv X pins σ H' s' → Q () s') :
    wpAny (model X.prog X.w) A (setItem (.ref a) u r) Q E s := by
  rcases g with g | ⟨xs, k, b, e, hk, rfl, eb, l, rfl⟩
  · exact d_setItem hu I g ry rv h
  · cases (show u = Value.ref b from ry)
    obtain ⟨z, hd, ys, rel, dd⟩ := dtx_at I e hk
    have hz : ys.length ≤ sizeLine := by rw [← rel.length]; exact z
    have hl : (storT xs k b v).length ≤ sizeLine := by have := storT_le (xs := xs) k b v; omega
    refine wpAny_setItem_heap (hsz := hz) (tupleKind_room_in1 hu) (key_is I eb) dd fun h' dd' hs => h _ ?_
    have he : ∃ q, h'.get? a = some q := let ⟨q, _, _, hq, _⟩ := dd'; ⟨q, hq⟩
    exact d_write I (by rw [e]; exact True.intro) hs he (dtx_new hl hd (rel.stor k rv) dd')
end
end Ip

set_option linter.all false
set_option Elab.async false
set_option autoImplicit false
/-! The rules of the layer, as the evaluator has them: expressions. -/
namespace Ip
open PySem L2

section
variable {X : Cx} {G : Gb} {E : XK} {W : WX} {pos : Pos}

theorem ip_lit {x : D} {v : V} {e : Expr} (h : PE X e (tC v)) (sc : scalV x = some v) : PE X e (tE G W fun _ h => .ok (.d x) h) := by
  refine h.imp fun τ H Q ⟨Av, s, σ, hH, rp, sr, p⟩ => ?_
  subst hH
  exact p.fin rp (.d (scal_dr sc))
theorem ip_var {i : Nat} {e : Expr} (h : PE X e (tVar i)) : PE X e (tE G W fun σ h => match σ[i]? with | some (some v) => .ok v h | _ => .no) := by
  refine h.imp fun τ H Q ⟨Av, s, σ, hH, rp, sr, p⟩ => ?_
  subst hH
  revert p
  show Post G _ Av s _ (match σ[i]? with | some (some v) => R.ok v s.h | _ => .no) Q → _
  cases e1 : σ[i]? with
  | none => exact fun p => p.elim
  | some o =>
    cases o with
    | none => exact fun p => p.elim
    | some v =>
      intro p
      obtain ⟨x, e2, q⟩ := sr.at_ i v e1
      exact ⟨x, e2, p.fin rp q⟩
/-- a name of the text that holds a def -/
theorem ip_fnv {f : Nat} {a : Addr} {e : Expr} (h : PE X e (tC (.ref a))) (ha : G.fa[f]? = some a) : PE X e (tE G W fun _ h => .ok (.fn f) h) := by
  refine h.imp fun τ H Q ⟨Av, s, σ, hH, rp, sr, p⟩ => ?_
  subst hH
  exact p.fin rp (.fn ha)

/-- two parts, then an operation on their values -/
theorem post2 {Av : Addr → Prop} {s : S3} {o : Bop} {x y : Val} {v u : V} {Q : VK} (rp : RepH G Av s) (qx : VR G Av s x v) (qy : VR G Av s y u) (p : Post G E Av s (fun v y s' => VR G Av s' v y) (binV o x y s.h) Q) : rBin G o v u s.H Q := by
  unfold binV at p
  split at p
  · rename_i a b e1 e2
    split at p
    · rename_i c e3
      obtain ⟨w, sc⟩ := binD_scal e3
      exact ⟨a, b, c, w, (pk_dr rp qx e1).dp, (pk_dr rp qy e2).dp, e3, sc, p.fin rp (.d (scal_dr sc))⟩
    · exact p.elim
  · exact p.elim
theorem ip_bin {a b : Expr} {ma mb : Sg → Hq → R Val} (o : Bop) (ha : PE X a (tE G W ma)) (hb : PE X b (tE G W mb)) :
    PE X (.BinOp a (opOf o) b pos) (tE G W fun σ h => (ma σ h).bind fun x h1 => (mb σ h1).bind fun y h2 => binV o x y h2) := by
  refine (pe_op (op_bin (G := G) o) ha hb).imp fun τ H Q ⟨Av, s, σ, hH, rp, sr, p⟩ => ?_
  subst hH
  refine tE_bind rp sr p fun v y s1 rp1 st1 sr1 q1 p1 => ?_
  refine tE_bind rp1 sr1 p1 fun w z s2 rp2 st2 sr2 q2 p2 => ?_
  exact post2 rp2 (st2.vr rp2.nd q1) q2 p2
theorem ip_neg {a : Expr} {ma : Sg → Hq → R Val} (ha : PE X a (tE G W ma)) :
    PE X (.UnaryOp .USub a pos) (tE G W fun σ h => (ma σ h).bind fun x h1 => match intV x with | some i => .ok (.d (.int (-i))) h1 | none => .no) := by
  refine (pe_un un_neg ha).imp fun τ H Q ⟨Av, s, σ, hH, rp, sr, p⟩ => ?_
  subst hH
  refine tE_bind rp sr p fun v y s1 rp1 st1 sr1 q1 p1 => ?_
  cases v with
  | ref n => exact p1.elim
  | fn f => exact p1.elim
  | d x =>
    cases x with
    | int i =>
      cases q1 with
      | d q =>
        cases q
        exact ⟨i, rfl, p1.fin rp1 (.d (.int _))⟩
    | none => exact p1.elim
    | bool b => exact p1.elim
    | str b => exact p1.elim
    | list b => exact p1.elim
    | tuple b => exact p1.elim
    | dict b => exact p1.elim

/-! ### comparisons -/
def copOf : Cop → CmpOp
  | .eq => .Eq
  | .ne => .NotEq
  | .lt => .Lt
  | .le => .LtE
  | .gt => .Gt
  | .ge => .GtE
  | .isN => .Is
  | .notN => .IsNot
  | .inn => .In
  | .nin => .NotIn
/-- what is fixed is this def's -/
def GX (G : Gb) (X : Cx) : Prop := G.K = X.K ∧ G.P = X.prog ∧ G.w = X.w
def rCmp (G : Gb) (o : Cop) : R2 := fun x y H Q => (∃ a b c, Dp G.K H x a ∧ Dp G.K H y b ∧ cmpD o a b = some c ∧ Q (.bl c) H) ∨ (o = .inn ∧ rDIn G.P G.w G.K false x y H Q) ∨ (o = .nin ∧ rDIn G.P G.w G.K true x y H Q)
theorem op_inT (hu : X.A.units + 65 < cLine) : OpR X (compareOp .In) (fun x y H Q => ∃ d ds, Dp X.K H x d ∧ Dp X.K H y (.tuple ds) ∧ SeqAt.shaped d = true ∧ SeqAt.shaped (.tuple ds) = true ∧ Q (.bl (ds.any fun z => PyData.eqv z d)) H) := by
  rintro pins s σ H x y v u Q I rx ry ⟨d, ds, hd, he, sd, se, q⟩
  obtain ⟨as, r1⟩ := Dp.reads I d x v hd rx
  obtain ⟨bs, r2⟩ := Dp.reads I (.tuple ds) y u he ry
  exact SeqAt.in_tuple_reads r2 r1 (SeqAt.canLay_of_shaped se) (SeqAt.canLay_of_shaped sd) (PyProof.Rows.room_in_shaped sd hu) ⟨.bl _, H, I, rfl, q⟩
theorem op_notInT (hu : X.A.units + 65 < cLine) : OpR X (compareOp .NotIn) (fun x y H Q => ∃ d ds, Dp X.K H x d ∧ Dp X.K H y (.tuple ds) ∧ SeqAt.shaped d = true ∧ SeqAt.shaped (.tuple ds) = true ∧ Q (.bl (!ds.any fun z => PyData.eqv z d)) H) := by
  rintro pins s σ H x y v u Q I rx ry ⟨d, ds, hd, he, sd, se, q⟩
  obtain ⟨as, r1⟩ := Dp.reads I d x v hd rx
  obtain ⟨bs, r2⟩ := Dp.reads I (.tuple ds) y u he ry
  exact SeqAt.notIn_tuple_reads r2 r1 (SeqAt.canLay_of_shaped se) (SeqAt.canLay_of_shaped sd) (PyProof.Rows.room_in_shaped sd hu) ⟨.bl _, H, I, rfl, q⟩
theorem op_cmp (o : Cop) (hK : GX G X) (hu : X.A.units + 100 < cLine) : OpR X (compareOp (copOf o)) (rCmp G o) := by
  rintro pins s σ H x y v u Q I rx ry (⟨a, b, c, da, db, e, q⟩ | ⟨rfl, h⟩ | ⟨rfl, h⟩)
  case inr.inl => rw [hK.1, hK.2.1, hK.2.2] at h; exact op_dIn (by omega) pins s σ H x y v u Q I rx ry h
  case inr.inr => rw [hK.1, hK.2.1, hK.2.2] at h; exact op_dNotIn (by omega) pins s σ H x y v u Q I rx ry h
  rw [hK.1] at da db
  unfold cmpD at e
  split at e
  · cases e; cases dp_int da; cases dp_int db
    exact op_eq pins s σ H _ _ v u Q I rx ry ⟨rfl, by simpa using q⟩
  · cases e; cases dp_int da; cases dp_int db
    exact op_ne pins s σ H _ _ v u Q I rx ry ⟨rfl, by simpa using q⟩
  · cases e; cases dp_str da; cases dp_str db
    exact op_eq pins s σ H _ _ v u Q I rx ry ⟨rfl, by simpa using q⟩
  · cases e; cases dp_str da; cases dp_str db
    exact op_ne pins s σ H _ _ v u Q I rx ry ⟨rfl, by simpa using q⟩
  · split at e
    · rename_i hs
      rw [Bool.and_eq_true] at hs
      cases e
      exact op_eqD (by omega) pins s σ H _ _ v u Q I rx ry ⟨_, _, da, db, hs.1, hs.2, q⟩
    · cases e
  · split at e
    · rename_i hs
      rw [Bool.and_eq_true] at hs
      cases e
      exact op_neD (by omega) pins s σ H _ _ v u Q I rx ry ⟨_, _, da, db, hs.1, hs.2, q⟩
    · cases e
  · cases e; cases dp_int da; cases dp_int db
    exact op_lt pins s σ H _ _ v u Q I rx ry ⟨_, _, rfl, rfl, q⟩
  · cases e; cases dp_int da; cases dp_int db
    exact op_le pins s σ H _ _ v u Q I rx ry ⟨_, _, rfl, rfl, q⟩
  · cases e; cases dp_int da; cases dp_int db
    exact op_gt pins s σ H _ _ v u Q I rx ry ⟨_, _, rfl, rfl, q⟩
  · cases e; cases dp_int da; cases dp_int db
    exact op_ge pins s σ H _ _ v u Q I rx ry ⟨_, _, rfl, rfl, q⟩
  · cases e; cases dp_non db
    refine op_isN pins s σ H _ _ v u Q I rx ry ⟨rfl, ?_⟩
    cases da <;> exact q
  · cases e; cases dp_non db
    refine op_notN pins s σ H _ _ v u Q I rx ry ⟨rfl, ?_⟩
    cases da <;> exact q
  · split at e
    · rename_i hs
      rw [Bool.and_eq_true] at hs
      cases e
      exact op_inD (by omega) pins s σ H _ _ v u Q I rx ry ⟨_, _, da, db, hs.1, hs.2, q⟩
    · cases e
  · split at e
    · rename_i hs
      rw [Bool.and_eq_true] at hs
      cases e
      exact op_notInD (by omega) pins s σ H _ _ v u Q I rx ry ⟨_, _, da, db, hs.1, hs.2, q⟩
    · cases e
  · split at e
    · rename_i hs
      rw [Bool.and_eq_true] at hs
      cases e
      exact op_inT (by omega) pins s σ H _ _ v u Q I rx ry ⟨_, _, da, db, hs.1, hs.2, q⟩
    · cases e
  · split at e
    · rename_i hs
      rw [Bool.and_eq_true] at hs
      cases e
      exact op_notInT (by omega) pins s σ H _ _ v u Q I rx ry ⟨_, _, da, db, hs.1, hs.2, q⟩
    · cases e
  · cases e
theorem postC {Av : Addr → Prop} {s : S3} {o : Cop} {x y : Val} {v u : V} {γ δ : Type} {Rm : γ → δ → S3 → Prop} {f : Bool → Hq → R γ} {Q : δ → Hp → Prop} {Q' : VK} (rp : RepH G Av s) (qx : VR G Av s x v) (qy : VR G Av s y u) (p : Post G E Av s Rm ((cmpV o x y s.h).bind f) Q)
    (h : ∀ c, Post G E Av s Rm (f c s.h) Q → Q' (.bl c) s.H) : rCmp G o v u s.H Q' := by
  unfold cmpV at p
  split at p
  · rename_i c e0
    obtain ⟨n, a, ob, rfl, rfl, hn, hl, hH, cr⟩ := dct_ok rp qy e0
    split at p
    · unfold dinV at p
      cases eg : c.get x with
      | none => rw [eg] at p; exact p.elim
      | some ov =>
        rw [eg] at p
        obtain ⟨oz, g, rel⟩ := dget_ok hH cr qx eg
        refine .inr (.inl ⟨rfl, a, oz, rfl, g, ?_⟩)
        have e : oz.isSome = ov.isSome := by rcases rel with ⟨rfl, rfl⟩ | ⟨_, _, rfl, rfl, _⟩ <;> rfl
        show Q' (.bl oz.isSome) s.H
        rw [e]; exact h _ p
    · unfold dinV at p
      cases eg : c.get x with
      | none => rw [eg] at p; exact p.elim
      | some ov =>
        rw [eg] at p
        obtain ⟨oz, g, rel⟩ := dget_ok hH cr qx eg
        refine .inr (.inr ⟨rfl, a, oz, rfl, g, ?_⟩)
        have e : oz.isSome = ov.isSome := by rcases rel with ⟨rfl, rfl⟩ | ⟨_, _, rfl, rfl, _⟩ <;> rfl
        show Q' (.bl (!oz.isSome)) s.H
        rw [e]; exact h _ p
    · exact p.elim
  unfold cmpW at p
  split at p
  · rename_i a b e1 e2
    split at p
    · rename_i c e3
      exact .inl ⟨a, b, c, (pk_dr rp qx e1).dp, (pk_dr rp qy e2).dp, e3, h c p⟩
    · exact p.elim
  · exact p.elim
theorem ip_cmp {a b : Expr} {ma mb : Sg → Hq → R Val} (o : Cop) (hK : GX G X) (hu : X.A.units + 100 < cLine) (ha : PE X a (tE G W ma)) (hb : PE X b (tE G W mb)) (hm : behindInMarks (copOf o) b = false) :
    PE X (.Compare a [copOf o] [b] pos) (tE G W fun σ h => (ma σ h).bind fun x h1 => (mb σ h1).bind fun y h2 => (cmpV o x y h2).bind fun c h3 => .ok (.d (.bool c)) h3) := by
  refine (pe_cmpR (op_cmp (G := G) o hK hu) ha hb hm).imp fun τ H Q ⟨Av, s, σ, hH, rp, sr, p⟩ => ?_
  subst hH
  refine tE_bind rp sr p fun v y s1 rp1 st1 sr1 q1 p1 => ?_
  refine tE_bind rp1 sr1 p1 fun w z s2 rp2 st2 sr2 q2 p2 => ?_
  exact postC rp2 (st2.vr rp2.nd q1) q2 p2 fun c p3 => p3.fin rp2 (.d (.bl c))
theorem ip_cmpT {a b : Expr} {ma mb : Sg → Hq → R Val} (o : Cop) (hK : GX G X) (hu : X.A.units + 100 < cLine) (ha : PE X a (tE G W ma)) (hb : PE X b (tE G W mb)) (hm : behindInMarks (copOf o) b = false) :
    PT X (.Compare a [copOf o] [b] pos) (tT G W fun σ h => (ma σ h).bind fun x h1 => (mb σ h1).bind fun y h2 => cmpV o x y h2) := by
  refine (pt_cmpR (op_cmp (G := G) o hK hu) ha hb hm).imp fun τ H Q ⟨Av, s, σ, hH, rp, sr, p⟩ => ?_
  subst hH
  refine tE_bind rp sr p fun v y s1 rp1 st1 sr1 q1 p1 => ?_
  refine tE_bind rp1 sr1 p1 fun w z s2 rp2 st2 sr2 q2 p2 => ?_
  have p3 : Post G (We W τ) Av s2 (fun v y _ => v = y) ((cmpV o v w s2.h).bind fun c h => R.ok c h) Q := by
    revert p2
    cases cmpV o v w s2.h <;> exact fun p => p
  exact postC rp2 (st2.vr rp2.nd q1) q2 p3 fun c p4 => ⟨c, rfl, p4.fin rp2 rfl⟩
theorem ip_chn {a b c : Expr} {ma mb mc : Sg → Hq → R Val} (o o' : Cop) (hK : GX G X) (hu : X.A.units + 100 < cLine) (ha : PE X a (tE G W ma)) (hb : PE X b (tE G W mb)) (hc : PE X c (tE G W mc)) (hm : behindInMarks (copOf o') c = false) :
    PE X (.Compare a [copOf o, copOf o'] [b, c] pos) (tE G W fun σ h => (ma σ h).bind fun x h1 => (mb σ h1).bind fun y h2 => (cmpV o x y h2).bind fun k h3 =>
      if k then (mc σ h3).bind fun z h4 => (cmpV o' y z h4).bind fun k' h5 => .ok (.d (.bool k')) h5 else .ok (.d (.bool false)) h3) := by
  refine (pe_chain (op_cmp (G := G) o hK hu) (op_cmp (G := G) o' hK hu) ha hb hc hm).imp fun τ H Q ⟨Av, s, σ, hH, rp, sr, p⟩ => ?_
  subst hH
  refine tE_bind rp sr p fun v y s1 rp1 st1 sr1 q1 p1 => ?_
  refine tE_bind rp1 sr1 p1 fun w z s2 rp2 st2 sr2 q2 p2 => ?_
  refine postC rp2 (st2.vr rp2.nd q1) q2 p2 fun k p3 => ⟨k, rfl, ?_⟩
  cases k with
  | false => exact p3.fin rp2 (.d (.bl false))
  | true =>
    refine tE_bind rp2 sr2 p3 fun x3 y3 s3 rp3 st3 sr3 q3 p4 => ?_
    exact postC rp3 (st3.vr rp3.nd q2) q3 p4 fun c p5 => p5.fin rp3 (.d (.bl c))
end
end Ip

set_option linter.all false
set_option Elab.async false
set_option autoImplicit false
/-! The rules of the layer, as the evaluator has them: tests, displays, subscripts, built-ins. -/
namespace Ip
open PySem L2

section
variable {X : Cx} {G : Gb} {E : XK} {W : WX} {pos : Pos}

/-! ### truth -/
theorem truV_of {H : Hp} {B : Addr → Prop} {x : D} {v : V} {k : Bool} (hK : G.K = X.K) (d : DR G.K H B v x) (e : truthD x = some k) : TruV X.K v H k := by
  cases d with
  | non => cases e; rfl
  | bl b => cases e; rfl
  | int i => cases e; rfl
  | str y =>
    unfold truthD at e
    simp only at e
    split at e
    · rename_i hf
      cases e
      refine ⟨fits_line hf, ?_⟩
      cases hy : y.length with
      | zero => rfl
      | succ n =>
        show (Nat.succ n != 0) = ((((n + 1 : Nat) : Int)) != 0)
        have h1 : (Nat.succ n != 0) = true := by simp
        have h2 : ((((n + 1 : Nat) : Int)) != 0) = true := by simp; omega
        rw [h1, h2]
    · cases e
  | lst h t =>
    cases e
    refine .inl ⟨_, hK ▸ sql_of h, ?_⟩
    cases t <;> rfl
  | tup h t =>
    cases e
    refine .inr (.inl ⟨_, hK ▸ h, ?_⟩)
    cases t <;> rfl
/-- behind a look at a value's truth -/
theorem postT {Av : Addr → Prop} {s : S3} {x : Val} {v : V} {γ δ : Type} {Rm : γ → δ → S3 → Prop} {f : Bool → Hq → R γ} {Q : δ → Hp → Prop} (hK : G.K = X.K) (rp : RepH G Av s) (qx : VR G Av s x v) (p : Post G E Av s Rm ((tru x s.h).bind f) Q) :
    ∃ k, TruV X.K v s.H k ∧ Post G E Av s Rm (f k s.h) Q := by
  unfold tru at p
  split at p
  · rename_i a e1
    cases e2 : truthD a with
    | none => rw [e2] at p; exact p.elim
    | some k =>
      rw [e2] at p
      exact ⟨k, truV_of hK (pk_dr rp qx e1) e2, p⟩
  · exact p.elim
/-- a test by its value -/
theorem R.bind_id {α : Type} (r : R α) : (r.bind fun a h => R.ok a h) = r := by cases r <;> rfl
theorem ip_tst {a : Expr} {ma : Sg → Hq → R Val} (hK : G.K = X.K) (ha : PE X a (tE G W ma)) (he : ∀ whole, isTrue a X.env whole = (do let v ← whole; standAt a.pos; holding [v] (truthy v))) : PT X a (tT G W (tst ma)) := by
  refine (pt_truth ha he).imp fun τ H Q ⟨Av, s, σ, hH, rp, sr, p⟩ => ?_
  subst hH
  refine tE_bind rp sr p fun v y s1 rp1 st1 sr1 q1 p1 => ?_
  have p2 : Post G (We W τ) Av s1 (fun v y _ => v = y) ((tru v s1.h).bind fun k h => R.ok k h) Q := by rw [R.bind_id]; exact p1
  obtain ⟨k, t, p3⟩ := postT hK rp1 q1 p2
  exact ⟨k, t, p3.fin rp1 rfl⟩
/-- a test's word for another one -/
theorem _root_.L2.PT.cong {a : Expr} {m m' : Sg → Hq → R Bool} (h : PT X a (tT G W m)) (e : ∀ σ h, m σ h = m' σ h) : PT X a (tT G W m') := by
  have : m = m' := by funext σ h; exact e σ h
  rw [← this]; exact h
theorem _root_.L2.PW.cong {a : Expr} {m m' : Sg → Hq → R Bool} (h : PW X a (tT G W m)) (e : ∀ σ h, m σ h = m' σ h) : PW X a (tT G W m') := by
  have : m = m' := by funext σ h; exact e σ h
  rw [← this]; exact h
theorem _root_.L2.PE.cong {a : Expr} {m m' : Sg → Hq → R Val} (h : PE X a (tE G W m)) (e : ∀ σ h, m σ h = m' σ h) : PE X a (tE G W m') := by
  have : m = m' := by funext σ h; exact e σ h
  rw [← this]; exact h
theorem tru_bl (c : Bool) (h : Hq) : tru (.d (.bool c)) h = .ok c h := rfl
theorem ip_cmpT' {a b : Expr} {ma mb : Sg → Hq → R Val} (o : Cop) (hK : GX G X) (hu : X.A.units + 100 < cLine) (ha : PE X a (tE G W ma)) (hb : PE X b (tE G W mb)) (hm : behindInMarks (copOf o) b = false) :
    PT X (.Compare a [copOf o] [b] pos) (tT G W (tst fun σ h => (ma σ h).bind fun x h1 => (mb σ h1).bind fun y h2 => (cmpV o x y h2).bind fun c h3 => .ok (.d (.bool c)) h3)) := by
  refine (ip_cmpT (pos := pos) o hK hu ha hb hm).cong fun σ h => ?_
  simp only [tst, R.bind_assoc, R.bind_ok, tru_bl, R.bind_id]
theorem ip_chnT {a b c : Expr} {ma mb mc : Sg → Hq → R Val} (o o' : Cop) (hK : GX G X) (hu : X.A.units + 100 < cLine) (ha : PE X a (tE G W ma)) (hb : PE X b (tE G W mb)) (hc : PE X c (tE G W mc)) (hm : behindInMarks (copOf o') c = false) :
    PT X (.Compare a [copOf o, copOf o'] [b, c] pos) (tT G W (tst fun σ h => (ma σ h).bind fun x h1 => (mb σ h1).bind fun y h2 => (cmpV o x y h2).bind fun k h3 =>
      if k then (mc σ h3).bind fun z h4 => (cmpV o' y z h4).bind fun k' h5 => .ok (.d (.bool k')) h5 else .ok (.d (.bool false)) h3)) := by
  refine (pt_chain (op_cmp (G := G) o hK hu) (op_cmp (G := G) o' hK hu) ha hb hc hm).imp fun τ H Q ⟨Av, s, σ, hH, rp, sr, p⟩ => ?_
  subst hH
  simp only [tst, R.bind_assoc] at p
  refine tE_bind rp sr p fun v y s1 rp1 st1 sr1 q1 p1 => ?_
  refine tE_bind rp1 sr1 p1 fun w z s2 rp2 st2 sr2 q2 p2 => ?_
  refine postC rp2 (st2.vr rp2.nd q1) q2 p2 fun k p3 => ⟨k, rfl, ?_⟩
  cases k with
  | false =>
    simp only [Bool.false_eq_true, if_false, R.bind_ok, tru_bl] at p3
    exact ⟨false, rfl, p3.fin rp2 rfl⟩
  | true =>
    simp only [if_true, R.bind_assoc, R.bind_ok, tru_bl] at p3
    refine tE_bind rp2 sr2 p3 fun x3 y3 s3 rp3 st3 sr3 q3 p4 => ?_
    exact postC rp3 (st3.vr rp3.nd q2) q3 p4 fun c p5 => ⟨c, rfl, p5.fin rp3 rfl⟩

/-! ### not, and, or -/
theorem ip_not {a : Expr} {ma : Sg → Hq → R Val} (hK : G.K = X.K) (ha : PE X a (tE G W ma)) : PE X (.UnaryOp .Not a pos) (tE G W fun σ h => (ma σ h).bind fun x h1 => (tru x h1).bind fun k h2 => .ok (.d (.bool (!k))) h2) := by
  refine (pe_notT ha).imp fun τ H Q ⟨Av, s, σ, hH, rp, sr, p⟩ => ?_
  subst hH
  refine tE_bind rp sr p fun v y s1 rp1 st1 sr1 q1 p1 => ?_
  obtain ⟨k, t, p2⟩ := postT hK rp1 q1 p1
  exact ⟨k, t, p2.fin rp1 (.d (.bl _))⟩
theorem ip_notT {a : Expr} {ma : Sg → Hq → R Val} (ha : PT X a (tT G W (tst ma))) : PT X (.UnaryOp .Not a pos) (tT G W (tst fun σ h => (ma σ h).bind fun x h1 => (tru x h1).bind fun k h2 => .ok (.d (.bool (!k))) h2)) := by
  refine (pt_not ha).imp fun τ H Q ⟨Av, s, σ, hH, rp, sr, p⟩ => ?_
  subst hH
  have p' : Post G (We W τ) Av s (fun v y _ => v = y) (((tst ma) σ s.h).bind fun k h => R.ok (!k) h) Q := by
    have e : ((tst ma) σ s.h).bind (fun k h => R.ok (!k) h) = (tst fun σ h => (ma σ h).bind fun x h1 => (tru x h1).bind fun k h2 => .ok (.d (.bool (!k))) h2) σ s.h := by
      simp only [tst, R.bind_assoc, R.bind_ok, tru_bl]
    rw [e]; exact p
  exact tT_bind rp sr p' fun b s1 rp1 st1 sr1 p1 => p1.fin rp1 rfl
/-- truth asked again is the same -/
theorem tru_heap {v : Val} {h : Hq} {k : Bool} {h' : Hq} (e : tru v h = .ok k h') : h' = h := by
  unfold tru at e
  split at e
  · rename_i a _
    cases e2 : truthD a with
    | none => rw [e2] at e; cases e
    | some c => rw [e2] at e; cases e; rfl
  · cases e
theorem tru_again {γ : Type} (v : Val) (h : Hq) (f g : Bool → Hq → R γ) : ((tru v h).bind fun k h2 => if k then f k h2 else (tru v h2).bind g) = (tru v h).bind fun k h2 => if k then f k h2 else g false h2 := by
  cases e : tru v h with
  | er _ _ => rfl
  | no => rfl
  | ok k h2 =>
    have := tru_heap e
    subst this
    simp only [R.bind_ok]
    cases k with
    | true => rfl
    | false =>
      simp only [Bool.false_eq_true, if_false, e, R.bind_ok]
theorem tru_again' {γ : Type} (v : Val) (h : Hq) (f g : Bool → Hq → R γ) : ((tru v h).bind fun k h2 => if k then (tru v h2).bind g else f k h2) = (tru v h).bind fun k h2 => if k then g true h2 else f k h2 := by
  cases e : tru v h with
  | er _ _ => rfl
  | no => rfl
  | ok k h2 =>
    have := tru_heap e
    subst this
    simp only [R.bind_ok]
    cases k with
    | false => rfl
    | true =>
      simp only [if_true, e, R.bind_ok]
theorem ite_bind {α β : Type} (c : Bool) (r r' : R α) (f : α → Hq → R β) : (if c then r else r').bind f = if c then r.bind f else r'.bind f := by cases c <;> rfl
theorem ip_and {a b : Expr} {rest : List Expr} {ma mb : Sg → Hq → R Val} (hK : G.K = X.K) (ha : PE X a (tE G W ma)) (hb : PE X (.BoolOp .And (b :: rest) pos) (tE G W mb)) :
    PE X (.BoolOp .And (a :: b :: rest) pos) (tE G W fun σ h => (ma σ h).bind fun x h1 => (tru x h1).bind fun k h2 => if k then mb σ h2 else .ok x h2) := by
  refine (pe_andT ha hb).imp fun τ H Q ⟨Av, s, σ, hH, rp, sr, p⟩ => ?_
  subst hH
  refine tE_bind rp sr p fun v y s1 rp1 st1 sr1 q1 p1 => ?_
  obtain ⟨k, t, p2⟩ := postT hK rp1 q1 p1
  refine ⟨k, t, ?_⟩
  cases k with
  | true => exact ⟨Av, s1, σ, rfl, rp1, sr1, p2⟩
  | false => exact p2.fin rp1 q1
theorem ip_or {a b : Expr} {rest : List Expr} {ma mb : Sg → Hq → R Val} (hK : G.K = X.K) (ha : PE X a (tE G W ma)) (hb : PE X (.BoolOp .Or (b :: rest) pos) (tE G W mb)) :
    PE X (.BoolOp .Or (a :: b :: rest) pos) (tE G W fun σ h => (ma σ h).bind fun x h1 => (tru x h1).bind fun k h2 => if k then .ok x h2 else mb σ h2) := by
  refine (pe_orT ha hb).imp fun τ H Q ⟨Av, s, σ, hH, rp, sr, p⟩ => ?_
  subst hH
  refine tE_bind rp sr p fun v y s1 rp1 st1 sr1 q1 p1 => ?_
  obtain ⟨k, t, p2⟩ := postT hK rp1 q1 p1
  refine ⟨k, t, ?_⟩
  cases k with
  | false => exact ⟨Av, s1, σ, rfl, rp1, sr1, p2⟩
  | true => exact p2.fin rp1 q1
theorem ip_and1 {a : Expr} {ma : Sg → Hq → R Val} {o : BoolOp} (ha : PE X a (tE G W ma)) : PE X (.BoolOp o [a] pos) (tE G W ma) := pe_one ha
theorem ip_andT1 {a : Expr} {m : Sg → Hq → R Bool} (ha : PT X a (tT G W m)) : PW X (.BoolOp .And [a] pos) (tT G W m) := pw_and1 ha
theorem ip_orT1 {a : Expr} {m : Sg → Hq → R Bool} (ha : PT X a (tT G W m)) : PW X (.BoolOp .Or [a] pos) (tT G W m) := pw_or1 ha
theorem ip_andT {a b : Expr} {rest : List Expr} {ma mb : Sg → Hq → R Val} (ha : PT X a (tT G W (tst ma))) (hb : PW X (.BoolOp .And (b :: rest) pos) (tT G W (tst mb))) :
    PW X (.BoolOp .And (a :: b :: rest) pos) (tT G W (tst fun σ h => (ma σ h).bind fun x h1 => (tru x h1).bind fun k h2 => if k then mb σ h2 else .ok x h2)) := by
  refine (pw_and ha hb).imp fun τ H Q ⟨Av, s, σ, hH, rp, sr, p⟩ => ?_
  subst hH
  have p' : Post G (We W τ) Av s (fun v y _ => v = y) (((tst ma) σ s.h).bind fun k h => if k then (tst mb) σ h else .ok false h) Q := by
    have e : ((tst ma) σ s.h).bind (fun k h => if k then (tst mb) σ h else .ok false h) = (tst fun σ h => (ma σ h).bind fun x h1 => (tru x h1).bind fun k h2 => if k then mb σ h2 else .ok x h2) σ s.h := by
      simp only [tst, R.bind_assoc]
      congr 1
      funext x h1
      have e1 := tru_again x h1 (fun _ h2 => (mb σ h2).bind fun v h1 => tru v h1) (fun k h2 => .ok k h2)
      simp only [R.bind_id] at e1
      rw [← e1]
      congr 1
      funext k h2
      cases k <;> rfl
    rw [e]; exact p
  refine tT_bind rp sr p' fun b s1 rp1 st1 sr1 p1 => ?_
  cases b with
  | true => exact ⟨Av, s1, σ, rfl, rp1, sr1, p1⟩
  | false => exact p1.fin rp1 rfl
theorem ip_orT {a b : Expr} {rest : List Expr} {ma mb : Sg → Hq → R Val} (ha : PT X a (tT G W (tst ma))) (hb : PW X (.BoolOp .Or (b :: rest) pos) (tT G W (tst mb))) :
    PW X (.BoolOp .Or (a :: b :: rest) pos) (tT G W (tst fun σ h => (ma σ h).bind fun x h1 => (tru x h1).bind fun k h2 => if k then .ok x h2 else mb σ h2)) := by
  refine (pw_or ha hb).imp fun τ H Q ⟨Av, s, σ, hH, rp, sr, p⟩ => ?_
  subst hH
  have p' : Post G (We W τ) Av s (fun v y _ => v = y) (((tst ma) σ s.h).bind fun k h => if k then .ok true h else (tst mb) σ h) Q := by
    have e : ((tst ma) σ s.h).bind (fun k h => if k then .ok true h else (tst mb) σ h) = (tst fun σ h => (ma σ h).bind fun x h1 => (tru x h1).bind fun k h2 => if k then .ok x h2 else mb σ h2) σ s.h := by
      simp only [tst, R.bind_assoc]
      congr 1
      funext x h1
      have e1 := tru_again' x h1 (fun _ h2 => (mb σ h2).bind fun v h1 => tru v h1) (fun k h2 => .ok k h2)
      simp only [R.bind_id] at e1
      rw [← e1]
      congr 1
      funext k h2
      cases k <;> rfl
    rw [e]; exact p
  refine tT_bind rp sr p' fun b s1 rp1 st1 sr1 p1 => ?_
  cases b with
  | false => exact ⟨Av, s1, σ, rfl, rp1, sr1, p1⟩
  | true => exact p1.fin rp1 rfl
/-! ### a if t else b -/
theorem ip_ife {c a b : Expr} {mc ma mb : Sg → Hq → R Val} (hc : PT X c (tT G W (tst mc))) (ha : PE X a (tE G W ma)) (hb : PE X b (tE G W mb)) :
    PE X (.IfExp c a b pos) (tE G W fun σ h => (mc σ h).bind fun x h1 => (tru x h1).bind fun k h2 => if k then ma σ h2 else mb σ h2) := by
  refine (pe_ifExp hc ha hb).imp fun τ H Q ⟨Av, s, σ, hH, rp, sr, p⟩ => ?_
  subst hH
  have p' : Post G (We W τ) Av s (fun v y s' => VR G Av s' v y) (((tst mc) σ s.h).bind fun k h => if k then ma σ h else mb σ h) Q := by
    have e : ((tst mc) σ s.h).bind (fun k h => if k then ma σ h else mb σ h) = (fun σ h => (mc σ h).bind fun x h1 => (tru x h1).bind fun k h2 => if k then ma σ h2 else mb σ h2) σ s.h := by
      simp only [tst, R.bind_assoc]
    rw [e]; exact p
  refine tT_bind rp sr p' fun k s1 rp1 st1 sr1 p1 => ?_
  cases k with
  | true => exact ⟨Av, s1, σ, rfl, rp1, sr1, p1⟩
  | false => exact ⟨Av, s1, σ, rfl, rp1, sr1, p1⟩
/-- as a test -/
theorem ip_ifeT {c a b : Expr} {mc ma mb : Sg → Hq → R Val} (hc : PT X c (tT G W (tst mc))) (ha : PT X a (tT G W (tst ma))) (hb : PT X b (tT G W (tst mb))) :
    PT X (.IfExp c a b pos) (tT G W (tst fun σ h => (mc σ h).bind fun x h1 => (tru x h1).bind fun k h2 => if k then ma σ h2 else mb σ h2)) := by
  refine ⟨fun pins s τ H Q I ⟨Av, s3, σ, hH, rp, sr, p⟩ => ?_⟩
  subst hH
  refine PyProof.Rows.isTrue_IfExp ?_
  have p' : Post G (We W τ) Av s3 (fun v y _ => v = y) (((tst mc) σ s3.h).bind fun k h => if k then (tst ma) σ h else (tst mb) σ h) Q := by
    have e : ((tst mc) σ s3.h).bind (fun k h => if k then (tst ma) σ h else (tst mb) σ h) = (tst fun σ h => (mc σ h).bind fun x h1 => (tru x h1).bind fun k h2 => if k then ma σ h2 else mb σ h2) σ s3.h := by
      simp only [tst, R.bind_assoc]
      congr 1
      funext x h1
      congr 1
      funext k h2
      cases k <;> rfl
    rw [e]; exact p
  have r := tT_bind (Q' := fun k H1 => if k = true then tT G W (tst ma) τ H1 Q else tT G W (tst mb) τ H1 Q) rp sr p' fun k s1 rp1 st1 sr1 p1 => by
    cases k with
    | true => exact ⟨Av, s1, σ, rfl, rp1, sr1, p1⟩
    | false => exact ⟨Av, s1, σ, rfl, rp1, sr1, p1⟩
  refine thn (hc.run pins s τ _ _ I r) fun d s1 ⟨H1, I1, q1⟩ => ?_
  cases d with
  | true => exact ha.run pins s1 τ H1 Q I1 q1
  | false => exact hb.run pins s1 τ H1 Q I1 q1
end
end Ip

set_option linter.all false
set_option Elab.async false
set_option autoImplicit false
/-! Displays, fresh lists, subscripts, built-ins. -/
namespace Ip
open PySem L2

section
variable {X : Cx} {G : Gb} {E : XK} {W : WX} {pos : Pos}

/-! ### argument lists -/
theorem ia_nil : PA X [] (tA G W fun _ h => .ok [] h) := by
  refine pa_nil.imp fun τ H Q ⟨Av, s, σ, hH, rp, sr, p⟩ => ?_
  subst hH
  exact p.fin rp .nil
theorem ia_cons {e : Expr} {es : List Expr} {me : Sg → Hq → R Val} {ms : Sg → Hq → R (List Val)} (he : PE X e (tE G W me)) (hs : PA X es (tA G W ms)) (st : starEach (e :: es) X.env = (false, eval e X.env) :: starEach es X.env) :
    PA X (e :: es) (tA G W fun σ h => (me σ h).bind fun v h1 => (ms σ h1).bind fun vs h2 => .ok (v :: vs) h2) := by
  refine (pa_cons he hs st).imp fun τ H Q ⟨Av, s, σ, hH, rp, sr, p⟩ => ?_
  subst hH
  refine tE_bind rp sr p fun v y s1 rp1 st1 sr1 q1 p1 => ?_
  refine tA_bind rp1 sr1 p1 fun vs ys s2 rp2 st2 sr2 q2 p2 => ?_
  exact p2.fin rp2 (.cons (st2.vr rp2.nd q1) q2)

/-! ### a tuple -/
theorem Post.toDs {Av : Addr → Prop} {s : S3} {vs : List Val} {ys : List V} {γ δ : Type} {Rm : γ → δ → S3 → Prop} {f : List D → Hq → R γ} {Q : δ → Hp → Prop} (rp : RepH G Av s) (q : VRs G Av s vs ys) (p : Post G E Av s Rm ((toDs vs s.h).bind f) Q) :
    ∃ ds h', RepH G Av ⟨s.r, h', s.H⟩ ∧ Stp s ⟨s.r, h', s.H⟩ ∧ DRs G.K s.H (Bad Av ⟨s.r, h', s.H⟩) ys ds ∧ Post G E Av ⟨s.r, h', s.H⟩ Rm (f ds h') Q := by
  cases e : Ip.toDs vs s.h with
  | er x h => exact absurd e (toDs_no_er _ _ _ _)
  | no => rw [e] at p; exact p.elim
  | ok ds h' =>
    rw [e] at p
    obtain ⟨r1, t1, d1⟩ := toDs_ok rp q e
    refine ⟨ds, h', r1, t1, d1, ?_⟩
    have p : Post G _ Av s Rm (f ds h') Q := p
    revert p
    cases f ds h' with
    | ok c h2 => exact fun p s2 z e2 rp2 t2 q2 => p s2 z e2 rp2 (t1.trans t2 r1.nd r1.len) q2
    | er x h2 => exact fun p s2 c dx e2 rp2 t2 q2 => p s2 c dx e2 rp2 (t1.trans t2 r1.nd r1.len) q2
    | no => exact fun p => p
/-- a step ahead -/
theorem Post.step {Av : Addr → Prop} {s s1 : S3} {α β : Type} {Rl : α → β → S3 → Prop} {r : R α} {Q : β → Hp → Prop} (p : Post G E Av s Rl r Q) (t : Stp s s1) (r1 : RepH G Av s1) : Post G E Av s1 Rl r Q := by
  revert p
  cases r with
  | ok c h2 => exact fun p s2 z e2 rp2 t2 q2 => p s2 z e2 rp2 (t.trans t2 r1.nd r1.len) q2
  | er x h2 => exact fun p s2 c dx e2 rp2 t2 q2 => p s2 c dx e2 rp2 (t.trans t2 r1.nd r1.len) q2
  | no => exact fun p => p
/-- a new object beside: the state -/
theorem RepH.new_bad {Av : Addr → Prop} {s : S3} (rp : RepH G Av s) {p : Addr} (hp : s.H p = none) : ¬ Bad Av s p := fun h => rp.bad_some h hp
theorem ip_tup {es : List Expr} {ms : Sg → Hq → R (List Val)} {k : Nat} (hs : PA X es (tA G W ms)) (hl : ∀ σ h vs h', ms σ h = .ok vs h' → vs.length ≤ 16777216) :
    PE X (.Tuple es k pos) (tE G W fun σ h => (ms σ h).bind fun vs h1 => (toDs vs h1).bind fun ds h2 => .ok (.d (.tuple ds)) h2) := by
  refine (pe_tup hs).imp fun τ H Q ⟨Av, s, σ, hH, rp, sr, p⟩ => ?_
  subst hH
  have hlen : ∀ vs h', ms σ s.h = .ok vs h' → vs.length ≤ 16777216 := fun vs h' e => hl σ s.h vs h' e
  show tA G W ms τ s.H _
  refine ⟨Av, s, σ, rfl, rp, sr, ?_⟩
  revert p hlen
  show (Post G _ Av s _ ((ms σ s.h).bind _) Q → _)
  cases ms σ s.h with
  | er x h => exact fun p _ => p
  | no => exact fun p _ => p
  | ok vs h1 =>
    intro p hlen s1 ys e1 rp1 st1 q1
    subst e1
    have p1 := Post.step (r := (toDs vs s1.h).bind fun ds h2 => R.ok (Val.d (.tuple ds)) h2) p st1 rp1
    obtain ⟨ds, h2, rp2, st2, d2, p2⟩ := Post.toDs rp1 q1 p1
    refine ⟨by rw [← q1.length, sizeLine_eq]; exact hlen vs _ rfl, fun a ha => ?_⟩
    obtain ⟨rp3, st3⟩ := rp2.upd_new (o := .tup ys) ha
    exact p2 ⟨s1.r, h2, upd s1.H a (.tup ys)⟩ (.ref a) rfl rp3 st3 (.d (.tup (SqT.of upd_same) (DRs.mono st3.fr (fun a z => .inr z) (st3.bad rp3.nd) d2)))

/-! ### a fresh list -/
/-- Av and one more -/
def also (Av : Addr → Prop) (p : Addr) : Addr → Prop := fun a => Av a ∨ a = p
theorem bad_also {Av : Addr → Prop} {s : S3} {p a : Addr} : Bad (also Av p) s a ↔ Bad Av s a ∨ a = p := by
  constructor
  · rintro ((h | h) | h)
    · exact .inl (.inl h)
    · exact .inr h
    · exact .inl (.inr h)
  · rintro ((h | h) | h)
    · exact .inl (.inl h)
    · exact .inr h
    · exact .inl (.inr h)
theorem VR.less {Av Av' : Addr → Prop} {s : S3} (h : ∀ a, Av' a → Av a) {v : Val} {x : V} (q : VR G Av s v x) : VR G Av' s v x := by
  cases q with
  | d q => exact .d (q.sub fun a z => z.elim (fun w => .inl (h a w)) .inr)
  | ref q => exact .ref q
  | fn q => exact .fn q
theorem VRs.less {Av Av' : Addr → Prop} {s : S3} (h : ∀ a, Av' a → Av a) : ∀ {v : List Val} {x : List V}, VRs G Av s v x → VRs G Av' s v x
  | _, _, .nil => .nil
  | _, _, .cons q t => .cons (q.less h) (t.less h)
theorem RepH.less {Av Av' : Addr → Prop} {s : S3} (h : ∀ a, Av' a → Av a) (r : RepH G Av s) : RepH G Av' s := by
  refine ⟨r.len, r.nd, fun n a o e1 e2 => ?_, fun a z => r.av a (h a z), fun a z => r.dis a (h a z), r.trk, r.tabs⟩
  have q := r.obj n a o e1 e2
  cases o with
  | lst vs => obtain ⟨xs, h1, h2⟩ := q; exact ⟨xs, h1, h2.less h⟩
  | dead x => exact DR.sub (fun a z => z.elim (fun w => .inl (h a w)) .inr) q
  | dct c => obtain ⟨ob, h1, h2⟩ := q; exact ⟨ob, h1, h2.map (VR.less h) id⟩
  | tx ds => obtain ⟨ob, xs, h1, h2, h3⟩ := q; exact ⟨ob, xs, h1, h2, DRs.sub (fun a z => z.elim (fun w => .inl (h a w)) .inr) h3⟩
  | dl kvs => obtain ⟨ob, es, h1, h2⟩ := q; exact ⟨ob, es, h1, h2.map (VR.less h)⟩
theorem RepH.more {Av : Addr → Prop} {s : S3} {p : Addr} (r : RepH G Av s) (hp : s.H p = none) {o : HO} : RepH G (also Av p) ⟨s.r, s.h, upd s.H p o⟩ ∧ ∀ {v : V} {d : D}, DR G.K s.H (Bad Av s) v d → DR G.K (upd s.H p o) (Bad (also Av p) ⟨s.r, s.h, upd s.H p o⟩) v d := by
  obtain ⟨r1, t1⟩ := r.upd_new (o := o) hp
  have conv : ∀ {v : V} {d : D}, DR G.K s.H (Bad Av s) v d → DR G.K (upd s.H p o) (Bad (also Av p) ⟨s.r, s.h, upd s.H p o⟩) v d := fun {v d} q =>
    DR.mono t1.fr (fun a z => .inr z) (fun a ha hb hb' => by
      rcases bad_also.mp hb' with z | z
      · exact t1.bad r1.nd a ha hb z
      · subst z; exact ha hp) q
  refine ⟨⟨r.len, r.nd, fun n a ob e1 e2 => ?_, fun a z => ?_, fun a z => ?_, fun a z => t1.fr.there a (r.trk a z), tabs_upd r.tabs (.inl hp)⟩, conv⟩
  · have q := r.obj n a ob e1 e2
    cases ob with
    | lst vs =>
      obtain ⟨xs, h1, h2⟩ := q
      have : a ≠ p := fun z => by subst z; rw [hp] at h1; cases h1
      refine ⟨xs, by show upd s.H p o a = _; rw [upd_ne this]; exact h1, ?_⟩
      clear h1 e2
      induction h2 with
      | nil => exact .nil
      | cons h t ih =>
        refine .cons ?_ ih
        cases h with
        | d q => exact .d (conv q)
        | ref q => exact .ref q
        | fn q => exact .fn q
    | dead x => exact conv q
    | dct c =>
      obtain ⟨u, h1, h2⟩ := q
      have : a ≠ p := fun z => by subst z; rw [hp] at h1; cases h1
      refine ⟨u, by show upd s.H p o a = _; rw [upd_ne this]; exact h1, h2.map (fun {v x} h => ?_) t1.fr.sqt⟩
      cases h with
      | d q => exact .d (conv q)
      | ref q => exact .ref q
      | fn q => exact .fn q
    | tx ds =>
      obtain ⟨ob, xs, h1, h2, h3⟩ := q
      exact ⟨ob, xs, h1, t1.fr.frz _ _ _ h2, DRs.mono t1.fr (fun a z => .inr z) (fun a ha hb hb' => by
        rcases bad_also.mp hb' with z | z
        · exact t1.bad r1.nd a ha hb z
        · subst z; exact ha hp) h3⟩
    | dl kvs =>
      obtain ⟨ob, es, h1, h2⟩ := q
      refine ⟨ob, es, t1.fr.frz _ _ _ h1, h2.map (fun {v x} h => ?_)⟩
      cases h with
      | d q => exact .d (conv q)
      | ref q => exact .ref q
      | fn q => exact .fn q
  · rcases z with z | z
    · exact t1.fr.there a (r.av a z)
    · subst z; show upd s.H a o a ≠ none; rw [upd_same]; exact fun z => by cases z
  · rcases z with z | z
    · exact r.dis a z
    · subst z; exact fun z => r.trk a z hp
/-- a fresh list at y: nothing else leads to it -/
def LR (G : Gb) (Av : Addr → Prop) (s : S3) (vs : List Val) (y : V) (s' : S3) : Prop :=
  ∃ p xs, y = .ref p ∧ s.H p = none ∧ RepH G (also Av p) s' ∧ s'.H p = some (.lst xs) ∧ VRs G (also Av p) s' vs xs
def tL (G : Gb) (W : WX) (m : Sg → Hq → R (List Val)) : TE := fun τ H Q => ∃ (Av : Addr → Prop) (s : S3) (σ : Sg), s.H = H ∧ RepH G Av s ∧ SR G Av s σ τ ∧ Post G (We W τ) Av s (LR G Av s) (m σ s.h) Q
theorem tL_bind {Av : Addr → Prop} {s : S3} {σ : Sg} {τ : L2.St} {γ δ : Type} {m : Sg → Hq → R (List Val)} {f : List Val → Hq → R γ} {Rm : γ → δ → S3 → Prop} {Q : δ → Hp → Prop} (rp : RepH G Av s) (sr : SR G Av s σ τ) (p : Post G (We W τ) Av s Rm ((m σ s.h).bind f) Q) {Q' : VK}
    (h : ∀ (v : List Val) (y : V) (s1 : S3), RepH G Av s1 → Stp s s1 → SR G Av s1 σ τ → LR G Av s v y s1 → Post G (We W τ) Av s1 Rm (f v s1.h) Q → Q' y s1.H) : tL G W m τ s.H Q' := by
  refine ⟨Av, s, σ, rfl, rp, sr, (p.bind (Rl := LR G Av s)).mono ?_⟩
  rintro y H1 ⟨v, s1, rfl, rp1, st, q, p1⟩
  exact h v y s1 rp1 st (st.sr rp1.nd sr) q p1
/-- it is data from now on -/
theorem ofL_imp {m : Sg → Hq → R (List Val)} : ∀ τ H Q, tE G W (fun σ h => (m σ h).bind fun vs h1 => (toDs vs h1).bind fun ds h2 => .ok (.d (.list ds)) h2) τ H Q → tL G W m τ H Q := by
  intro τ H Q ⟨Av, s, σ, hH, rp, sr, p⟩
  subst hH
  refine tL_bind rp sr p fun vs y s1 rp1 st1 sr1 lr p1 => ?_
  obtain ⟨a, xs, rfl, ha, rpA, hx, hv⟩ := lr
  cases e : toDs vs s1.h with
  | er x h => exact absurd e (toDs_no_er _ _ _ _)
  | no => rw [e] at p1; exact p1.elim
  | ok ds h2 =>
    rw [e] at p1
    obtain ⟨r2, t2, d2⟩ := toDs_ok rpA hv e
    have nA : ¬ Av a := fun z => rp.av a z ha
    have nB : ¬ Bad Av ⟨s1.r, h2, s1.H⟩ a := by
      rintro (z | ⟨n, z, _⟩)
      · exact nA z
      · exact r2.dis a (.inr rfl) (List.mem_of_getElem? z)
    have sub : ∀ b, Av b → also Av a b := fun b z => .inl z
    exact p1 ⟨s1.r, h2, s1.H⟩ (.ref a) rfl (r2.less sub) t2 (.d (.lst (.inl ⟨.inl hx, nB⟩) (d2.sub fun b z => bad_also.mpr (.inl z))))
/-- it is an object of this run -/
theorem new_imp {m : Sg → Hq → R (List Val)} : ∀ τ H Q, tE G W (fun σ h => (m σ h).bind fun vs h1 => .ok (.ref h1.length) (h1 ++ [.lst vs])) τ H Q → tL G W m τ H Q := by
  intro τ H Q ⟨Av, s, σ, hH, rp, sr, p⟩
  subst hH
  refine ⟨Av, s, σ, rfl, rp, sr, ?_⟩
  revert p
  show (Post G _ Av s _ ((m σ s.h).bind _) Q → _)
  cases m σ s.h with
  | er x h => exact fun p => p
  | no => exact fun p => p
  | ok vs h1 =>
  intro p s1 y e1 rp1 st1 lr
  subst e1
  obtain ⟨a, xs, rfl, ha, rpA, hx, hv⟩ := lr
  have har : a ∉ s1.r := rpA.dis a (.inr rfl)
  have nA : ¬ Av a := fun z => rp.av a z ha
  have hb : ∀ b, Bad Av ⟨s1.r ++ [a], s1.h ++ [.lst vs], s1.H⟩ b → Bad (also Av a) s1 b := by
    rintro b (z | ⟨n, z, ws, hl, hal⟩)
    · exact .inl (.inl z)
    · by_cases hn : n < s1.r.length
      · refine .inr ⟨n, ?_, ws, ?_, hal⟩
        · rw [List.getElem?_append_left hn] at z; exact z
        · rw [List.getElem?_append_left (by rw [← rp1.len]; exact hn)] at hl; exact hl
      · left; right
        rw [List.getElem?_append_right (Nat.not_lt.mp hn)] at z
        cases hk : n - s1.r.length with
        | zero => rw [hk] at z; exact (Option.some.inj z).symm
        | succ k => rw [hk] at z; cases z
  have cv : ∀ {v : Val} {x : V}, VR G (also Av a) s1 v x → VR G Av ⟨s1.r ++ [a], s1.h ++ [.lst vs], s1.H⟩ v x := fun {v x} q => by
    cases q with
    | d q => exact .d (q.sub hb)
    | ref q => exact .ref (pre_get (List.prefix_append _ _) q)
    | fn q => exact .fn q
  have cvs : ∀ {v : List Val} {x : List V}, VRs G (also Av a) s1 v x → VRs G Av ⟨s1.r ++ [a], s1.h ++ [.lst vs], s1.H⟩ v x := fun {v x} q => by
    induction q with
    | nil => exact .nil
    | cons h _ ih => exact .cons (cv h) ih
  have rp2 : RepH G Av ⟨s1.r ++ [a], s1.h ++ [.lst vs], s1.H⟩ := by
    refine ⟨by simp [rp1.len], ?_, fun n b o e1 e2 => ?_, rp1.av, fun b z => ?_, fun b z => ?_, rp1.tabs⟩
    · rw [List.nodup_append]
      exact ⟨rp1.nd, by simp, fun x hx2 y hy => by
        have : y = a := by simpa using hy
        subst this; exact fun z => har (z ▸ hx2)⟩
    · by_cases hn : n < s1.r.length
      · have e1 : (s1.r ++ [a])[n]? = some b := e1
        have e2 : (s1.h ++ [.lst vs])[n]? = some o := e2
        rw [List.getElem?_append_left hn] at e1
        rw [List.getElem?_append_left (by rw [← rp1.len]; exact hn)] at e2
        have q := rpA.obj n b o e1 e2
        cases o with
        | lst ws => obtain ⟨zs, h1, h2⟩ := q; exact ⟨zs, h1, cvs h2⟩
        | dead x => exact DR.sub hb q
        | dct c => obtain ⟨ob, h1, h2⟩ := q; exact ⟨ob, h1, h2.map cv id⟩
        | tx ds => obtain ⟨ob, xs, h1, h2, h3⟩ := q; exact ⟨ob, xs, h1, h2, DRs.sub hb h3⟩
        | dl kvs => obtain ⟨ob, es, h1, h2⟩ := q; exact ⟨ob, es, h1, h2.map cv⟩
      · have e1 : (s1.r ++ [a])[n]? = some b := e1
        have e2 : (s1.h ++ [.lst vs])[n]? = some o := e2
        rw [List.getElem?_append_right (Nat.not_lt.mp hn)] at e1
        rw [List.getElem?_append_right (by rw [← rp1.len]; exact Nat.not_lt.mp hn), ← rp1.len] at e2
        cases hk : n - s1.r.length with
        | zero =>
          rw [hk] at e1 e2
          have e1 : some a = some b := e1
          have e2 : some (IO.lst vs) = some o := e2
          cases e1; cases e2
          exact ⟨xs, hx, cvs hv⟩
        | succ k => rw [hk] at e1; cases e1
    · have := rp1.dis b z
      intro w
      rcases List.mem_append.mp w with w | w
      · exact this w
      · have : b = a := by simpa using w
        subst this; exact nA z
    · rcases List.mem_append.mp z with w | w
      · exact rp1.trk b w
      · have : b = a := by simpa using w
        subst this
        show s1.H b ≠ none
        rw [hx]; exact fun z => by cases z
  have st2 : Stp s ⟨s1.r ++ [a], s1.h ++ [.lst vs], s1.H⟩ := by
    refine ⟨st1.pre.trans (List.prefix_append _ _), fun n hn l => st1.liv n hn ?_, st1.fr, fun b hb => ?_⟩
    · obtain ⟨ws, hl, hal⟩ := l
      have hn' : n < s1.h.length := by rw [← rp1.len]; exact Nat.lt_of_lt_of_le hn st1.pre.length_le
      rw [List.getElem?_append_left hn'] at hl
      exact ⟨ws, hl, hal⟩
    · rcases List.mem_append.mp hb with w | w
      · exact st1.new b w
      · have : b = a := by simpa using w
        subst this; exact .inr ha
  exact p ⟨s1.r ++ [a], s1.h ++ [.lst vs], s1.H⟩ (.ref a) rfl rp2 st2 (.ref (by
    show (s1.r ++ [a])[s1.h.length]? = some a
    rw [← rp1.len, List.getElem?_append_right (Nat.le_refl _), Nat.sub_self]; rfl))
theorem ip_ofL {e : Expr} {m : Sg → Hq → R (List Val)} (h : PE X e (tL G W m)) : PE X e (tE G W fun σ h => (m σ h).bind fun vs h1 => (toDs vs h1).bind fun ds h2 => .ok (.d (.list ds)) h2) := h.imp ofL_imp
theorem ip_new {e : Expr} {m : Sg → Hq → R (List Val)} (h : PE X e (tL G W m)) : PE X e (tE G W fun σ h => (m σ h).bind fun vs h1 => .ok (.ref h1.length) (h1 ++ [.lst vs])) := h.imp new_imp
end
end Ip

set_option linter.all false
set_option Elab.async false
set_option autoImplicit false
/-! Lists made, subscripts, stores, built-ins, f-strings. -/
namespace Ip
open PySem L2

section
variable {X : Cx} {G : Gb} {E : XK} {W : WX} {pos : Pos}

/-! ### lists made -/
/-- a list laid behind the values that it holds -/
theorem lr_new {Av : Addr → Prop} {s0 s : S3} {vs : List Val} {xs : List V} (rp : RepH G Av s) (t : Stp s0 s) (q : VRs G Av s vs xs) {p : Addr} (hp : s.H p = none) :
    LR G Av s0 vs (.ref p) ⟨s.r, s.h, upd s.H p (.lst xs)⟩ ∧ RepH G Av ⟨s.r, s.h, upd s.H p (.lst xs)⟩ ∧ Stp s0 ⟨s.r, s.h, upd s.H p (.lst xs)⟩ := by
  obtain ⟨rpA, conv⟩ := rp.more hp (o := .lst xs)
  obtain ⟨r1, t1⟩ := rp.upd_new (o := .lst xs) hp
  have h0 : s0.H p = none := by
    cases e : s0.H p with
    | none => rfl
    | some o => exact absurd hp (t.fr.there p (by rw [e]; exact fun z => by cases z))
  refine ⟨⟨p, xs, rfl, h0, rpA, upd_same, ?_⟩, r1, t.trans t1 rp.nd rp.len⟩
  induction q with
  | nil => exact .nil
  | cons h _ ih =>
    refine .cons ?_ ?_
    · cases h with
      | d q => exact .d (DR.mono t1.fr (fun a z => .inr z) (fun a ha hb hb' => by
          rcases bad_also.mp hb' with z | z
          · exact t1.bad r1.nd a ha hb z
          · subst z; exact ha hp) q)
      | ref q => exact .ref q
      | fn q => exact .fn q
    · rename_i vs' x' xs' _
      -- the same list object, whatever its items are called
      clear ih
      rename_i tl
      have aux : ∀ {ws : List Val} {zs : List V}, VRs G Av s ws zs → VRs G (also Av p) ⟨s.r, s.h, upd s.H p (.lst (x' :: xs'))⟩ ws zs := fun {ws zs} w => by
        induction w with
        | nil => exact .nil
        | cons h _ ih =>
          refine .cons ?_ ih
          have f1 : Fr (fun a => ∃ n, s.r[n]? = some a ∧ live s.h n) s.H (upd s.H p (.lst (x' :: xs'))) := fr_upd_new hp
          cases h with
          | d q => exact .d (DR.mono f1 (fun a z => .inr z) (fun a ha hb hb' => by
              rcases bad_also.mp hb' with z | z
              · rcases z with z | z
                · exact hb (.inl z)
                · exact hb (.inr z)
              · subst z; exact ha hp) q)
          | ref q => exact .ref q
          | fn q => exact .fn q
      exact aux tl
theorem il_dsp {es : List Expr} {ms : Sg → Hq → R (List Val)} (hs : PA X es (tA G W ms)) :
    PE X (.List es pos) (tL G W fun σ h => (ms σ h).bind fun vs h1 => if fits vs.length then .ok vs h1 else .no) := by
  refine (pe_lst hs).imp fun τ H Q ⟨Av, s, σ, hH, rp, sr, p⟩ => ?_
  subst hH
  refine ⟨Av, s, σ, rfl, rp, sr, ?_⟩
  revert p
  show (Post G _ Av s _ ((ms σ s.h).bind _) Q → _)
  cases ms σ s.h with
  | er x h => exact fun p => p
  | no => exact fun p => p
  | ok vs h1 =>
    intro p s1 ys e1 rp1 st1 q1
    subst e1
    simp only [R.bind_ok] at p
    split at p
    · rename_i hf
      refine ⟨by rw [← q1.length]; exact fits_line hf, fun a ha => ?_⟩
      obtain ⟨lr, r2, t2⟩ := lr_new rp1 st1 q1 ha
      exact p ⟨s1.r, s1.h, upd s1.H a (.lst ys)⟩ _ rfl r2 t2 lr
    · exact p.elim

/-! ### subscripts -/
theorem ixn_eq (n : Nat) (i : Int) : ixn n i = L2.ixN n i := rfl
theorem atI_of {vs : List Val} {xs : List V} {Av : Addr → Prop} {s : S3} {i : Int} {v : Val} (q : VRs G Av s vs xs) (e : atD vs i = some v) : ∃ x, L2.atI xs i = some x ∧ VR G Av s v x := by
  unfold atD at e
  unfold L2.atI
  rw [← q.length, ← ixn_eq]
  cases h : ixn vs.length i with
  | none => rw [h] at e; cases e
  | some j =>
    rw [h] at e
    exact q.get e
theorem ip_ix {a b : Expr} {ma mb : Sg → Hq → R Val} (hK : GX G X) (hu : X.A.units + 100 < cLine) (ha : PE X a (tE G W ma)) (hb : PE X b (tE G W mb)) (hs : PlainIx b) :
    PE X (.Subscript a b pos) (tE G W fun σ h => (ma σ h).bind fun x h1 => (mb σ h1).bind fun y h2 => ixV x y h2) := by
  refine (pe_ix ((ix_dct (by omega)).or ix_seq) ha hb hs).imp fun τ H Q ⟨Av, s, σ, hH, rp, sr, p⟩ => ?_
  subst hH
  refine tE_bind rp sr p fun v y s1 rp1 st1 sr1 q1 p1 => ?_
  refine tE_bind rp1 sr1 p1 fun w z s2 rp2 st2 sr2 q2 p2 => ?_
  have q1 := st2.vr rp2.nd q1
  unfold ixV at p2
  split at p2
  · rename_i c e0
    unfold dgetV at p2
    split at p2
    · rename_i v0 eg
      obtain ⟨a, oz, rfl, g, rel⟩ := dgetR_ok rp2 q1 e0 q2 eg
      rw [hK.1, hK.2.1, hK.2.2] at g
      rcases rel with ⟨h, _⟩ | ⟨v1, x1, e1, rfl, q3⟩
      · cases h
      · cases e1
        exact .inl ⟨a, x1, rfl, g, p2.fin rp2 q3⟩
    · exact p2.elim
  right
  unfold ixW at p2
  split at p2
  · rename_i vs i e1
    split at p2
    · rename_i u e2
      obtain ⟨a, xs, rfl, hq, hv⟩ := els_ok rp2 q1 e1
      obtain ⟨x, e3, qx⟩ := atI_of hv e2
      cases q2 with
      | d q2 =>
        cases q2
        rw [hK.1] at hq
        rcases hq with hq | hq
        · exact .inl ⟨a, xs, i, x, rfl, rfl, hq, e3, p2.fin rp2 qx⟩
        · exact .inr (.inl ⟨a, xs, i, x, rfl, rfl, hq, e3, p2.fin rp2 qx⟩)
    · exact p2.elim
  · rename_i i e1
    split at p2
    · rename_i zz
      clear zz
      split at p2
      · rename_i hf
        split at p2
        · rename_i j ej
          split at p2
          · rename_i c ec
            cases q1 with
            | d q1 =>
              cases q1
              cases q2 with
              | d q2 =>
                cases q2
                refine .inr (.inr ⟨_, i, c, rfl, rfl, fits_line hf, ?_, p2.fin rp2 (.d (.str _))⟩)
                unfold L2.atI
                rw [← ixn_eq, ej]
                exact ec
          · exact p2.elim
        · exact p2.elim
      · exact p2.elim
    · exact p2.elim
  · exact p2.elim

/-! ### a slice of a list -/
/-- an end of a slice -/
def tO (G : Gb) (W : WX) (m : Sg → Hq → R (Option Int)) : TO := fun τ H Q => ∃ (Av : Addr → Prop) (s : S3) (σ : Sg), s.H = H ∧ RepH G Av s ∧ SR G Av s σ τ ∧ Post G (We W τ) Av s (fun v y _ => v = y) (m σ s.h) Q
theorem tO_bind {Av : Addr → Prop} {s : S3} {σ : Sg} {τ : L2.St} {γ δ : Type} {m : Sg → Hq → R (Option Int)} {f : Option Int → Hq → R γ} {Rm : γ → δ → S3 → Prop} {Q : δ → Hp → Prop} (rp : RepH G Av s) (sr : SR G Av s σ τ) (p : Post G (We W τ) Av s Rm ((m σ s.h).bind f) Q) {Q' : Option Int → Hp → Prop}
    (h : ∀ (b : Option Int) (s1 : S3), RepH G Av s1 → Stp s s1 → SR G Av s1 σ τ → Post G (We W τ) Av s1 Rm (f b s1.h) Q → Q' b s1.H) : tO G W m τ s.H Q' := by
  refine ⟨Av, s, σ, rfl, rp, sr, (p.bind (Rl := fun v y s' => v = y)).mono ?_⟩
  rintro y H1 ⟨v, s1, rfl, rp1, st, q, p1⟩
  subst q
  exact h v s1 rp1 st (st.sr rp1.nd sr) p1
theorem _root_.L2.PO.imp {e : Option Expr} {t t' : TO} (h : PO X e t) (q : ∀ τ H Q, t' τ H Q → t τ H Q) : PO X e t' := ⟨fun pins s σ H Q I w => h.run pins s σ H Q I (q _ _ _ w)⟩
theorem io_none : PO X none (tO G W fun _ h => .ok none h) := by
  refine po_none.imp fun τ H Q ⟨Av, s, σ, hH, rp, sr, p⟩ => ?_
  subst hH
  exact p.fin rp rfl
theorem io_some {e : Expr} {m : Sg → Hq → R Val} (he : PE X e (tE G W m)) : PO X (some e) (tO G W fun σ h => (m σ h).bind fun x h1 => match intV x with | some i => .ok (some i) h1 | none => .no) := by
  refine (po_some he).imp fun τ H Q ⟨Av, s, σ, hH, rp, sr, p⟩ => ?_
  subst hH
  refine tE_bind rp sr p fun v y s1 rp1 st1 sr1 q1 p1 => ?_
  cases v with
  | ref n => exact p1.elim
  | fn f => exact p1.elim
  | d x =>
    cases x with
    | int i => cases q1 with | d q => cases q; exact ⟨i, rfl, p1.fin rp1 rfl⟩
    | none => exact p1.elim
    | bool b => exact p1.elim
    | str b => exact p1.elim
    | list b => exact p1.elim
    | tuple b => exact p1.elim
    | dict b => exact p1.elim
theorem cutIx_eq (n d : Nat) (o : Option Int) (hd : d ≤ n) : cutIx n d o = HT.sIx n d o := by
  cases o with
  | none => rfl
  | some i =>
    have h := HT.clip_eq i n d
    unfold cutIx
    split at h
    · rename_i hi
      simp only [hi, if_true]
      have : ((HT.sIx n d (some i) : Nat) : Int) = max (i + (n : Int)) 0 := h.symm
      omega
    · rename_i hi
      simp only [hi, if_false]
      have : ((HT.sIx n d (some i) : Nat) : Int) = min i (n : Int) := h.symm
      omega
theorem cutV_of {vs : List Val} {xs : List V} {Av : Addr → Prop} {s : S3} (q : VRs G Av s vs xs) (lo hi : Option Int) : VRs G Av s (cutD vs lo hi) (cutV xs lo hi) := by
  unfold cutD cutV
  rw [cutIx_eq _ _ _ (Nat.zero_le _), cutIx_eq _ _ _ (Nat.le_refl _), q.length]
  exact (q.drop _).take _
theorem elsL_ok {Av : Addr → Prop} {s : S3} (r : RepH G Av s) {v : Val} {y : V} {vs : List Val} (q : VR G Av s v y) (e : elsL s.h v = some vs) :
    ∃ a xs, y = .ref a ∧ SqL G.K s.H a xs ∧ VRs G Av s vs xs := by
  cases q with
  | d q =>
    cases q with
    | lst h t => cases e; exact ⟨_, _, rfl, sql_of h, VRs.of_data t⟩
    | tup h t => cases e
    | non => cases e
    | bl b => cases e
    | int i => cases e
    | str x => cases e
  | ref hn =>
    unfold elsL at e
    simp only at e
    split at e
    · rename_i ws hl
      cases e
      obtain ⟨xs, hx, hv⟩ := r.obj _ _ _ hn hl
      exact ⟨_, xs, rfl, .inl (.inl hx), hv⟩
    · rename_i ws hl
      cases e
      have q := r.obj _ _ _ hn hl
      cases q with
      | lst h t => exact ⟨_, _, rfl, sql_of h, VRs.of_data t⟩
    · cases e
  | fn _ => cases e
theorem cut_map {α β : Type} (f : α → β) (xs : List α) (lo hi : Option Int) : cutD (xs.map f) lo hi = (cutD xs lo hi).map f := by
  unfold cutD
  rw [List.length_map, List.map_take, List.map_drop]
/-- data laid into a new list -/
theorem Post.newL {Av : Addr → Prop} {s : S3} {ds : List D} {ys : List V} {Q : VK} (rp : RepH G Av s) (q : DRs G.K s.H (Bad Av s) ys ds) (p : Post G E Av s (fun v y s' => VR G Av s' v y) (.ok (.d (.list ds)) s.h) Q) {a : Addr} (ha : s.H a = none) : Q (.ref a) (upd s.H a (.lst ys)) := by
  obtain ⟨rp3, st3⟩ := rp.upd_new (o := .lst ys) ha
  have nb : ¬ Bad Av ⟨s.r, s.h, upd s.H a (.lst ys)⟩ a := fun z => by
    rcases z with z | ⟨n, z, _⟩
    · exact rp.av a z ha
    · exact rp.trk a (List.mem_of_getElem? z) ha
  exact p ⟨s.r, s.h, upd s.H a (.lst ys)⟩ (.ref a) rfl rp3 st3 (.d (.lst (.inl ⟨.inl upd_same, nb⟩) (DRs.mono st3.fr (fun a z => .inr z) (st3.bad rp3.nd) q)))
theorem Post.newT {Av : Addr → Prop} {s : S3} {ds : List D} {ys : List V} {Q : VK} (rp : RepH G Av s) (q : DRs G.K s.H (Bad Av s) ys ds) (p : Post G E Av s (fun v y s' => VR G Av s' v y) (.ok (.d (.tuple ds)) s.h) Q) {a : Addr} (ha : s.H a = none) : Q (.ref a) (upd s.H a (.tup ys)) := by
  obtain ⟨rp3, st3⟩ := rp.upd_new (o := .tup ys) ha
  exact p ⟨s.r, s.h, upd s.H a (.tup ys)⟩ (.ref a) rfl rp3 st3 (.d (.tup (SqT.of upd_same) (DRs.mono st3.fr (fun a z => .inr z) (st3.bad rp3.nd) q)))
theorem cutD_s (z : Str) (lo hi : Option Int) : (⟨(cutD z.cps.toList lo hi).toArray⟩ : Str) = cutS z lo hi := by
  unfold cutD cutS
  rw [cutIx_eq _ _ _ (Nat.zero_le _), cutIx_eq _ _ _ (Nat.le_refl _)]
  rfl
theorem ip_slc {a : Expr} {lo hi : Option Expr} {p2 : Pos} {ma : Sg → Hq → R Val} {ml mh : Sg → Hq → R (Option Int)} (hK : G.K = X.K) (ha : PE X a (tE G W ma)) (hl : PO X lo (tO G W ml)) (hh : PO X hi (tO G W mh)) :
    PE X (.Subscript a (.Slice lo hi none p2) pos) (tE G W fun σ h => (ma σ h).bind fun x h1 => (ml σ h1).bind fun l h2 => (mh σ h2).bind fun u h3 => slcV x l u h3) := by
  refine (pe_slice (sl_list.or (sl_tupA.or sl_str)) ha hl hh).imp fun τ H Q ⟨Av, s, σ, hH, rp, sr, p⟩ => ?_
  subst hH
  refine tE_bind rp sr p fun v y s1 rp1 st1 sr1 q1 p1 => ?_
  refine tO_bind rp1 sr1 p1 fun l s2 rp2 st2 sr2 p2 => ?_
  refine tO_bind rp2 sr2 p2 fun u s3 rp3 st3 sr3 p3 => ?_
  have q1 := (st2.trans st3 rp2.nd rp2.len).vr rp3.nd q1
  unfold slcV at p3
  split at p3
  · rename_i vs e1
    obtain ⟨b, xs, rfl, hq, hv⟩ := elsL_ok rp3 q1 e1
    obtain ⟨ds, h', rp4, st4, d4, p4⟩ := Post.toDs rp3 (cutV_of hv l u) p3
    exact .inl ⟨b, xs, rfl, hK ▸ hq, fun p hp => Post.newL rp4 d4 p4 hp⟩
  · split at p3
    · rename_i xs _ _
      cases q1 with
      | d q1 =>
        cases q1 with
        | tup h t =>
          rename_i b ys
          have hc : DRs G.K s3.H (Bad Av s3) (cutV ys l u) (cutD xs l u) := by
            have := (cutV_of (VRs.of_data t) l u)
            rw [cut_map] at this
            exact this.to_data
          refine .inr (.inl ⟨b, ys, rfl, hK ▸ h, fun hw => ?_, fun _ p hp => Post.newT rp3 hc p3 hp⟩)
          have e : cutV ys l u = ys := by
            unfold cutV
            rw [hw.1, hw.2, List.drop_zero, Nat.sub_zero, List.take_length]
          rw [e] at hc
          exact p3.fin rp3 (.d (.tup h hc))
    · rename_i z _ _
      split at p3
      · rename_i hf
        cases q1 with
        | d q1 =>
          cases q1
          refine .inr (.inr ⟨z, rfl, fits_line hf, ?_⟩)
          rw [← cutD_s]
          exact p3.fin rp3 (.d (.str _))
      · exact p3.elim
    · exact p3.elim
end
end Ip

set_option linter.all false
set_option Elab.async false
set_option autoImplicit false
/-! Built-ins by their data, append, stores, f-strings. -/
namespace Ip
open PySem L2

section
variable {X : Cx} {G : Gb} {E : XK} {W : WX} {pos : Pos}

/-! ### built-ins -/
def prmOf : Prm → Value
  | .len => .builtin "len"
  | .abs => .builtin "abs"
  | .int => .type "int"
  | .str => .type "str"
  | .repr => .builtin "repr"
  | .sum => .builtin "sum"
  | .max1 => .builtin "max"
  | .min1 => .builtin "min"
  | .max2 => .builtin "max"
  | .min2 => .builtin "min"
  | .all => .builtin "all"
  | .any => .builtin "any"
def rPrm (G : Gb) (p : Prm) : List V → Hp → VK → Prop := fun vs H Q => ∃ ds c v, DRs G.K H NoB vs ds ∧ prmD p ds = some c ∧ scalV c = some v ∧ Q v H
theorem drs_ints {K : PySem.W.Frag} {H : Hp} {B : Addr → Prop} : ∀ {ds : List D} {xs : List V} {ns : List Int}, DRs K H B xs ds → intsOf ds = some ns → xs = ns.map V.int
  | [], _, _, .nil, e => by cases e; rfl
  | .int i :: r, _, _, .cons h t, e => by
    cases h
    unfold intsOf at e
    cases e2 : intsOf r with
    | none => rw [e2] at e; cases e
    | some ms =>
      rw [e2] at e
      cases e
      rw [drs_ints t e2]; rfl
  | .none :: _, _, _, _, e => by cases e
  | .bool _ :: _, _, _, _, e => by cases e
  | .str _ :: _, _, _, _, e => by cases e
  | .list _ :: _, _, _, _, e => by cases e
  | .tuple _ :: _, _, _, _, e => by cases e
  | .dict _ :: _, _, _, _, e => by cases e
theorem drs_bools {K : PySem.W.Frag} {H : Hp} {B : Addr → Prop} : ∀ {ds : List D} {xs : List V} {ns : List Bool}, DRs K H B xs ds → boolsOf ds = some ns → xs = ns.map V.bl
  | [], _, _, .nil, e => by cases e; rfl
  | .bool i :: r, _, _, .cons h t, e => by
    cases h
    unfold boolsOf at e
    cases e2 : boolsOf r with
    | none => rw [e2] at e; cases e
    | some ms =>
      rw [e2] at e
      cases e
      rw [drs_bools t e2]; rfl
  | .none :: _, _, _, _, e => by cases e
  | .int _ :: _, _, _, _, e => by cases e
  | .str _ :: _, _, _, _, e => by cases e
  | .list _ :: _, _, _, _, e => by cases e
  | .tuple _ :: _, _, _, _, e => by cases e
  | .dict _ :: _, _, _, _, e => by cases e
theorem sumI_eq : ∀ ns : List Int, sumI ns = ns.sum
  | [] => rfl
  | x :: r => by unfold sumI; rw [sumI_eq r, List.sum_cons]
theorem maxI_is : ∀ (m : Int) (r : List Int), maxI m r ∈ m :: r ∧ ∀ y ∈ m :: r, y ≤ maxI m r
  | m, [] => ⟨List.mem_cons_self, fun y hy => by simp at hy; subst hy; exact Int.le_refl _⟩
  | m, x :: r => by
    unfold maxI
    obtain ⟨h1, h2⟩ := maxI_is (if x > m then x else m) r
    constructor
    · rcases List.mem_cons.mp h1 with h | h
      · rw [h]; split
        · exact List.mem_cons_of_mem _ List.mem_cons_self
        · exact List.mem_cons_self
      · exact List.mem_cons_of_mem _ (List.mem_cons_of_mem _ h)
    · intro y hy
      have h3 := h2 _ List.mem_cons_self
      rcases List.mem_cons.mp hy with h | h
      · subst h; split at h3 <;> (split <;> omega)
      · rcases List.mem_cons.mp h with h | h
        · subst h; split at h3 <;> (split <;> omega)
        · exact h2 y (List.mem_cons_of_mem _ h)
theorem minI_is : ∀ (m : Int) (r : List Int), minI m r ∈ m :: r ∧ ∀ y ∈ m :: r, minI m r ≤ y
  | m, [] => ⟨List.mem_cons_self, fun y hy => by simp at hy; subst hy; exact Int.le_refl _⟩
  | m, x :: r => by
    unfold minI
    obtain ⟨h1, h2⟩ := minI_is (if x < m then x else m) r
    constructor
    · rcases List.mem_cons.mp h1 with h | h
      · rw [h]; split
        · exact List.mem_cons_of_mem _ List.mem_cons_self
        · exact List.mem_cons_self
      · exact List.mem_cons_of_mem _ (List.mem_cons_of_mem _ h)
    · intro y hy
      have h3 := h2 _ List.mem_cons_self
      rcases List.mem_cons.mp hy with h | h
      · subst h; split at h3 <;> (split <;> omega)
      · rcases List.mem_cons.mp h with h | h
        · subst h; split at h3 <;> (split <;> omega)
        · exact h2 y (List.mem_cons_of_mem _ h)
theorem drs1 {K : PySem.W.Frag} {H : Hp} {B : Addr → Prop} {vs : List V} {d : D} (h : DRs K H B vs [d]) : ∃ v, vs = [v] ∧ DR K H B v d := by
  cases h with
  | cons h t => cases t; exact ⟨_, rfl, h⟩
theorem drs2 {K : PySem.W.Frag} {H : Hp} {B : Addr → Prop} {vs : List V} {d e : D} (h : DRs K H B vs [d, e]) : ∃ v u, vs = [v, u] ∧ DR K H B v d ∧ DR K H B u e := by
  cases h with
  | cons h t =>
    cases t with
    | cons h2 t => cases t; exact ⟨_, _, rfl, h, h2⟩
section
open PySem.Spec PyProof.Rows
theorem sum_tup {prog : Program} {w : World} {A : Around} {E : Value → Shared → Prop} {s : Shared} {l : Addr} {its : List Value} {ns : List Int} {Q : Value → Shared → Prop} (hh : A.handled = none) (hl : IsTup s.heap l its.toArray) (hi : IntsAre its ns)
    (h : ∀ h' tk t', (∀ b o, s.heap.get? b = some o → h'.get? b = some o) → Q (.int ns.sum t') { s with heap := h', toks := tk }) : wpAny (model prog w) A (call (.builtin "sum") [.ref l]) Q E s := by
  obtain ⟨xs, e⟩ := hi.allInts.items
  have hn : numsOf (intItems xs).toList = ns := by rw [← e]; exact hi.numsOf
  rw [nums_intItems] at hn
  rw [e] at hl
  have hlt : l < s.heap.objs.size := hl.lt
  refine call_sum_walkG (iter_tuple hl ?_)
  refine ⟨_, _, _, _, _, _, numAt xs, rfl, Walks.tuple (A := A.in1) hh _ l (Nat.ne_of_lt hlt) (intItems xs), ⟨⟨_, Heap.get?_push_size _ rfl, rfl, rfl⟩, ?_⟩, fun b hb => ?_, (fun _ _ => intItems_at), fun h' tk t' hk => ?_⟩
  · obtain ⟨o, ho, r⟩ := hl
    exact ⟨o, Heap.get?_push_of_some _ ho, r⟩
  · rw [Heap.size_push]
    rcases List.mem_cons.mp hb with rfl | hb
    · exact Nat.lt_succ_self _
    · rw [List.mem_singleton.mp hb]; exact Nat.lt_succ_of_lt hlt
  · have := h h' tk t' fun b o e => hk b o (by rw [List.mem_singleton]; exact Nat.ne_of_lt (Heap.lt_size e)) (Heap.get?_push_of_some _ e)
    have e2 : preSum (numAt xs) (intItems xs).size = ns.sum := by
      rw [preSum_eq, List.take_of_length_le (by simp [intItems]), hn]
    rw [e2]; exact this
end
/-- where built-ins run -/
structure Calm (X : Cx) : Prop where
  calm : X.calm = true
  un : X.A.units + 100 < cLine
  gd : X.A.guards = some []
theorem repr_ok {H : Hp} {B : Addr → Prop} {x : D} {a : Addr} (c : Calm X) (hK : G.K = X.K) (d : DR G.K H B (.ref a) x) (h1 : x.showable = true) (h2 : x.hasDict = false) (h3 : x.depth ≤ 60) (h4 : x.shown.length ≤ sizeLine) {pins : List (Addr × Obj)} {s : Shared} {σ : L2.St} {Q : VK} (I : Inv X pins σ H s)
    (q : Q (.str x.shown) H) : wpAny (model X.prog X.w) X.A (call (.builtin "repr") [.ref a]) (EP X pins σ Q) X.xe s := by
  obtain ⟨as, r⟩ := Dp.reads I x (.ref a) (.ref a) (hK ▸ d.dp) rfl
  refine PySem.repr_of_reads' r h1 (fun z => by rw [h2] at z; cases z) c.gd (by have := c.un; omega) (fun _ _ e => e) (fun h' u tk hk => ?_) h4
  exact ⟨.str x.shown, H, I.kept hk, ⟨u, rfl⟩, q⟩
/-- built-ins that raise nothing on their way -/
def cool : Prm → Bool
  | .len => true
  | .abs => true
  | .int => true
  | .str => true
  | _ => false
theorem cr_prm (p : Prm) (c : cool p = false → Calm X) (hK : G.K = X.K) : CallR X (prmOf p) (rPrm G p) := by
  rintro pins s σ H xs us Q I r ⟨ds, cc, v, dr, e, sc, q⟩
  unfold prmD at e
  split at e
  · cases e; cases sc
    obtain ⟨y, rfl, d⟩ := drs1 dr
    cases d with
    | lst h t => exact call_len pins s σ H _ us Q I r ⟨_, _, rfl, .inl ⟨_, hK ▸ sql_of h, rfl⟩, by rw [t.length]; exact q⟩
  · cases e; cases sc
    obtain ⟨y, rfl, d⟩ := drs1 dr
    cases d with
    | tup h t => exact call_len pins s σ H _ us Q I r ⟨_, _, rfl, .inr ⟨_, hK ▸ h, rfl⟩, by rw [t.length]; exact q⟩
  · split at e
    · rename_i hf
      cases e; cases sc
      obtain ⟨y, rfl, d⟩ := drs1 dr
      cases d
      exact call_len pins s σ H _ us Q I r ⟨_, _, rfl, ⟨fits_line hf, rfl⟩, q⟩
    · cases e
  · cases e; cases sc
    obtain ⟨y, rfl, d⟩ := drs1 dr
    cases d
    exact call_abs pins s σ H _ us Q I r ⟨_, rfl, q⟩
  · cases e; cases sc
    obtain ⟨y, rfl, d⟩ := drs1 dr
    cases d
    exact call_int1 pins s σ H _ us Q I r (.inl ⟨_, rfl, q⟩)
  · cases e; cases sc
    obtain ⟨y, rfl, d⟩ := drs1 dr
    cases d
    exact call_int1 pins s σ H _ us Q I r (.inr ⟨_, rfl, q⟩)
  · split at e
    · rename_i hf
      cases e; cases sc
      obtain ⟨y, rfl, d⟩ := drs1 dr
      cases d
      exact call_str_int pins s σ H _ us Q I r ⟨_, rfl, hf, q⟩
    · cases e
  · split at e
    · rename_i hf
      simp only [Bool.and_eq_true, decide_eq_true_eq, Bool.not_eq_true'] at hf
      cases e; cases sc
      obtain ⟨y, rfl, d⟩ := drs1 dr
      cases d with
      | lst h t =>
        rw [Vals.ref1 r]
        exact repr_ok (c rfl) hK (.lst h t) hf.1.1.1 hf.1.1.2 hf.1.2 (fits_line hf.2) I q
    · cases e
  · split at e
    · rename_i hf
      simp only [Bool.and_eq_true, decide_eq_true_eq, Bool.not_eq_true'] at hf
      cases e; cases sc
      obtain ⟨y, rfl, d⟩ := drs1 dr
      cases d with
      | tup h t =>
        rw [Vals.ref1 r]
        exact repr_ok (c rfl) hK (.tup h t) hf.1.1.1 hf.1.1.2 hf.1.2 (fits_line hf.2) I q
    · cases e
  · rename_i ys
    cases e2 : intsOf ys with
    | none => rw [e2] at e; cases e
    | some ns =>
      rw [e2] at e
      cases e; cases sc
      obtain ⟨y, rfl, d⟩ := drs1 dr
      cases d with
      | lst h t =>
        cases drs_ints t e2
        exact cr_sum (c rfl).calm pins s σ H _ us Q I r ⟨_, ns, rfl, hK ▸ sql_of h, by rw [← sumI_eq]; exact q⟩
  · rename_i ys
    cases e2 : intsOf ys with
    | none => rw [e2] at e; cases e
    | some ns =>
      rw [e2] at e
      cases e; cases sc
      obtain ⟨y, rfl, d⟩ := drs1 dr
      cases d with
      | tup h t =>
        cases drs_ints t e2
        obtain ⟨its, rv, hl, _⟩ := I.tuple (hK ▸ h)
        rw [Vals.ref1 r]
        exact sum_tup (I.ok.hd (c rfl).calm) hl rv.ints fun h' tk t' hk => ⟨.int _, H, I.kept hk, ⟨_, rfl⟩, by rw [← sumI_eq]; exact q⟩
  · split at e
    · rename_i ys n ns e2
      cases e; cases sc
      obtain ⟨y, rfl, d⟩ := drs1 dr
      cases d with
      | lst h t =>
        cases drs_ints t e2
        refine cr_max (c rfl).calm pins s σ H _ us Q I r ⟨_, n :: ns, rfl, hK ▸ sql_of h, Nat.succ_pos _, fun m h1 h2 => ?_⟩
        obtain ⟨h3, h4⟩ := maxI_is n ns
        have : m = maxI n ns := Int.le_antisymm (h4 m h1) (h2 _ h3)
        subst this; exact q
    · cases e
  · split at e
    · rename_i ys n ns e2
      cases e; cases sc
      obtain ⟨y, rfl, d⟩ := drs1 dr
      cases d with
      | lst h t =>
        cases drs_ints t e2
        refine cr_min (c rfl).calm pins s σ H _ us Q I r ⟨_, n :: ns, rfl, hK ▸ sql_of h, Nat.succ_pos _, fun m h1 h2 => ?_⟩
        obtain ⟨h3, h4⟩ := minI_is n ns
        have : m = minI n ns := Int.le_antisymm (h2 _ h3) (h4 m h1)
        subst this; exact q
    · cases e
  · cases e; cases sc
    obtain ⟨y, z, rfl, d1, d2⟩ := drs2 dr
    cases d1; cases d2
    exact call_max2 (c rfl).calm pins s σ H _ us Q I r ⟨_, _, rfl, q⟩
  · cases e; cases sc
    obtain ⟨y, z, rfl, d1, d2⟩ := drs2 dr
    cases d1; cases d2
    exact call_min2 (c rfl).calm pins s σ H _ us Q I r ⟨_, _, rfl, q⟩
  · rename_i ys
    cases e2 : boolsOf ys with
    | none => rw [e2] at e; cases e
    | some ns =>
      rw [e2] at e
      cases e; cases sc
      obtain ⟨y, rfl, d⟩ := drs1 dr
      cases d with
      | lst h t =>
        cases drs_bools t e2
        exact cr_all (c rfl).calm pins s σ H _ us Q I r ⟨_, ns, rfl, hK ▸ sql_of h, q⟩
  · rename_i ys
    cases e2 : boolsOf ys with
    | none => rw [e2] at e; cases e
    | some ns =>
      rw [e2] at e
      cases e; cases sc
      obtain ⟨y, rfl, d⟩ := drs1 dr
      cases d with
      | lst h t =>
        cases drs_bools t e2
        exact cr_any (c rfl).calm pins s σ H _ us Q I r ⟨_, ns, rfl, hK ▸ sql_of h, q⟩
  · cases e
theorem prmD_scal {p : Prm} {ds : List D} {c : D} (h : prmD p ds = some c) : ∃ v, scalV c = some v := by
  unfold prmD at h
  split at h <;> (try split at h) <;> first
    | (cases h; exact ⟨_, rfl⟩)
    | cases h
    | (rename_i ys; cases e2 : intsOf ys with | none => rw [e2] at h; cases h | some ns => rw [e2] at h; cases h; exact ⟨_, rfl⟩)
    | (rename_i ys; cases e2 : boolsOf ys with | none => rw [e2] at h; cases h | some ns => rw [e2] at h; cases h; exact ⟨_, rfl⟩)
theorem postP {Av : Addr → Prop} {s : S3} {p : Prm} {vs : List Val} {xs : List V} {Q : VK} (rp : RepH G Av s) (q : VRs G Av s vs xs) (po : Post G E Av s (fun v y s' => VR G Av s' v y) (prmV p vs s.h) Q) : rPrm G p xs s.H Q := by
  unfold prmV at po
  split at po
  · rename_i ds e1
    split at po
    · rename_i c e2
      obtain ⟨v, sc⟩ := prmD_scal e2
      exact ⟨ds, c, v, pks_dr rp q e1, e2, sc, po.fin rp (.d (scal_dr sc))⟩
    · exact po.elim
  · exact po.elim
theorem ip_prmB {p : Prm} {id : String} {x : Str} {px : Pos} {e : Expr} {es : List Expr} {ms : Sg → Hq → R (List Val)} (c : cool p = false → Calm X) (hK : G.K = X.K) (hp : prmOf p = .builtin id) (hg : Gl X x) (hm : X.mg x = none) (hv : bootBuiltins x = some (.builtin id)) (ha : PA X (e :: es) (tA G W ms)) (hn : x ≠ "__name__")
    (hdb : (x == ("__debug__" : Str)) = false) (he : starEach (e :: es) X.env = (false, eval e X.env) :: starEach es X.env) (hpl : (backTo pos (starEach es X.env)).any (·.1) = false) :
    PE X (.Call (.Name x px) (e :: es) [] pos) (tE G W fun σ h => (ms σ h).bind fun vs h1 => prmV p vs h1) := by
  refine (pe_callB (r := rPrm G p) (by rw [← hp]; exact cr_prm p c hK) hg hm hv ha hn hdb he hpl).imp fun τ H Q ⟨Av, s, σ, hH, rp, sr, po⟩ => ?_
  subst hH
  exact tA_bind rp sr po fun vs ys s1 rp1 st1 sr1 q1 p1 => postP rp1 q1 p1
theorem ip_prmT {p : Prm} {id : String} {x : Str} {px : Pos} {e : Expr} {es : List Expr} {ms : Sg → Hq → R (List Val)} (c : cool p = false → Calm X) (hK : G.K = X.K) (hp : prmOf p = .type id) (hg : Gl X x) (hm : X.mg x = none) (hv : bootBuiltins x = some (.type id)) (ha : PA X (e :: es) (tA G W ms)) (hn : x ≠ "__name__")
    (hdb : (x == ("__debug__" : Str)) = false) (he : starEach (e :: es) X.env = (false, eval e X.env) :: starEach es X.env) (hpl : (backTo pos (starEach es X.env)).any (·.1) = false) :
    PE X (.Call (.Name x px) (e :: es) [] pos) (tE G W fun σ h => (ms σ h).bind fun vs h1 => prmV p vs h1) := by
  refine (pe_callTy (r := rPrm G p) (by rw [← hp]; exact cr_prm p c hK) hg hm hv ha hn hdb he hpl).imp fun τ H Q ⟨Av, s, σ, hH, rp, sr, po⟩ => ?_
  subst hH
  exact tA_bind rp sr po fun vs ys s1 rp1 st1 sr1 q1 p1 => postP rp1 q1 p1

/-! ### an object written -/
theorem RepH.write {Av : Addr → Prop} {s : S3} (rp : RepH G Av s) {n : Nat} {a : Addr} {ws vs : List Val} {zs xs : List V} (hn : s.r[n]? = some a) (hl : s.h[n]? = some (.lst ws)) (hH : s.H a = some (.lst zs)) (q : VRs G Av s vs xs) :
    RepH G Av ⟨s.r, s.h.set n (.lst vs), upd s.H a (.lst xs)⟩ ∧ Stp s ⟨s.r, s.h.set n (.lst vs), upd s.H a (.lst xs)⟩ := by
  have hnl : n < s.h.length := lt_of_get hl
  have lv : ∀ m, live (s.h.set n (.lst vs)) m → live s.h m := fun m ⟨us, e, ha⟩ => by
    by_cases hmn : n = m
    · subst hmn; exact ⟨_, hl, rfl⟩
    · rw [List.getElem?_set_ne hmn] at e; exact ⟨us, e, ha⟩
  have st : Stp s ⟨s.r, s.h.set n (.lst vs), upd s.H a (.lst xs)⟩ :=
    ⟨List.prefix_refl _, fun m _ h => lv m h, fr_upd_live hH (fun _ z => by cases z) (fun _ _ z => by cases z) ⟨n, hn, _, hl, rfl⟩, fun _ h => .inl h⟩
  refine ⟨⟨by rw [List.length_set]; exact rp.len, rp.nd, fun m b o e1 e2 => ?_, fun b z => st.fr.there b (rp.av b z), rp.dis, fun b z => st.fr.there b (rp.trk b z), tabs_upd rp.tabs (.inr ⟨_, hH, fun _ z => (by cases z), fun _ z => (by unfold LamX.CodeO at z; cases z)⟩)⟩, st⟩
  by_cases hmn : n = m
  · subst hmn
    have e2 : (s.h.set n (.lst vs))[n]? = some o := e2
    rw [List.getElem?_set_self hnl] at e2
    cases e2
    have e1 : s.r[n]? = some b := e1
    rw [hn] at e1; cases e1
    exact ⟨xs, upd_same, st.vrs rp.nd q⟩
  · have e2 : (s.h.set n (.lst vs))[m]? = some o := e2
    rw [List.getElem?_set_ne hmn] at e2
    have q2 := rp.obj m b o e1 e2
    cases o with
    | lst us =>
      obtain ⟨ys, h1, h2⟩ := q2
      have : b ≠ a := fun z => by subst z; exact hmn (nd_get rp.nd hn e1)
      exact ⟨ys, (upd_ne this).trans h1, st.vrs rp.nd h2⟩
    | dead x => exact st.dr rp.nd q2
    | dct c =>
      obtain ⟨ob, h1, h2⟩ := q2
      have : b ≠ a := fun z => by subst z; exact hmn (nd_get rp.nd hn e1)
      exact ⟨ob, (upd_ne this).trans h1, h2.map (st.vr rp.nd) st.fr.sqt⟩
    | tx ds => exact tx_step st rp.nd q2
    | dl kvs => exact dl_step st rp.nd q2
/-! ### o.append(a) -/
theorem ip_app {o a : Expr} {apos : Pos} {mo ma : Sg → Hq → R Val} (hK : G.K = X.K) (ho : PE X o (tE G W mo)) (ha : PE X a (tE G W ma)) (hbase : attributeBase o "append" X.env (eval o X.env) = eval o X.env)
    (hst : starEach [a] X.env = [(false, eval a X.env)]) (hline : (apos.endLine == pos.line) = true) :
    PE X (.Call (.Attribute o "append" apos) [a] [] pos) (tE G W fun σ h => (mo σ h).bind fun x h1 => (lstV x h1).bind fun _ h1 => (ma σ h1).bind fun y h2 => appV x y h2) := by
  have hst' : starEach [a] X.env = (false, eval a X.env) :: starEach [] X.env := by rw [hst]; rfl
  refine (pe_bm (T := "list") PySem.F.plainAttrs_list PySem.F.slot_list_append PySem.F.type_list_append mt_append ho (ia_cons (G := G) (W := W) ha ia_nil hst') hbase (by rw [hst]; rfl) hline hst' (by rfl)).imp fun τ H Q ⟨Av, s, σ, hH, rp, sr, p⟩ => ?_
  subst hH
  refine tE_bind rp sr p fun x y s1 rp1 st1 sr1 q1 p1 => ?_
  unfold lstV at p1
  split at p1
  · rename_i n
    split at p1
    · rename_i ws hl
      cases q1 with
      | ref hn =>
        rename_i b
        obtain ⟨zs, hH1, hv⟩ := rp1.obj n b _ hn hl
        refine ⟨.inl ⟨rfl, zs, hK ▸ .inl (.inl hH1)⟩, ?_⟩
        have p2 : Post G (We W τ) Av s1 (fun v y s' => VR G Av s' v y) ((((ma σ s1.h).bind fun v h1 => (R.ok ([] : List Val) h1).bind fun vs h2 => R.ok (v :: vs) h2)).bind fun vs h2 => match vs with | [y] => appV (.ref n) y h2 | _ => .no) Q := by
          have e : (((ma σ s1.h).bind fun v h1 => (R.ok ([] : List Val) h1).bind fun vs h2 => R.ok (v :: vs) h2)).bind (fun vs h2 => match vs with | [y] => appV (.ref n) y h2 | _ => .no) = (ma σ s1.h).bind fun y h2 => appV (.ref n) y h2 := by
            simp only [R.bind_assoc, R.bind_ok]
          rw [e]; exact p1
        refine tA_bind (m := fun σ h => (ma σ h).bind fun v h1 => (R.ok ([] : List Val) h1).bind fun vs h2 => R.ok (v :: vs) h2) rp1 sr1 p2 fun vs ys s2 rp2 st2 sr2 q2 p3 => ?_
        cases q2 with
        | nil => exact p3.elim
        | cons h t =>
          cases t with
          | cons _ _ => exact p3.elim
          | nil =>
            rename_i v z
            have p3 : Post G _ Av s2 (fun v y s' => VR G Av s' v y) (appV (.ref n) v s2.h) Q := p3
            unfold appV at p3
            simp only at p3
            split at p3
            · rename_i us hl2
              split at p3
              · rename_i hf
                have hn2 := pre_get st2.pre hn
                obtain ⟨ts, hH2, hv2⟩ := rp2.obj n b _ hn2 hl2
                obtain ⟨rp3, st3⟩ := rp2.write hn2 hl2 hH2 (hv2.append (.cons h .nil))
                refine ⟨b, ts, z, rfl, rfl, hH2, by rw [← hv2.length, sizeLine_eq]; exact hf, ?_⟩
                exact p3 ⟨s2.r, s2.h.set n (.lst (us ++ [v])), upd s2.H b (.lst (ts ++ [z]))⟩ .non rfl rp3 st3 (.d .non)
              · exact p3.elim
            · exact p3.elim
    · exact p1.elim
  · exact p1.elim
end
end Ip

set_option linter.all false
set_option Elab.async false
set_option autoImplicit false
/-! list(x), tuple(x), tuples joined and repeated, pop. -/
namespace Ip
open PySem L2
section
variable {X : Cx} {G : Gb} {E : XK} {W : WX} {pos : Pos}
theorem il_lst {e : Expr} {px : Pos} {m : Sg → Hq → R Val} (hK : G.K = X.K) (hg : Gl X "list") (hm : X.mg "list" = none) (ha : PE X e (tE G W m)) (st : starEach [e] X.env = (false, eval e X.env) :: starEach [] X.env) :
    PE X (.Call (.Name "list" px) [e] [] pos) (tL G W fun σ h => (m σ h).bind fun x h1 => match els h1 x with
    | some vs => .ok vs h1
    | none => .no) := by
  refine (pe_callTy call_list_of hg hm (by decide +kernel) (ia_cons (G := G) (W := W) ha ia_nil st) (by decide) (by decide) st (by rfl)).imp fun τ H Q ⟨Av, s, σ, hH, rp, sr, p⟩ => ?_
  subst hH
  refine ⟨Av, s, σ, rfl, rp, sr, ?_⟩
  revert p
  show Post G (We W τ) Av s (LR G Av s) ((m σ s.h).bind _) Q → Post G (We W τ) Av s _ ((m σ s.h).bind _) _
  cases m σ s.h with
  | no => exact fun p => p
  | er e h => exact fun p => p
  | ok v h1 =>
    intro p s1 ys e1 rp1 st1 q1
    subst e1
    cases q1 with
    | cons q t =>
      cases t
      have p : Post G (We W τ) Av s (LR G Av s) (match els s1.h v with
        | some vs => .ok vs s1.h
        | none => .no) Q := p
      cases e : els s1.h v with
      | none => rw [e] at p; exact p.elim
      | some vs =>
        rw [e] at p
        obtain ⟨a, xs, rfl, hq, hv⟩ := els_ok rp1 q e
        rw [hK] at hq
        refine ⟨a, xs, rfl, hq, fun l hl => ?_⟩
        obtain ⟨lr, rp2, st2⟩ := lr_new rp1 st1 hv hl
        exact p ⟨s1.r, s1.h, upd s1.H l (.lst xs)⟩ (.ref l) rfl rp2 st2 lr
/-- an argument's value, as a call has it -/
theorem one_bind {τ : L2.St} {m : Sg → Hq → R Val} {f : Val → Hq → R Val} {Q : VK} {Q' : List V → Hp → Prop} {Av : Addr → Prop} {s : S3} {σ : Sg} (rp : RepH G Av s) (sr : SR G Av s σ τ) (p : Post G (We W τ) Av s (fun v y s' => VR G Av s' v y) ((m σ s.h).bind f) Q)
    (h : ∀ (v : Val) (y : V) (s1 : S3), RepH G Av s1 → Stp s s1 → VR G Av s1 v y → Post G (We W τ) Av s1 (fun v y s' => VR G Av s' v y) (f v s1.h) Q → Q' [y] s1.H) :
    tA G W (fun σ h => (m σ h).bind fun v h1 => (R.ok ([] : List Val) h1).bind fun vs h2 => .ok (v :: vs) h2) τ s.H Q' := by
  have p' : Post G (We W τ) Av s (fun v y s' => VR G Av s' v y) (((m σ s.h).bind fun v h1 => (R.ok ([] : List Val) h1).bind fun vs h2 => .ok (v :: vs) h2).bind fun vs h2 => match vs with | [v] => f v h2 | _ => .no) Q := by
    have e : ((m σ s.h).bind fun v h1 => (R.ok ([] : List Val) h1).bind fun vs h2 => R.ok (v :: vs) h2).bind (fun vs h2 => match vs with | [v] => f v h2 | _ => R.no) = (m σ s.h).bind f := by
      simp only [R.bind_assoc, R.bind_ok]
    rw [e]; exact p
  refine tA_bind (m := fun σ h => (m σ h).bind fun v h1 => (R.ok ([] : List Val) h1).bind fun vs h2 => .ok (v :: vs) h2) rp sr p' fun vs ys s1 rp1 st1 sr1 q1 p1 => ?_
  cases q1 with
  | nil => exact p1.elim
  | cons q t =>
    cases t with
    | nil => exact h _ _ s1 rp1 st1 q p1
    | cons _ _ => exact p1.elim
theorem ip_tupO {e : Expr} {px : Pos} {m : Sg → Hq → R Val} (hK : G.K = X.K) (hg : Gl X "tuple") (hm : X.mg "tuple" = none) (ha : PE X e (tE G W m)) (st : starEach [e] X.env = (false, eval e X.env) :: starEach [] X.env) :
    PE X (.Call (.Name "tuple" px) [e] [] pos) (tE G W fun σ h => (m σ h).bind fun x h1 => tupV x h1) := by
  refine (pe_callTy call_tuple_of hg hm (by decide +kernel) (ia_cons (G := G) (W := W) ha ia_nil st) (by decide) (by decide) st (by rfl)).imp fun τ H Q ⟨Av, s, σ, hH, rp, sr, p⟩ => ?_
  subst hH
  refine one_bind rp sr p fun v y s1 rp1 st1 q1 p1 => ?_
  unfold tupV at p1
  split at p1
  · rename_i xs
    cases q1 with
    | d q =>
      cases q with
      | tup h t => exact ⟨_, _, rfl, .inr ⟨hK ▸ h, p1.fin rp1 (.d (.tup h t))⟩⟩
  · split at p1
    · rename_i vs hv
      obtain ⟨a, xs, rfl, hq, q⟩ := elsL_ok rp1 q1 hv
      obtain ⟨ds, h', r2, t2, d2, p2⟩ := Post.toDs rp1 q p1
      exact ⟨a, xs, rfl, .inl ⟨hK ▸ hq, fun l hl => Post.newT r2 d2 p2 hl⟩⟩
    · exact p1.elim
theorem DRs.append {K : PySem.W.Frag} {H : Hp} {B : Addr → Prop} : ∀ {xs ys : List V} {ds es : List D}, DRs K H B xs ds → DRs K H B ys es → DRs K H B (xs ++ ys) (ds ++ es)
  | _, _, _, _, .nil, q => q
  | _, _, _, _, .cons h t, q => .cons h (DRs.append t q)
theorem DRs.rep {K : PySem.W.Frag} {H : Hp} {B : Addr → Prop} {xs : List V} {ds : List D} (h : DRs K H B xs ds) : ∀ n : Nat, DRs K H B (List.replicate n xs).flatten (List.replicate n ds).flatten
  | 0 => .nil
  | n + 1 => by
    rw [List.replicate_succ, List.replicate_succ, List.flatten_cons, List.flatten_cons]
    exact h.append (DRs.rep h n)
theorem cat_r {Av : Addr → Prop} {s2 : S3} {v w : Val} {y z : V} {Q : VK} (hK : G.K = X.K) (rp2 : RepH G Av s2) (q1 : VR G Av s2 v y) (q2 : VR G Av s2 w z) (p2 : Post G E Av s2 (fun v y s' => VR G Av s' v y) (catV v w s2.h) Q) : rCatA X.K y z s2.H Q := by
  unfold catV at p2
  split at p2
  · split at p2
    · rename_i xs ys hf
      cases q1 with
      | d q1 =>
        cases q1 with
        | @tup a1 vs _ h1 t1 =>
          cases q2 with
          | d q2 =>
            cases q2 with
            | @tup a2 ws _ h2 t2 =>
              refine ⟨a1, a2, vs, ws, rfl, rfl, hK ▸ h1, hK ▸ h2, by rw [t1.length, t2.length]; exact fits_line hf, fun e => ?_, fun e1 e2 => ?_, fun _ _ p hp => ?_⟩
              · subst e
                cases t1
                exact p2.fin rp2 (.d (.tup h2 t2))
              · subst e2
                cases t2
                rw [List.append_nil] at p2
                exact p2.fin rp2 (.d (.tup h1 t1))
              · exact Post.newT rp2 (t1.append t2) p2 hp
    · exact p2.elim
  · exact p2.elim
section
open PySem.Spec PyProof.Rows
theorem tuple_mul1W (l : Addr) (items : Array Value) (n : Nat) (dd : Option Addr) (sl : Array (Option Value)) (u : Tok) :
    Meets (Builtin.«tuple.__mul__» ⟨[.ref l, .int 1 u], []⟩) (fun _ R s => s.heap.get? l = some { cls := .type "tuple", dict := dd, data := .seq items n, slots := sl } ∧ R (.ok (.ret (Value.ref l))) s) :=
  .of_wp fun prog w A R s h => by
    obtain ⟨hp, g, d, tk, os⟩ := s
    obtain ⟨hl, h⟩ := h
    have f1 := AutoSeq1.idx_int
    have c1 : (items.isEmpty || (1 : Int) == 1) = true := by simp
    wp_walk using wpAny_loadPart' hl
    exact ⟨_, rfl, h⟩
def rRep1 (K : PySem.W.Frag) : R2 := fun x y H Q => ∃ l xs, x = .ref l ∧ y = .int 1 ∧ SqT K H l xs ∧ Q (.ref l) H
theorem op_rep1 : OpR X (binaryOp .Mult) (rRep1 X.K) := by
  rintro pins s σ H x y v u Q I rx ry ⟨l, xs, rfl, rfl, hT, q⟩
  cases rx
  obtain ⟨t, rfl⟩ := ry
  obtain ⟨its, r, ⟨⟨cls, dd, data, sl⟩, ho, hc, n, hd⟩, hs⟩ := I.tuple hT
  simp only at hc hd
  subst hc hd
  exact wpAny_binaryOp_repeat_ref (T := "tuple") (U := "int") (by decide) ⟨_, ho, rfl⟩ (fun s' => typeIs_int s' 1 t) noFill_tuple_mul PySem.F.fills_int_mul PySem.F.slot_int_rmul repeat_tuple PySem.F.slot_int_index.lookup
    (call_meets PySem.F.slot_int_rmul (typeIs_int s 1 t) PySem.F.entry_int_rmul (PySem.F.args_int_rmul_2 _ _) (int_rmul_tuple 1 t l its.toArray n dd sl)
      ⟨ho, rfl, ⟨_, ho, rfl⟩, call_meets PySem.F.slot_tuple_mul ⟨_, ho, rfl⟩ PySem.F.entry_tuple_mul (PySem.F.args_tuple_mul_2 _ _) (tuple_mul1W l its.toArray n dd sl t) ⟨ho, ⟨.ref l, H, I, rfl, q⟩⟩⟩)
end
theorem rep_r {Av : Addr → Prop} {s2 : S3} {v w : Val} {y z : V} {Q : VK} (hK : G.K = X.K) (rp2 : RepH G Av s2) (r1 : VR G Av s2 v y) (q2 : VR G Av s2 w z) (p2 : Post G E Av s2 (fun v y s' => VR G Av s' v y) (repV v w s2.h) Q) : rRepT X.K y z s2.H Q ∨ rRep1 X.K y z s2.H Q := by
  unfold repV at p2
  split at p2
  · split at p2
    · rename_i xs k hk
      subst hk
      cases r1 with
      | d r1 =>
        cases r1 with
        | @tup a1 vs _ h t =>
          cases q2 with
          | d q2 =>
            cases q2
            exact .inr ⟨a1, vs, rfl, rfl, hK ▸ h, p2.fin rp2 (.d (.tup h t))⟩
    split at p2
    · rename_i xs k _ hf
      simp only [Bool.and_eq_true, decide_eq_true_eq, Bool.not_eq_true'] at hf
      obtain ⟨⟨⟨h1, h2⟩, h3⟩, h4⟩ := hf
      have h3 := lt_of_log2 h3
      cases r1 with
      | d r1 =>
        cases r1 with
        | @tup a1 vs _ h t =>
          cases q2 with
          | d q2 =>
            cases q2
            refine .inl ⟨a1, k, vs, rfl, rfl, hK ▸ h, fun e => ?_, h4, by omega, by rw [t.length]; exact h2, fun p hp => Post.newT rp2 (t.rep _) p2 hp⟩
            subst e
            cases t
            simp at h1
    · exact p2.elim
  · exact p2.elim
theorem op_binA (o : Bop) : OpR X (binaryOp (opOf o)) (fun x y H Q => rBin G o x y H Q ∨ (o = .add ∧ rCatA X.K x y H Q) ∨ (o = .mul ∧ (rRepT X.K x y H Q ∨ rRep1 X.K x y H Q))) := fun pins s σ H x y v u Q I rx ry h => by
  rcases h with h | ⟨rfl, h⟩ | ⟨rfl, h⟩
  · exact op_bin o pins s σ H x y v u Q I rx ry h
  · exact op_catA pins s σ H x y v u Q I rx ry h
  · exact (op_repT.or op_rep1) pins s σ H x y v u Q I rx ry h
theorem ip_binA {a b : Expr} {ma mb : Sg → Hq → R Val} (o : Bop) (hK : G.K = X.K) (ha : PE X a (tE G W ma)) (hb : PE X b (tE G W mb)) :
    PE X (.BinOp a (opOf o) b pos) (tE G W fun σ h => (ma σ h).bind fun x h1 => (mb σ h1).bind fun y h2 => binA o x y h2) := by
  refine (pe_op (op_binA (G := G) o) ha hb).imp fun τ H Q ⟨Av, s, σ, hH, rp, sr, p⟩ => ?_
  subst hH
  refine tE_bind rp sr p fun v y s1 rp1 st1 sr1 q1 p1 => ?_
  refine tE_bind rp1 sr1 p1 fun w z s2 rp2 st2 sr2 q2 p2 => ?_
  have r1 := st2.vr rp2.nd q1
  unfold binA at p2
  cases e : binV o v w s2.h with
  | ok c h => rw [e] at p2; exact .inl (post2 rp2 r1 q2 (by rw [e]; exact p2))
  | er c h => rw [e] at p2; exact .inl (post2 rp2 r1 q2 (by rw [e]; exact p2))
  | no =>
    rw [e] at p2
    cases o with
    | add => exact .inr (.inl ⟨rfl, cat_r hK rp2 r1 q2 p2⟩)
    | mul => exact .inr (.inr ⟨rfl, rep_r hK rp2 r1 q2 p2⟩)
    | sub => exact p2.elim
    | fdiv => exact p2.elim
    | mod => exact p2.elim
    | pow => exact p2.elim
theorem ip_pop {o : Expr} {apos : Pos} {mo : Sg → Hq → R Val} (hK : G.K = X.K) (ho : PE X o (tE G W mo)) (hbase : attributeBase o "pop" X.env (eval o X.env) = eval o X.env) (hline : (apos.endLine == pos.line) = true) :
    PE X (.Call (.Attribute o "pop" apos) [] [] pos) (tE G W fun σ h => (mo σ h).bind fun x h1 => popV x h1) := by
  refine (pe_bm0 (T := "list") PySem.F.plainAttrs_list PySem.F.slot_list_pop PySem.F.type_list_pop mt_pop ho hbase hline).imp fun τ H Q ⟨Av, s, σ, hH, rp, sr, p⟩ => ?_
  subst hH
  refine tE_bind rp sr p fun x y s1 rp1 st1 sr1 q1 p1 => ?_
  unfold popV at p1
  split at p1
  · rename_i n
    split at p1
    · rename_i ws hl
      split at p1
      · rename_i v hv
        cases q1 with
        | ref hn =>
          rename_i b
          obtain ⟨zs, hH1, hz⟩ := rp1.obj n b _ hn hl
          refine ⟨.inl ⟨rfl, zs, hK ▸ .inl (.inl hH1)⟩, ?_⟩
          rw [List.getLast?_eq_getElem?] at hv
          obtain ⟨w, hw, qw⟩ := hz.get hv
          have hd : VRs G Av s1 ws.dropLast zs.dropLast := by
            rw [List.dropLast_eq_take, List.dropLast_eq_take, ← hz.length]
            exact hz.take _
          obtain ⟨rp3, st3⟩ := rp1.write hn hl hH1 hd
          refine ⟨b, zs, w, rfl, rfl, hH1, by rw [← hz.length]; exact hw, ?_⟩
          exact p1 ⟨s1.r, s1.h.set n (.lst ws.dropLast), upd s1.H b (.lst zs.dropLast)⟩ w rfl rp3 st3 (st3.vr rp3.nd qw)
      · exact p1.elim
    · exact p1.elim
  · exact p1.elim
end
end Ip

set_option linter.all false
set_option Elab.async false
set_option autoImplicit false
/-! Lists joined and repeated. -/
namespace Ip
open PySem L2 PyProof.Rows
section
variable {X : Cx} {G : Gb} {E : XK} {W : WX} {pos : Pos}
theorem okRng_c0 {i : Int} (h : okRng i = true) : -(2 ^ 62) ≤ i ∧ i < 2 ^ 62 := by
  have h := lt_of_log2 (of_decide_eq_true h)
  omega
def rCatL (K : PySem.W.Frag) : R2 := fun x y H Q => ∃ a b xs ys, x = .ref a ∧ y = .ref b ∧ SqL K H a xs ∧ SqL K H b ys ∧ xs.length + ys.length ≤ sizeLine ∧ ∀ p, H p = none → Q (.ref p) (upd H p (.lst (xs ++ ys)))
theorem op_catL : OpR X (binaryOp .Add) (rCatL X.K) := by
  rintro pins s σ H x y v u Q I rx ry ⟨a, b, xs, ys, rfl, rfl, h1, h2, hz, q⟩
  cases rx; cases ry
  obtain ⟨is, r1, ⟨⟨c1, d1, t1, l1⟩, n1, e1, ec1, ed1, et1⟩, _⟩ := I.list h1
  obtain ⟨js, r2, ⟨⟨c2, d2, t2, l2⟩, n2, e2, ec2, ed2, et2⟩, _⟩ := I.list h2
  simp only at ec1 ed1 et1 ec2 ed2 et2
  subst ec1 ed1 et1 ec2 ed2 et2
  have z1 := r1.length
  have z2 := r2.length
  refine concat_meets ⟨_, e1, rfl⟩ ⟨_, e2, rfl⟩ noFill_list_add seq_list_add PySem.F.slot_list_add PySem.F.entry_list_add (PySem.F.args_list_add_2 _ _) (list_addW a b is.toArray js.toArray n1 n2 none none l1 l2 (by simp only [List.size_toArray]; omega)) ⟨e1, e2, ?_⟩
  have ea : is.toArray ++ js.toArray = (is ++ js).toArray := by simp
  rw [ea]
  exact ⟨.ref _, _, I.lnew (t' := s.toks) (r1.append r2) (by rw [List.length_append]; omega), rfl, q _ I.fresh⟩
theorem il_cat {a b : Expr} {ma mb : Sg → Hq → R Val} (hK : G.K = X.K) (ha : PE X a (tE G W ma)) (hb : PE X b (tE G W mb)) :
    PE X (.BinOp a .Add b pos) (tL G W fun σ h => (ma σ h).bind fun x h1 => (mb σ h1).bind fun y h2 => catL x y h2) := by
  refine (pe_op op_catL ha hb).imp fun τ H Q ⟨Av, s, σ, hH, rp, sr, p⟩ => ?_
  subst hH
  refine tE_bind rp sr p fun v y s1 rp1 st1 sr1 q1 p1 => ?_
  refine tE_bind rp1 sr1 p1 fun w z s2 rp2 st2 sr2 q2 p2 => ?_
  have q1 := st2.vr rp2.nd q1
  unfold catL at p2
  split at p2
  · rename_i vs ws e1 e2
    split at p2
    · rename_i hf
      obtain ⟨a1, xs, rfl, h1, t1⟩ := elsL_ok rp2 q1 e1
      obtain ⟨a2, ys, rfl, h2, t2⟩ := elsL_ok rp2 q2 e2
      refine ⟨a1, a2, xs, ys, rfl, rfl, hK ▸ h1, hK ▸ h2, by rw [← t1.length, ← t2.length]; exact fits_line hf, fun p hp => ?_⟩
      have lr := (lr_new rp2 (st1.trans st2 rp1.nd rp1.len) (t1.append t2) hp).1
      obtain ⟨rp3, st3⟩ := rp2.upd_new (o := .lst (xs ++ ys)) hp
      exact p2 ⟨s2.r, s2.h, upd s2.H p (.lst (xs ++ ys))⟩ (.ref p) rfl rp3 st3 lr
    · exact p2.elim
  · exact p2.elim
theorem VRs.rep {Av : Addr → Prop} {s : S3} {vs : List Val} {xs : List V} (h : VRs G Av s vs xs) : ∀ n : Nat, VRs G Av s (List.replicate n vs).flatten (List.replicate n xs).flatten
  | 0 => .nil
  | n + 1 => by
    rw [List.replicate_succ, List.replicate_succ, List.flatten_cons, List.flatten_cons]
    exact h.append (VRs.rep h n)
theorem il_rep {l b : Expr} {ml : Sg → Hq → R (List Val)} {mb : Sg → Hq → R Val} (hl : PE X l (tL G W ml)) (hb : PE X b (tE G W mb)) :
    PE X (.BinOp l .Mult b pos) (tL G W fun σ h => (ml σ h).bind fun vs h1 => (mb σ h1).bind fun y h2 => repL vs y h2) := by
  refine (pe_op op_rep hl hb).imp fun τ H Q ⟨Av, s, σ, hH, rp, sr, p⟩ => ?_
  subst hH
  refine tL_bind rp sr p fun vs y s1 rp1 st1 sr1 lr p1 => ?_
  obtain ⟨a, xs, rfl, ha, rpA, hx, hv⟩ := lr
  refine tE_bind rp1 sr1 p1 fun w z s2 rp2 st2 sr2 q2 p2 => ?_
  have hv2 := st2.vrs rp2.nd (hv.less fun a z => .inl z)
  have hx2 : s2.H a = some (.lst xs) := st2.fr.keep a _ hx (fun ⟨n, e, _⟩ => rpA.dis a (.inr rfl) (List.mem_of_getElem? e)) (fun ps z => by cases z)
  unfold repL at p2
  split at p2
  · rename_i k
    split at p2
    · rename_i hf
      simp only [Bool.and_eq_true] at hf
      obtain ⟨h1, h2⟩ := okRng_c0 hf.1
      cases q2 with
      | d q2 =>
        cases q2
        refine ⟨a, k, xs, rfl, rfl, hx2, by omega, by omega, by rw [← hv2.length]; exact fits_line hf.2, fun p hp => ?_⟩
        have lr := (lr_new rp2 (st1.trans st2 rp1.nd rp1.len) (hv2.rep k.toNat) hp).1
        obtain ⟨rp3, st3⟩ := rp2.upd_new (o := .lst (List.replicate k.toNat xs).flatten) hp
        exact p2 ⟨s2.r, s2.h, upd s2.H p (.lst (List.replicate k.toNat xs).flatten)⟩ (.ref p) rfl rp3 st3 lr
    · exact p2.elim
  · exact p2.elim
end
end Ip

set_option linter.all false
set_option Elab.async false
set_option autoImplicit false
/-! extend, divmod, tuple.index, len(set(..)), dicts made. -/
namespace Ip
open PySem L2
section
variable {X : Cx} {G : Gb} {E : XK} {W : WX} {pos : Pos}
/-! ### o.extend(l) -/
theorem ip_ext {o l : Expr} {apos : Pos} {mo : Sg → Hq → R Val} {ml : Sg → Hq → R (List Val)} (hK : G.K = X.K) (ho : PE X o (tE G W mo)) (hl : PE X l (tL G W ml)) (hbase : attributeBase o "extend" X.env (eval o X.env) = eval o X.env)
    (hst : starEach [l] X.env = [(false, eval l X.env)]) (hline : (apos.endLine == pos.line) = true) :
    PE X (.Call (.Attribute o "extend" apos) [l] [] pos) (tE G W fun σ h => (mo σ h).bind fun x h1 => (lstV x h1).bind fun _ h1 => (ml σ h1).bind fun vs h2 => extV x vs h2) := by
  have hst' : starEach [l] X.env = (false, eval l X.env) :: starEach [] X.env := by rw [hst]; rfl
  refine (pe_bm (T := "list") PySem.F.plainAttrs_list PySem.F.slot_list_extend PySem.F.type_list_extend mt_extend ho (pa_cons hl pa_nil hst') hbase (by rw [hst]; rfl) hline hst' (by rfl)).imp fun τ H Q ⟨Av, s, σ, hH, rp, sr, p⟩ => ?_
  subst hH
  refine tE_bind rp sr p fun x y s1 rp1 st1 sr1 q1 p1 => ?_
  unfold lstV at p1
  split at p1
  · rename_i n
    split at p1
    · rename_i ws hl1
      cases q1 with
      | ref hn =>
        rename_i b
        obtain ⟨zs, hH1, hv⟩ := rp1.obj n b _ hn hl1
        refine ⟨.inl ⟨rfl, zs, hK ▸ .inl (.inl hH1)⟩, ?_⟩
        have p2 : Post G (We W τ) Av s1 (fun v y s' => VR G Av s' v y) ((ml σ s1.h).bind fun vs h2 => extV (.ref n) vs h2) Q := p1
        show tL G W ml τ s1.H _
        refine tL_bind rp1 sr1 p2 fun vs y s2 rp2 st2 sr2 lr p3 => ?_
        obtain ⟨q, xs, rfl, hq, rpA, hx, hvs⟩ := lr
        unfold extV at p3
        simp only at p3
        split at p3
        · rename_i us hl2
          split at p3
          · rename_i hf
            have hn2 := pre_get st2.pre hn
            obtain ⟨ts, hH2, hv2⟩ := rp2.obj n b _ hn2 hl2
            have hvA := hvs.less (Av' := Av) (fun a z => .inl z)
            obtain ⟨rp3, st3⟩ := rp2.write hn2 hl2 hH2 (hv2.append hvA)
            refine ⟨b, q, ts, xs, rfl, rfl, hH2, hx, by rw [← hv2.length, ← hvA.length]; exact fits_line hf, ?_⟩
            exact p3 ⟨s2.r, s2.h.set n (.lst (us ++ vs)), upd s2.H b (.lst (ts ++ xs))⟩ .non rfl rp3 st3 (.d .non)
          · exact p3.elim
        · exact p3.elim
    · exact p1.elim
  · exact p1.elim
/-! ### divmod -/
theorem ip_dvm {a b : Expr} {px : Pos} {ma mb : Sg → Hq → R Val} (hg : Gl X "divmod") (hm : X.mg "divmod" = none) (ha : PE X a (tE G W ma)) (hb : PE X b (tE G W mb)) (hs : starEach [a, b] X.env = [(false, eval a X.env), (false, eval b X.env)]) (hs2 : starEach [b] X.env = [(false, eval b X.env)]) :
    PE X (.Call (.Name "divmod" px) [a, b] [] pos) (tE G W fun σ h => (ma σ h).bind fun x h1 => (mb σ h1).bind fun y h2 => dvmV x y h2) := by
  have hst' : starEach [a, b] X.env = (false, eval a X.env) :: starEach [b] X.env := by rw [hs, hs2]
  have hst2 : starEach [b] X.env = (false, eval b X.env) :: starEach [] X.env := by rw [hs2]; rfl
  refine (pe_callB call_divmodW hg hm (by decide +kernel) (pa_cons ha (pa_cons hb pa_nil hst2) hst') (by decide) (by decide) hst' (by rw [hs2]; rfl)).imp fun τ H Q ⟨Av, s, σ, hH, rp, sr, p⟩ => ?_
  subst hH
  refine tE_bind rp sr p fun v y s1 rp1 st1 sr1 q1 p1 => ?_
  refine tE_bind rp1 sr1 p1 fun w z s2 rp2 st2 sr2 q2 p2 => ?_
  have q1 := st2.vr rp2.nd q1
  unfold dvmV at p2
  split at p2
  · split at p2
    · rename_i hf
      simp only [Bool.and_eq_true, decide_eq_true_eq] at hf
      have hf2 := hf.2
      unfold okDiv at hf2
      simp only [Bool.and_eq_true, decide_eq_true_eq] at hf2
      cases q1 with
      | d q1 =>
        cases q1
        cases q2 with
        | d q2 =>
          cases q2
          exact ⟨_, _, rfl, ⟨hf.1, PyProof.noPylong_of_log2 (by omega)⟩, fun p hp => Post.newT rp2 (.cons (.int _) (.cons (.int _) .nil)) p2 hp⟩
    · exact p2.elim
  · exact p2.elim
/-! ### t.index(x), ints -/
section
open PySem.Spec PyProof.Rows
theorem mt_tup_indexI : MtR X "tuple.index" (fun x xs H Q => ∃ p, ∃ ys : List Int, ∃ z j, x = .ref p ∧ xs = [.int z] ∧ SqT X.K H p (ys.map V.int) ∧ ys[j]? = some z ∧ (∀ m, m < j → ys[m]? ≠ some z) ∧ Q (.int (j : Nat)) H) := by
  rintro pins s σ H x xs v us Q I rx rs ⟨p, ys, z, j, rfl, rfl, hq, hy, hno, q⟩
  cases rx
  obtain ⟨u, rfl, t, rfl⟩ := vals1 rs
  obtain ⟨its, r, ⟨⟨cls, dd, dt, sl⟩, ho, hc, n, hd⟩, hz⟩ := I.tuple hq
  simp only at hc hd
  subst hc hd
  have hl : its.toArray.size = ys.length := by rw [List.size_toArray, ← r.length, List.length_map]
  have at' : ∀ (m : Nat) (hm : m < its.toArray.size), ∃ y t', ys[m]? = some y ∧ its.toArray[m] = Value.int y t' := fun m hm => by
    have hm' : m < ys.length := hl ▸ hm
    obtain ⟨w, hw, t', hw'⟩ := r.get (i := m) (x := .int ys[m]) (by simp [hm'])
    refine ⟨ys[m], t', List.getElem?_eq_getElem hm', ?_⟩
    rw [← hw', ← (List.getElem?_eq_some_iff.mp hw).2]
    simp
  have flat : (ys.map V.int).all flatV = true := by
    rw [List.all_eq_true]
    intro y hy
    obtain ⟨i, _, rfl⟩ := List.mem_map.mp hy
    rfl
  have hj : j < its.toArray.size := hl ▸ (List.getElem?_eq_some_iff.mp hy).1
  refine call_meets PySem.F.slot_tuple_index ⟨_, ho, rfl⟩ PySem.F.entry_tuple_index (PySem.F.args_tuple_index_2 _ _) (TI.tuple_indexAt p its.toArray n dd sl (.int z t) (eqU (.int z)) j hj ?_ ?_)
    ⟨ho, fun w hw => mem_eqAt (x := .int z) ⟨t, rfl⟩ rfl r flat w (by simpa using hw), ⟨.int (j : Nat), H, I.tok _, ⟨_, rfl⟩, q⟩⟩
  · obtain ⟨y, t', h1, h2⟩ := at' j hj
    rw [hy] at h1
    cases h1
    rw [h2]
    exact beq_self_eq_true z
  · intro m hm hmj
    obtain ⟨y, t', h1, h2⟩ := at' m hm
    rw [h2]
    exact beq_eq_false_iff_ne.mpr fun e => hno m hmj (e ▸ h1)
end
theorem findIx_is (k : Int) : ∀ {ns : List Int} {j : Nat}, ns.findIdx? (· == k) = some j → ns[j]? = some k ∧ ∀ m, m < j → ns[m]? ≠ some k
  | [], _, h => by simp at h
  | n :: ns, j, h => by
    rw [List.findIdx?_cons] at h
    cases hb : n == k with
    | true =>
      rw [hb, if_pos rfl] at h
      cases h
      exact ⟨by rw [eq_of_beq hb]; rfl, fun m hm => absurd hm (Nat.not_lt_zero _)⟩
    | false =>
      rw [hb, if_neg Bool.false_ne_true] at h
      cases e : ns.findIdx? (· == k) with
      | none => rw [e] at h; cases h
      | some i =>
        rw [e] at h
        cases h
        obtain ⟨h1, h2⟩ := findIx_is k e
        refine ⟨h1, fun m hm => ?_⟩
        cases m with
        | zero => intro z; rw [Option.some.inj z] at hb; simp at hb
        | succ m => exact h2 m (Nat.lt_of_succ_lt_succ hm)
/-- an exact tuple of this run, as it lies -/
theorem tx_isT {pins : List (Addr × Obj)} {σ : L2.St} {H : Hp} {s : Shared} {a : Addr} {o : Obj} {xs : List V} (I : Inv X pins σ H s) (h : H a = some (.frz o (.tup xs))) (hd : o.dict = none) :
    s.TypeIs (.ref a) "tuple" ∧ ∀ b, Value.ref a = .ref b → ∃ ob, s.heap.get? b = some ob ∧ ob.dict = none := by
  obtain ⟨h1, _, _, _, o', h2, h3, _⟩ := (show ObjOk X.prog X.w H s.heap a (.frz o (.tup xs)) from I.hok a _ h)
  rw [h1] at h2
  cases h2
  exact ⟨⟨_, h1, h3⟩, fun b e => by cases e; exact ⟨_, h1, hd⟩⟩
/-- a method of an exact tuple -/
theorem pe_bmX {name : Str} {id : String} {o e : Expr} {es : List Expr} {apos cpos : Pos} {r : V → List V → Hp → VK → Prop} {to : TE} {t : TA} (pa : PlainAttrs "tuple") (slot : Slot "tuple" name id) (hty : typeOf (.builtin id) = pure (.type "method_descriptor")) (hm : MtR X id r) (ho : PE X o to) (ha : PA X (e :: es) t)
    (hbase : attributeBase o name X.env (eval o X.env) = eval o X.env)
    (hfew : ((backTo cpos (starEach (e :: es) X.env)).all (fun x => !x.1) && (backToKw cpos (keywordEach [] X.env)).all (fun x => x.1.isSome)
      && decide ((e :: es).length + ([] : List Keyword).length + (if ([] : List Keyword).isEmpty then 0 else 1) < 30)) = true)
    (hline : (apos.endLine == cpos.line) = true) (hs : starEach (e :: es) X.env = (false, eval e X.env) :: starEach es X.env) (hplain : (backTo cpos (starEach es X.env)).any (·.1) = false := by rfl) :
    PE X (.Call (.Attribute o name apos) (e :: es) [] cpos) (fun σ H Q => to σ H fun x H1 => ∃ a ob xs, x = .ref a ∧ H1 a = some (.frz ob (.tup xs)) ∧ ob.dict = none ∧ t σ H1 fun vs H2 => r x vs H2 Q) := by
  refine ⟨fun pins s σ H Q I h => ?_⟩
  refine PySem.wpAny_Call_method_late hbase hfew hline rfl (thn (ho.run pins s σ H _ I h) fun v s1 ⟨x, H1, I1, r1, a, ob, xs, e0, e1, e2, q1⟩ => ?_)
  subst e0
  obtain rfl : v = Value.ref a := r1
  obtain ⟨h1, h2⟩ := tx_isT I1 e1 e2
  refine ⟨"tuple", id, pa, slot, hty, h1, h2, ?_⟩
  have hA := ha.run cpos pins s1 σ H1 _ I1 q1
  rw [hs] at hA ⊢
  refine Calls.callWith_builtin (by show (false || (backTo cpos (starEach es X.env)).any (·.1)) = false; rw [hplain] <;> rfl) (Calls.evalArgs_plain ?_)
  exact thn hA fun us s2 ⟨vs, H2, I2, r2, q2⟩ => hm pins s2 σ H2 (.ref a) vs (.ref a) us Q I2 (show RelV (.ref a) (.ref a) from rfl) r2 q2
theorem ip_tix {o a : Expr} {apos : Pos} {mo ma : Sg → Hq → R Val} (hK : G.K = X.K) (ho : PE X o (tE G W mo)) (ha : PE X a (tE G W ma)) (hbase : attributeBase o "index" X.env (eval o X.env) = eval o X.env)
    (hst : starEach [a] X.env = [(false, eval a X.env)]) (hline : (apos.endLine == pos.line) = true) :
    PE X (.Call (.Attribute o "index" apos) [a] [] pos) (tE G W fun σ h => (mo σ h).bind fun x h1 => (txV x h1).bind fun ds h1 => (ma σ h1).bind fun y h2 => tixV ds y h2) := by
  have hst' : starEach [a] X.env = (false, eval a X.env) :: starEach [] X.env := by rw [hst]; rfl
  refine (pe_bmX PySem.F.plainAttrs_tuple PySem.F.slot_tuple_index PySem.F.type_tuple_index mt_tup_indexI ho (pa_cons ha pa_nil hst') hbase (by rw [hst]; rfl) hline hst').imp fun τ H Q ⟨Av, s, σ, hH, rp, sr, p⟩ => ?_
  subst hH
  refine tE_bind rp sr p fun x y s1 rp1 st1 sr1 q1 p1 => ?_
  unfold txV at p1
  split at p1
  · rename_i n
    split at p1
    · rename_i ds hl
      cases q1 with
      | ref hn =>
        rename_i b
        obtain ⟨ob, xs, e1, e2, e3⟩ := rp1.obj n b _ hn hl
        refine ⟨b, ob, xs, rfl, e2, e1, ?_⟩
        have p2 : Post G (We W τ) Av s1 (fun v y s' => VR G Av s' v y) ((ma σ s1.h).bind fun y h2 => tixV ds y h2) Q := p1
        show tE G W ma τ s1.H _
        refine tE_bind rp1 sr1 p2 fun w z s2 rp2 st2 sr2 q2 p3 => ?_
        unfold tixV at p3
        split at p3
        · rename_i k
          cases q2 with
          | d q2 =>
            cases q2
            split at p3
            · rename_i ns e4
              split at p3
              · rename_i j ej
                obtain ⟨h1, h2⟩ := findIx_is k ej
                have hT := st2.fr.frz _ _ _ e2
                rw [drs_ints e3 e4] at hT
                exact ⟨b, ns, k, j, rfl, rfl, hK ▸ .inl (.inr ⟨ob, hT⟩), h1, h2, p3.fin rp2 (.d (.int _))⟩
              · exact p3.elim
            · exact p3.elim
        · exact p3.elim
    · exact p1.elim
  · exact p1.elim
/-! ### objects that are made -/
theorem RepH.newO {Av : Addr → Prop} {s : S3} (rp : RepH G Av s) {p : Addr} {io : IO} {ob : HO} (hp : s.H p = none) (cr : Stp s ⟨s.r ++ [p], s.h ++ [io], upd s.H p ob⟩ → (s.r ++ [p]).Nodup → OR G Av ⟨s.r ++ [p], s.h ++ [io], upd s.H p ob⟩ p io) :
    RepH G Av ⟨s.r ++ [p], s.h ++ [io], upd s.H p ob⟩ ∧ Stp s ⟨s.r ++ [p], s.h ++ [io], upd s.H p ob⟩ ∧ VR G Av ⟨s.r ++ [p], s.h ++ [io], upd s.H p ob⟩ (.ref s.h.length) (.ref p) := by
  obtain ⟨r1, t1⟩ := rp.upd_new (o := ob) hp
  have np : p ∉ s.r := fun z => rp.trk p z hp
  have nA : ¬ Av p := fun z => rp.av p z hp
  have st : Stp s ⟨s.r ++ [p], s.h ++ [io], upd s.H p ob⟩ := by
    refine ⟨List.prefix_append _ _, fun n hn ⟨o, hl, ha⟩ => ?_, fr_upd_new hp, fun b hb => ?_⟩
    · rw [List.getElem?_append_left (by rw [← rp.len]; exact hn)] at hl
      exact ⟨o, hl, ha⟩
    · rcases List.mem_append.mp hb with w | w
      · exact .inl w
      · have : b = p := by simpa using w
        subst this; exact .inr hp
  have nd : (s.r ++ [p]).Nodup := by
    rw [List.nodup_append]
    exact ⟨rp.nd, by simp, fun x hx2 y hy => by
      have : y = p := by simpa using hy
      subst this; exact fun z => np (z ▸ hx2)⟩
  refine ⟨⟨by simp [rp.len], nd, fun n b o e1 e2 => ?_, fun b z => st.fr.there b (rp.av b z), fun b z w => ?_, fun b z => ?_, r1.tabs⟩, st, .ref ?_⟩
  · by_cases hn : n < s.r.length
    · have e1 : (s.r ++ [p])[n]? = some b := e1
      have e2 : (s.h ++ [io])[n]? = some o := e2
      rw [List.getElem?_append_left hn] at e1
      rw [List.getElem?_append_left (by rw [← rp.len]; exact hn)] at e2
      have q := rp.obj n b o e1 e2
      have nb : b ≠ p := fun z => np (z ▸ List.mem_of_getElem? e1)
      cases o with
      | lst ws => obtain ⟨zs, h1, h2⟩ := q; exact ⟨zs, (upd_ne nb).trans h1, st.vrs nd h2⟩
      | dead x => exact st.dr nd q
      | dct c2 => obtain ⟨ob2, h1, h2⟩ := q; exact ⟨ob2, (upd_ne nb).trans h1, h2.map (st.vr nd) st.fr.sqt⟩
      | tx ds => exact tx_step st nd q
      | dl kvs => exact dl_step st nd q
    · have e1 : (s.r ++ [p])[n]? = some b := e1
      have e2 : (s.h ++ [io])[n]? = some o := e2
      rw [List.getElem?_append_right (Nat.not_lt.mp hn)] at e1
      rw [List.getElem?_append_right (by rw [← rp.len]; exact Nat.not_lt.mp hn), ← rp.len] at e2
      cases hk : n - s.r.length with
      | zero =>
        rw [hk] at e1 e2
        have e1 : some p = some b := e1
        have e2 : some io = some o := e2
        cases e1; cases e2
        exact cr st nd
      | succ k => rw [hk] at e1; cases e1
  · rcases List.mem_append.mp w with w | w
    · exact rp.dis b z w
    · have : b = p := by simpa using w
      subst this; exact nA z
  · rcases List.mem_append.mp z with w | w
    · exact st.fr.there b (rp.trk b w)
    · have : b = p := by simpa using w
      subst this
      show upd s.H b ob b ≠ none
      rw [upd_same]; exact fun z => by cases z
  · show (s.r ++ [p])[s.h.length]? = some p
    rw [← rp.len, List.getElem?_append_right (Nat.le_refl _), Nat.sub_self]; rfl
/-- an exact tuple that is new -/
theorem Post.newX {Av : Addr → Prop} {s : S3} {ds : List D} {ys : List V} {Q : VK} (rp : RepH G Av s) (q : DRs G.K s.H (Bad Av s) ys ds) (p : Post G E Av s (fun v y s' => VR G Av s' v y) (.ok (.ref s.h.length) (s.h ++ [.tx ds])) Q) {a : Addr} {o : Obj} (ha : s.H a = none) (ho : o.dict = none) : Q (.ref a) (upd s.H a (.frz o (.tup ys))) := by
  obtain ⟨r1, t1, v1⟩ := rp.newO (io := .tx ds) (ob := .frz o (.tup ys)) ha fun st nd => ⟨o, ys, ho, upd_same, DRs.mono st.fr (fun a z => .inr z) (st.bad nd) q⟩
  exact p ⟨s.r ++ [a], s.h ++ [.tx ds], upd s.H a (.frz o (.tup ys))⟩ (.ref a) rfl r1 t1 v1
theorem inv_tx {pins : List (Addr × Obj)} {σ : L2.St} {H : Hp} {s : Shared} {h' : Heap} {t' : Nat} {its : List Value} {xs : List V} {n : Nat} (I : Inv X pins σ H s) (k : ∀ b u, s.heap.get? b = some u → h'.get? b = some u) {a : Addr} (hp : s.heap.objs.size ≤ a) (z : xs.length ≤ sizeLine) (r : Vals xs its)
    (hg : h'.get? a = some { cls := .type "tuple", data := .seq its.toArray n }) : Inv X pins σ (upd H a (.frz { cls := .type "tuple", data := .seq its.toArray n } (.tup xs))) { s with heap := h', toks := t' } :=
  I.laid k hp ⟨hg, z, its, r, _, hg, rfl, n, rfl⟩
def NX (H : Hp) (xs : List V) (Q : VK) : Prop := ∀ p o, o.dict = none → H p = none → Q (.ref p) (upd H p (.frz o (.tup xs)))
theorem pe_tupX {es : List Expr} {t : TA} {x1} (h : PA X es t) : PE X (.Tuple es x1 pos) (fun σ H Q => t σ H fun xs H1 => xs.length ≤ sizeLine ∧ NX H1 xs Q) := by
  refine ⟨fun pins s σ H Q I hq => ?_⟩
  refine wpAny_Tuple_spliced (thn (h.run pos pins s σ H _ I hq) fun us s1 ⟨xs, H1, I1, r, z, q⟩ => ⟨by rw [← r.length]; exact z, ?_⟩)
  exact ⟨.ref s1.heap.objs.size, _, inv_tx (t' := s1.toks) (n := 0) I1 (fun b u e => Heap.get?_push_of_some _ e) (Nat.le_refl _) z r (Heap.get?_push_size _ rfl), rfl, q _ _ rfl (I1.hok.fresh (Nat.le_refl _))⟩
end
end Ip

set_option linter.all false
set_option Elab.async false
set_option autoImplicit false
set_option maxRecDepth 100000
/-! Exact tuples, len(set(..)), dicts that are made. -/
namespace Ip
open PySem L2
section
variable {X : Cx} {G : Gb} {E : XK} {W : WX} {pos : Pos}
theorem ip_tupX {es : List Expr} {x1 : Nat} {ms : Sg → Hq → R (List Val)} (hs : PA X es (tA G W ms)) (hlen : ∀ σ h vs h', ms σ h = .ok vs h' → vs.length ≤ 16777216) :
    PE X (.Tuple es x1 pos) (tE G W fun σ h => (ms σ h).bind fun vs h1 => (toDs vs h1).bind fun ds h2 => .ok (.ref h2.length) (h2 ++ [.tx ds])) := by
  refine (pe_tupX hs).imp fun τ H Q ⟨Av, s, σ, hH, rp, sr, p⟩ => ?_
  subst hH
  refine ⟨Av, s, σ, rfl, rp, sr, ?_⟩
  have hlen := hlen σ s.h
  revert p hlen
  show (Post G _ Av s _ ((ms σ s.h).bind _) Q → _)
  cases ms σ s.h with
  | er x h => exact fun p _ => p
  | no => exact fun p _ => p
  | ok vs h1 =>
    intro p hlen s1 ys e1 rp1 st1 q1
    subst e1
    have p1 := Post.step (r := (toDs vs s1.h).bind fun ds h2 => R.ok (Val.ref h2.length) (h2 ++ [.tx ds])) p st1 rp1
    cases e : toDs vs s1.h with
    | er x h => exact absurd e (toDs_no_er _ _ _ _)
    | no => rw [e] at p1; exact p1.elim
    | ok ds h2 =>
      rw [e] at p1
      obtain ⟨rp2, st2, d2⟩ := toDs_ok rp1 q1 e
      refine ⟨by rw [← q1.length, sizeLine_eq]; exact hlen vs _ rfl, fun a o ho ha => ?_⟩
      have p2 : Post G (We W τ) Av ⟨s1.r, h2, s1.H⟩ (fun v y s' => VR G Av s' v y) (R.ok (Val.ref h2.length) (h2 ++ [.tx ds])) Q := Post.step (s := s1) p1 st2 rp2
      exact Post.newX (E := We W τ) (s := ⟨s1.r, h2, s1.H⟩) rp2 d2 p2 ha ho
section
open PySem.Spec PyProof.Rows
def rRepX (K : PySem.W.Frag) : R2 := fun x y H Q => ∃ l k xs, x = .ref l ∧ y = .int k ∧ SqT K H l xs ∧ xs ≠ [] ∧ 2 ≤ k ∧ k ≤ 1000 ∧ xs.length ≤ 1000 ∧ NX H (List.replicate k.toNat xs).flatten Q
theorem op_repX : OpR X (binaryOp .Mult) (rRepX X.K) := by
  intro pins s σ H x y v u Q I rx ry h
  obtain ⟨l, k, xs, rfl, rfl, hT, hne, h1, h2, hz, q⟩ := h
  cases rx
  obtain ⟨t, rfl⟩ := ry
  obtain ⟨its, r, ⟨⟨cls, dd, data, sl⟩, ho, hc, n, hd⟩, hs⟩ := I.tuple hT
  simp only at hc hd
  subst hc hd
  have hle : its.length = xs.length := r.length.symm
  have hn : its ≠ [] := fun e => hne (by
    rw [e] at hle
    exact List.eq_nil_of_length_eq_zero hle.symm)
  have hi : its.toArray.isEmpty = false := by
    cases its with
    | nil => exact absurd rfl hn
    | cons a b => rfl
  have hsz0 : its.toArray.size = xs.length := by rw [List.size_toArray, hle]
  have hm : ((its.toArray.size : Nat) : Int) * k ≤ 1000000 := by
    rw [hsz0]
    have a1 : ((xs.length : Nat) : Int) * k ≤ 1000 * k := Int.mul_le_mul_of_nonneg_right (by omega) (by omega)
    omega
  have a1 : k.toNat * xs.length ≤ 1000 * 1000 := Nat.mul_le_mul (by omega) hz
  have flen : (List.replicate k.toNat its).flatten.length ≤ sizeLine := by
    rw [PyProof.Rows.lm_len_rep_flat, hle, sizeLine_eq]
    omega
  have c0 : (decide (k < -(2 ^ 63)) || decide (k ≥ 2 ^ 63)) = false := by
    rw [decide_eq_false (by omega), decide_eq_false (by omega)] <;> rfl
  have c1 : (its.toArray.isEmpty || k == 1) = false := by
    rw [hi, Bool.false_or]
    exact beq_eq_false_iff_ne.mpr (by omega)
  have c2 : (decide (k ≤ 0) || its.toArray.isEmpty) = false := by
    rw [hi, Bool.or_false]
    exact decide_eq_false (by omega)
  have c4 : Builtin.Tuple.tupleTooMany (((its.toArray.size : Nat) : Int) * k) = false := by
    unfold Builtin.Tuple.tupleTooMany
    rw [sizeLine_eq]
    exact decide_eq_false (by omega)
  refine wpAny_binaryOp_repeat_ref (T := "tuple") (U := "int") (by decide) ⟨_, ho, rfl⟩ (fun s' => typeIs_int s' k t) noFill_tuple_mul PySem.F.fills_int_mul PySem.F.slot_int_rmul repeat_tuple PySem.F.slot_int_index.lookup
    (call_meets PySem.F.slot_int_rmul (typeIs_int s k t) PySem.F.entry_int_rmul (PySem.F.args_int_rmul_2 _ _) (int_rmul_tuple k t l its.toArray n dd sl)
      ⟨ho, rfl, ⟨_, ho, rfl⟩, call_meets PySem.F.slot_tuple_mul ⟨_, ho, rfl⟩ PySem.F.entry_tuple_mul (PySem.F.args_tuple_mul_2 _ _) (tuple_mulW l its.toArray n dd sl k t c0 c1 c2 (by omega) c4 (by rw [size_rep, List.size_toArray]; exact flen)) ⟨ho, ?_⟩⟩)
  rw [size_rep]
  refine ⟨.ref s.heap.objs.size, _, inv_tx (t' := s.toks) (n := 0) I (fun b ob q => Heap.get?_push_of_some _ q) (Nat.le_refl _) ?_ (r.rep k.toNat) (Heap.get?_push_size _ rfl), rfl, q _ _ rfl (I.hok.fresh (Nat.le_refl _))⟩
  rw [PyProof.Rows.lm_len_rep_flat, sizeLine_eq]
  omega
end
theorem ip_repX {a b : Expr} {ma mb : Sg → Hq → R Val} (hK : G.K = X.K) (ha : PE X a (tE G W ma)) (hb : PE X b (tE G W mb)) :
    PE X (.BinOp a .Mult b pos) (tE G W fun σ h => (ma σ h).bind fun x h1 => (txV x h1).bind fun ds h1 => (mb σ h1).bind fun y h2 => repX x ds y h2) := by
  refine (pe_op (op_repX.or op_rep1) ha hb).imp fun τ H Q ⟨Av, s, σ, hH, rp, sr, p⟩ => ?_
  subst hH
  refine tE_bind rp sr p fun v y s1 rp1 st1 sr1 q1 p1 => ?_
  unfold txV at p1
  split at p1
  · rename_i n
    split at p1
    · rename_i ds hl
      cases q1 with
      | ref hn =>
        rename_i c
        obtain ⟨ob, xs, e1, e2, e3⟩ := rp1.obj n c _ hn hl
        have p2 : Post G (We W τ) Av s1 (fun v y s' => VR G Av s' v y) ((mb σ s1.h).bind fun y h2 => repX (.ref n) ds y h2) Q := p1
        refine tE_bind rp1 sr1 p2 fun w z s2 rp2 st2 sr2 q2 p3 => ?_
        have hT := st2.fr.frz _ _ _ e2
        have e4 := DRs.mono st2.fr (fun a z => .inr z) (st2.bad rp2.nd) e3
        unfold repX at p3
        split at p3
        · rename_i k
          cases q2 with
          | d q2 =>
            cases q2
            split at p3
            · rename_i hk
              subst hk
              exact .inr ⟨c, xs, rfl, rfl, hK ▸ .inl (.inr ⟨ob, hT⟩), p3.fin rp2 (.ref (pre_get st2.pre hn))⟩
            · split at p3
              · rename_i _ hf
                simp only [Bool.and_eq_true, decide_eq_true_eq, Bool.not_eq_true'] at hf
                obtain ⟨⟨⟨h1, h2⟩, h3⟩, h4⟩ := hf
                have h3 := PyProof.Rows.lt_of_log2 h3
                refine .inl ⟨c, k, xs, rfl, rfl, hK ▸ .inl (.inr ⟨ob, hT⟩), fun e => ?_, h4, by omega, by rw [e4.length]; exact h2, fun p o ho hp => Post.newX rp2 (e4.rep _) p3 hp ho⟩
                subst e
                cases e4
                simp at h1
              · exact p3.elim
        · exact p3.elim
    · exact p1.elim
  · exact p1.elim
theorem call_tupleX : CallR X (.type "tuple") (fun xs H Q => ∃ p ys, xs = [.ref p] ∧ SqL X.K H p ys ∧ NX H ys Q) := by
  intro pins s σ H xs us Q I r h
  obtain ⟨p, ys, rfl, hq, q⟩ := h
  obtain ⟨u, rfl, rx⟩ := vals1 r
  cases rx
  obtain ⟨its, r', pl, hz⟩ := I.list hq
  have hlen := r'.length
  refine call_tuple_list pl.isList (fun h' kp => ?_) (by simp only [List.size_toArray] <;> omega)
  have I1 : Inv X pins σ H { s with heap := h' } := I.kept (t' := s.toks) kp
  exact ⟨.ref h'.objs.size, _, inv_tx (t' := s.toks) (n := 0) I1 (fun b o e => Heap.get?_push_of_some _ e) (Nat.le_refl _) hz r' (Heap.get?_push_size _ rfl), rfl, q _ _ rfl (I1.hok.fresh (Nat.le_refl _))⟩
theorem ip_tupL {e : Expr} {px : Pos} {m : Sg → Hq → R Val} (hK : G.K = X.K) (hg : Gl X "tuple") (hm : X.mg "tuple" = none) (ha : PE X e (tE G W m)) (st : starEach [e] X.env = (false, eval e X.env) :: starEach [] X.env) :
    PE X (.Call (.Name "tuple" px) [e] [] pos) (tE G W fun σ h => (m σ h).bind fun x h1 => match elsL h1 x with
    | some vs => (toDs vs h1).bind fun ds h2 => .ok (.ref h2.length) (h2 ++ [.tx ds])
    | none => .no) := by
  refine (pe_callTy call_tupleX hg hm (by decide +kernel) (ia_cons (G := G) (W := W) ha ia_nil st) (by decide) (by decide) st (by rfl)).imp fun τ H Q ⟨Av, s, σ, hH, rp, sr, p⟩ => ?_
  subst hH
  refine one_bind rp sr p fun v y s1 rp1 st1 q1 p1 => ?_
  split at p1
  · rename_i vs hv
    obtain ⟨a, xs, rfl, hq, q⟩ := elsL_ok rp1 q1 hv
    cases e : toDs vs s1.h with
    | er x h => exact absurd e (toDs_no_er _ _ _ _)
    | no => rw [e] at p1; exact p1.elim
    | ok ds h2 =>
      rw [e] at p1
      obtain ⟨rp2, st2, d2⟩ := toDs_ok rp1 q e
      have p2 : Post G (We W τ) Av ⟨s1.r, h2, s1.H⟩ (fun v y s' => VR G Av s' v y) (R.ok (Val.ref h2.length) (h2 ++ [.tx ds])) Q := Post.step (s := s1) p1 st2 rp2
      exact ⟨a, xs, rfl, hK ▸ hq, fun l o ho hl => Post.newX (E := We W τ) (s := ⟨s1.r, h2, s1.H⟩) rp2 d2 p2 hl ho⟩
  · exact p1.elim
/-! ### len(set(t)) -/
theorem distI_mem (x : Int) : ∀ l : List Int, x ∈ distI l ↔ x ∈ l
  | [] => Iff.rfl
  | a :: r => by
    unfold distI
    have ih := distI_mem x r
    split
    · rename_i h
      rw [ih, List.mem_cons]
      exact ⟨.inr, fun z => z.elim (fun e => e ▸ h) id⟩
    · rw [List.mem_cons, List.mem_cons, ih]
theorem distI_nodup : ∀ l : List Int, (distI l).Nodup
  | [] => List.nodup_nil
  | a :: r => by
    unfold distI
    split
    · exact distI_nodup r
    · rename_i h
      exact List.nodup_cons.mpr ⟨fun z => h ((distI_mem a r).mp z), distI_nodup r⟩
def tLset (K : PySem.W.Frag) (ta : TE) : TE := fun σ H Q => ta σ H fun x H1 => ∃ (l : Addr) (ns : List Int), x = .ref l ∧ SqT K H1 l (ns.map V.int) ∧ ns.length ≤ 1000 ∧ Q (.int ((distI ns).length : Nat)) H1
theorem pe_lset {a : Expr} {ta : TE} {p p2 q : Pos} (hg : Gl X "len") (hm : X.mg "len" = none) (hg2 : Gl X "set") (hm2 : X.mg "set" = none) (ha : PE X a ta) (hc : X.calm = true)
    (na : starEach [a] X.env = (false, eval a X.env) :: starEach [] X.env) : PE X (.Call (.Name "len" p) [.Call (.Name "set" p2) [a] [] q] [] pos) (tLset X.K ta) := by
  refine ⟨fun pins s σ H Q I h => ?_⟩
  refine PyProof.Rows.Call_ (ld_blt I hg hm PySem.boot_len ?_)
  refine PyProof.Rows.callWith_builtin1 (PyProof.Rows.args_cons ?_ rfl) rfl rfl
  refine PyProof.Rows.Call_ (ld_blt I hg2 hm2 PyProof.Rows.boot_set ?_)
  refine PyProof.Rows.callWith_type1 (PyProof.Rows.args_cons (thn (ha.run pins s σ H _ I h) fun v s1 ⟨x, H1, I1, r1, q1⟩ => PyProof.Rows.args_nil ?_) na) na rfl
  obtain ⟨l, ns, e0, hq, hl, q1⟩ := q1
  subst e0
  cases r1
  obtain ⟨its, rv, pt, hz⟩ := I1.tuple hq
  have hi : PyProof.Rows.IntsAre its.toArray.toList ns := ints_of_vals rv
  refine call_set_tupI ns (I1.ok.hd hc) (show s1.heap.IsTuple l its.toArray from pt) hi (by unfold scanBound; omega) fun h' tk c R1 hcn k => ?_
  refine PyProof.Rows.args_nil ?_
  obtain ⟨o, es, ep, t, ho, hex, hd, _, hnd, hmem, hb, hf, hn, _, _⟩ := R1
  have hlen : es.size = (distI ns).length := by
    rw [← Array.length_toList, ← List.length_map (f := keyOf)]
    refine List.Perm.length_eq ((List.perm_ext_iff_of_nodup hnd (distI_nodup ns)).mpr fun x => ?_)
    rw [distI_mem, ← hmem x, decide_eq_true_eq]
  have I2 : Inv X pins σ H1 { s1 with heap := h', toks := tk } := I1.kept k
  exact call_len_set ho hex hd hf (by rw [hn]; omega) ⟨.int (distI ns).length, H1, I2.tok _, ⟨_, by rw [hlen]⟩, q1⟩
theorem ip_lset {a : Expr} {ma : Sg → Hq → R Val} {p p2 q : Pos} (hK : G.K = X.K) (hg : Gl X "len") (hm : X.mg "len" = none) (hg2 : Gl X "set") (hm2 : X.mg "set" = none) (ha : PE X a (tE G W ma)) (hc : X.calm = true)
    (na : starEach [a] X.env = (false, eval a X.env) :: starEach [] X.env) : PE X (.Call (.Name "len" p) [.Call (.Name "set" p2) [a] [] q] [] pos) (tE G W fun σ h => (ma σ h).bind fun x h1 => lsetV x h1) := by
  refine (pe_lset hg hm hg2 hm2 ha hc na).imp fun τ H Q ⟨Av, s, σ, hH, rp, sr, p⟩ => ?_
  subst hH
  refine tE_bind rp sr p fun v y s1 rp1 st1 sr1 q1 p1 => ?_
  unfold lsetV at p1
  split at p1
  · split at p1
    · rename_i ns e
      split at p1
      · rename_i hl
        cases q1 with
        | d q1 =>
          cases q1 with
          | @tup b vs _ h t =>
            rw [drs_ints t e] at h
            exact ⟨b, ns, rfl, hK ▸ h, hl, p1.fin rp1 (.d (.int _))⟩
      · exact p1.elim
    · exact p1.elim
  · exact p1.elim
/-! ### dicts made -/
theorem dtx_push {P : Program} {w : World} {H : Hp} (h : Heap) (hb : sysModules < h.objs.size) : ObjOk P w H (h.push { cls := .type "dict", data := .dict #[] }) h.objs.size (dtx P w h.objs.size []) :=
  dtx_new (Nat.zero_le _) (beq_eq_false_iff_ne.mpr (Ne.symm (Nat.ne_of_lt hb))) .nil (Heap.DictOfH.new h)
theorem pe_dnewX : PE X (.Dict [] [] pos) (fun _ H Q => ∀ p, H p = none → Q (.ref p) (upd H p (dtx X.prog X.w p []))) := ⟨fun pins s σ H Q I h =>
  wpAny_Dict_empty ⟨.ref s.heap.objs.size, _, I.laid (a := s.heap.objs.size) (o := dtx X.prog X.w s.heap.objs.size []) (t' := s.toks) (fun _ _ q => Heap.get?_push_of_some _ q) (Nat.le_refl _) (dtx_push s.heap I.big), rfl, h _ (I.hok.fresh (Nat.le_refl _))⟩⟩
theorem ip_dnew (hK : GX G X) : ∀ t : Bool, PE X (.Dict [] [] pos) (tE G W fun _ h => .ok (.ref h.length) (h ++ [.dct (if t then .t [] else .k [])]))
  | false => by
    refine pe_dnewK.imp fun τ H Q ⟨Av, s, σ, hH, rp, sr, p⟩ => ?_
    subst hH
    intro a ha
    obtain ⟨r1, t1, v1⟩ := rp.newO (io := .dct (.k [])) (ob := .dK []) ha fun st nd => ⟨_, upd_same, .k .nil⟩
    exact p ⟨s.r ++ [a], s.h ++ [.dct (.k [])], upd s.H a (.dK [])⟩ (.ref a) rfl r1 t1 v1
  | true => by
    refine pe_dnewX.imp fun τ H Q ⟨Av, s, σ, hH, rp, sr, p⟩ => ?_
    subst hH
    intro a ha
    rw [← hK.2.1, ← hK.2.2]
    obtain ⟨r1, t1, v1⟩ := rp.newO (io := .dct (.t [])) (ob := dtx G.P G.w a []) ha fun st nd => ⟨_, upd_same, .t .nil⟩
    exact p ⟨s.r ++ [a], s.h ++ [.dct (.t [])], upd s.H a (dtx G.P G.w a [])⟩ (.ref a) rfl r1 t1 v1
end
end Ip

set_option linter.all false
set_option Elab.async false
set_option autoImplicit false
set_option maxRecDepth 100000
/-! A dict with one pair, its key a tuple. -/
namespace Ip
open PySem L2
section
variable {X : Cx} {G : Gb} {E : XK} {W : WX} {pos : Pos}
/-- an object that was laid ahead is taken among this run's -/
theorem RepH.late {Av : Addr → Prop} {s s1 : S3} {a : Addr} {io : IO} {ob u : HO} (rp : RepH G Av s) (ha : s.H a = none) (rp1 : RepH G (also Av a) s1) (st1 : Stp ⟨s.r, s.h, upd s.H a u⟩ s1) (hu : s1.H a = some u) (h1 : ∀ xs, u ≠ .tup xs) (h2 : ∀ o w, u ≠ .frz o w) (h3 : ∀ ps, u ≠ .tbl ps) (h4 : ∀ q, u ≠ LamX.CodeO a q)
    (cr : (∀ {v : Val} {x : V}, VR G (also Av a) s1 v x → VR G Av ⟨s1.r ++ [a], s1.h ++ [io], upd s1.H a ob⟩ v x) → (∀ {b : Addr} {ys : List V}, SqT G.K s1.H b ys → SqT G.K (upd s1.H a ob) b ys) → OR G Av ⟨s1.r ++ [a], s1.h ++ [io], upd s1.H a ob⟩ a io) :
    RepH G Av ⟨s1.r ++ [a], s1.h ++ [io], upd s1.H a ob⟩ ∧ Stp s ⟨s1.r ++ [a], s1.h ++ [io], upd s1.H a ob⟩ ∧ VR G Av ⟨s1.r ++ [a], s1.h ++ [io], upd s1.H a ob⟩ (.ref s1.h.length) (.ref a) := by
  have har : a ∉ s1.r := rp1.dis a (.inr rfl)
  have nA : ¬ Av a := fun z => rp.av a z ha
  have f1 : Fr (fun b => b = a) s1.H (upd s1.H a ob) := fr_upd_live hu h1 h2 rfl
  have hb : ∀ b, s1.H b ≠ none → ¬ Bad (also Av a) s1 b → ¬ Bad Av ⟨s1.r ++ [a], s1.h ++ [io], upd s1.H a ob⟩ b := by
    rintro b _ nb (z | ⟨n, z, ws, hl, hal⟩)
    · exact nb (.inl (.inl z))
    · refine nb ?_
      by_cases hn : n < s1.r.length
      · refine .inr ⟨n, ?_, ws, ?_, hal⟩
        · have z : (s1.r ++ [a])[n]? = some b := z
          rw [List.getElem?_append_left hn] at z; exact z
        · have hl : (s1.h ++ [io])[n]? = some ws := hl
          rw [List.getElem?_append_left (by rw [← rp1.len]; exact hn)] at hl; exact hl
      · left; right
        have z : (s1.r ++ [a])[n]? = some b := z
        rw [List.getElem?_append_right (Nat.not_lt.mp hn)] at z
        cases hk : n - s1.r.length with
        | zero => rw [hk] at z; exact (Option.some.inj z).symm
        | succ k => rw [hk] at z; cases z
  have cd : ∀ {v : V} {d : D}, DR G.K s1.H (Bad (also Av a) s1) v d → DR G.K (upd s1.H a ob) (Bad Av ⟨s1.r ++ [a], s1.h ++ [io], upd s1.H a ob⟩) v d := fun {v d} q =>
    DR.mono f1 (fun b z => .inl (.inr z)) hb q
  have cds : ∀ {v : List V} {d : List D}, DRs G.K s1.H (Bad (also Av a) s1) v d → DRs G.K (upd s1.H a ob) (Bad Av ⟨s1.r ++ [a], s1.h ++ [io], upd s1.H a ob⟩) v d := fun {v d} q =>
    DRs.mono f1 (fun b z => .inl (.inr z)) hb q
  have cv : ∀ {v : Val} {x : V}, VR G (also Av a) s1 v x → VR G Av ⟨s1.r ++ [a], s1.h ++ [io], upd s1.H a ob⟩ v x := fun {v x} q => by
    cases q with
    | d q => exact .d (cd q)
    | ref q => exact .ref (pre_get (List.prefix_append _ _) q)
    | fn q => exact .fn q
  have cvs : ∀ {v : List Val} {x : List V}, VRs G (also Av a) s1 v x → VRs G Av ⟨s1.r ++ [a], s1.h ++ [io], upd s1.H a ob⟩ v x := fun {v x} q => by
    induction q with
    | nil => exact .nil
    | cons h _ ih => exact .cons (cv h) ih
  have rp2 : RepH G Av ⟨s1.r ++ [a], s1.h ++ [io], upd s1.H a ob⟩ := by
    refine ⟨by simp [rp1.len], ?_, fun n b o e1 e2 => ?_, fun b z => f1.there b (rp1.av b (.inl z)), fun b z => ?_, fun b z => ?_, tabs_upd rp1.tabs (.inr ⟨_, hu, h3, h4⟩)⟩
    · rw [List.nodup_append]
      exact ⟨rp1.nd, by simp, fun x hx2 y hy => by
        have : y = a := by simpa using hy
        subst this; exact fun z => har (z ▸ hx2)⟩
    · by_cases hn : n < s1.r.length
      · have e1 : (s1.r ++ [a])[n]? = some b := e1
        have e2 : (s1.h ++ [io])[n]? = some o := e2
        rw [List.getElem?_append_left hn] at e1
        rw [List.getElem?_append_left (by rw [← rp1.len]; exact hn)] at e2
        have q := rp1.obj n b o e1 e2
        have nb : b ≠ a := fun z => har (z ▸ List.mem_of_getElem? e1)
        cases o with
        | lst ws => obtain ⟨zs, h1, h2⟩ := q; exact ⟨zs, (upd_ne nb).trans h1, cvs h2⟩
        | dead x => exact cd q
        | dct c => obtain ⟨ob, h1, h2⟩ := q; exact ⟨ob, (upd_ne nb).trans h1, h2.map cv f1.sqt⟩
        | tx ds => obtain ⟨ob, xs, h1, h2, h3⟩ := q; exact ⟨ob, xs, h1, f1.frz _ _ _ h2, cds h3⟩
        | dl kvs => obtain ⟨ob, es, h1, h2⟩ := q; exact ⟨ob, es, f1.frz _ _ _ h1, h2.map cv⟩
      · have e1 : (s1.r ++ [a])[n]? = some b := e1
        have e2 : (s1.h ++ [io])[n]? = some o := e2
        rw [List.getElem?_append_right (Nat.not_lt.mp hn)] at e1
        rw [List.getElem?_append_right (by rw [← rp1.len]; exact Nat.not_lt.mp hn), ← rp1.len] at e2
        cases hk : n - s1.r.length with
        | zero =>
          rw [hk] at e1 e2
          have e1 : some a = some b := e1
          have e2 : some io = some o := e2
          cases e1; cases e2
          exact cr cv f1.sqt
        | succ k => rw [hk] at e1; cases e1
    · have := rp1.dis b (.inl z)
      intro w
      rcases List.mem_append.mp w with w | w
      · exact this w
      · have : b = a := by simpa using w
        subst this; exact nA z
    · rcases List.mem_append.mp z with w | w
      · exact f1.there b (rp1.trk b w)
      · have : b = a := by simpa using w
        subst this
        show upd s1.H b ob b ≠ none
        rw [upd_same]; exact fun z => by cases z
  have fr0 : Fr (fun b => ∃ n, s.r[n]? = some b ∧ live s.h n) s.H (upd s1.H a ob) := by
    have g0 : Fr (fun b => ∃ n, s.r[n]? = some b ∧ live s.h n) s.H (upd s.H a u) := fr_upd_new ha
    refine ⟨fun b o h n nt => ?_, fun b h => f1.there b (st1.fr.there b (g0.there b h)), fun b xs h => f1.tup b xs (st1.fr.tup b xs (g0.tup b xs h)), fun b o w h => f1.frz b o w (st1.fr.frz b o w (g0.frz b o w h))⟩
    exact f1.keep b o (st1.fr.keep b o (g0.keep b o h n nt) n nt) (fun z => by subst z; rw [ha] at h; cases h) nt
  have st2 : Stp s ⟨s1.r ++ [a], s1.h ++ [io], upd s1.H a ob⟩ := by
    refine ⟨st1.pre.trans (List.prefix_append _ _), fun n hn l => st1.liv n hn ?_, fr0, fun b hb => ?_⟩
    · obtain ⟨ws, hl, hal⟩ := l
      have hn' : n < s1.h.length := by rw [← rp1.len]; exact Nat.lt_of_lt_of_le hn st1.pre.length_le
      have hl : (s1.h ++ [io])[n]? = some ws := hl
      rw [List.getElem?_append_left hn'] at hl
      exact ⟨ws, hl, hal⟩
    · rcases List.mem_append.mp hb with w | w
      · rcases st1.new b w with z | z
        · exact .inl z
        · right
          have z : upd s.H a u b = none := z
          have : b ≠ a := fun e => by rw [e, upd_same] at z; cases z
          rw [upd_ne this] at z; exact z
      · have : b = a := by simpa using w
        subst this; exact .inr ha
  exact ⟨rp2, st2, .ref (by
    show (s1.r ++ [a])[s1.h.length]? = some a
    rw [← rp1.len, List.getElem?_append_right (Nat.le_refl _), Nat.sub_self]; rfl)⟩
def tDispX (P : Program) (w : World) (K : PySem.W.Frag) (tk tv : TE) : TE := fun σ H Q => ∀ p, H p = none → tk σ (upd H p (dtx P w p [])) fun x H1 => tv σ H1 fun y H2 => H2 p = some (dtx P w p []) ∧ ∃ (k : List Key) (b : Addr), x = .ref b ∧ SqT K H2 b (k.map kV) ∧ Q (.ref p) (upd H2 p (dtx P w p [(k, b, y)]))
theorem pe_dispX {k v : Expr} {tk tv : TE} (hu : X.A.units + 1 < cLine) (hk : PE X k tk) (hv : PE X v tv) : PE X (.Dict [some k] [v] pos) (tDispX X.prog X.w X.K tk tv) := by
  refine ⟨fun pins s σ H Q I q => ?_⟩
  have hn := I.hok.fresh (Nat.le_refl s.heap.objs.size)
  have I1 := I.laid (a := s.heap.objs.size) (o := dtx X.prog X.w s.heap.objs.size []) (h' := s.heap.push { cls := .type "dict", data := .dict #[] }) (t' := s.toks) (fun _ _ q => Heap.get?_push_of_some _ q) (Nat.le_refl _) (dtx_push s.heap I.big)
  rw [arm_eval_Dict, zip_pairTrees [some k] [v] X.env pos rfl rfl, dictDisplay_pairs (pairTrees [some k] [v] X.env pos) (by rw [← List.length_pos_iff, pairTrees_length _ _ _ _ rfl rfl]; simp) (by rw [pairTrees_length _ _ _ _ rfl rfl]; simp)]
  refine wpAny_bind (wpAny_standAt (wpAny_bind (wpAny_subDictH (knd := tupleKind (mixKind X.prog X.w)) (show (tupleKind (mixKind X.prog X.w)).room X.A from (show X.A.units < cLine by omega)) (by rw [pairTrees_length _ _ _ _ rfl rfl]; simp) ?_)))
  refine pairTrees_cons_walk (thn (hk.run pins _ σ _ _ I1 (q _ hn)) fun u s1 ⟨x, H1, I1, rx, q1⟩ => thn (hv.run pins s1 σ H1 _ I1 q1) fun w2 s2 ⟨y, H2, I2, ry, e, kk, b, e0, hb, q2⟩ => pairTrees_nil_walk ?_)
  subst e0
  obtain rfl : u = Value.ref b := rx
  obtain ⟨z, hd, ys, rel, dd⟩ := dtx_at I2 e (fun p hp => nomatch hp)
  cases rel
  refine ⟨[(kk, b, w2)], ⟨rfl, rfl, key_is I2 hb, trivial⟩, dd, fun h' tk dd' hs => ?_⟩
  refine wpAny_pure ⟨.ref s.heap.objs.size, _, ?_, rfl, q2⟩
  have he : ∃ q, h'.get? s.heap.objs.size = some q := let ⟨q, _, _, hq, _⟩ := dd'; ⟨q, hq⟩
  have dd2 : h'.DictOfH (tupleKind (mixKind X.prog X.w)) s.heap.objs.size [(kk, b, w2)] := dd'
  exact d_write I2 (by rw [e]; exact True.intro) hs he (dtx_new (xs := [(kk, b, y)]) (by rw [sizeLine_eq]; simp) hd (.cons ⟨rfl, rfl, ry⟩ .nil) dd2)
theorem ip_ddsp {k v : Expr} {mk mv : Sg → Hq → R Val} (hK : GX G X) (hu : X.A.units + 100 < cLine) (hk : PE X k (tE G W mk)) (hv : PE X v (tE G W mv)) :
    PE X (.Dict [some k] [v] pos) (tE G W fun σ h => (mk σ h).bind fun x h1 => (mv σ h1).bind fun y h2 => dspV true x y h2) := by
  refine (pe_dispX (by omega) hk hv).imp fun τ H Q ⟨Av, s, σ, hH, rp, sr, p⟩ => ?_
  subst hH
  intro a ha
  rw [← hK.2.1, ← hK.2.2, ← hK.1]
  obtain ⟨rpA, conv⟩ := rp.more (o := dtx G.P G.w a []) ha
  have sub : ∀ b, Av b → also Av a b := fun b z => .inl z
  have t0 := (rp.upd_new (o := dtx G.P G.w a []) ha).2
  have r0 := (rp.upd_new (o := dtx G.P G.w a []) ha).1
  have cv : ∀ {v : Val} {x : V}, VR G Av s v x → VR G (also Av a) ⟨s.r, s.h, upd s.H a (dtx G.P G.w a [])⟩ v x := fun {v x} q => by
    cases q with
    | d q => exact .d (conv q)
    | ref q => exact .ref q
    | fn q => exact .fn q
  have srA : SR G (also Av a) ⟨s.r, s.h, upd s.H a (dtx G.P G.w a [])⟩ σ τ := ⟨sr.len, fun i v e => let ⟨x, e1, q⟩ := sr.at_ i v e; ⟨x, e1, cv q⟩⟩
  refine ⟨also Av a, ⟨s.r, s.h, upd s.H a (dtx G.P G.w a [])⟩, σ, rfl, rpA, srA, ?_⟩
  revert p
  show Post G (We W τ) Av s (fun v y s' => VR G Av s' v y) ((mk σ s.h).bind _) Q → Post G (We W τ) (also Av a) ⟨s.r, s.h, upd s.H a (dtx G.P G.w a [])⟩ _ (mk σ s.h) _
  cases mk σ s.h with
  | no => exact fun p => p
  | er x h => exact fun p s' c dx e1 r1 t1 z => p s' c dx e1 (r1.less sub) (t0.trans t1 r0.nd r0.len) z
  | ok kx h1 =>
    intro p s1 y1 e1 r1 t1 q1
    subst e1
    refine ⟨also Av a, s1, σ, rfl, r1, t1.sr r1.nd srA, ?_⟩
    revert p
    show Post G (We W τ) Av s (fun v y s' => VR G Av s' v y) ((mv σ s1.h).bind _) Q → Post G (We W τ) (also Av a) s1 _ (mv σ s1.h) _
    cases mv σ s1.h with
    | no => exact fun p => p
    | er x h => exact fun p s' c dx e1 r2 t2 z => p s' c dx e1 (r2.less sub) (t0.trans (t1.trans t2 r1.nd r1.len) r0.nd r0.len) z
    | ok vx h2 =>
      intro p s2 y2 e2 r2 t2 q2
      subst e2
      have p : Post G (We W τ) Av s (fun v y s' => VR G Av s' v y) (dspV true kx vx s2.h) Q := p
      have t3 := t1.trans t2 r1.nd r1.len
      have q1 := t2.vr r2.nd q1
      have hx : s2.H a = some (dtx G.P G.w a []) := t3.fr.keep a _ upd_same (fun ⟨n, e, _⟩ => rpA.dis a (.inr rfl) (List.mem_of_getElem? e)) (fun ps z => by unfold dtx at z; cases z)
      refine ⟨hx, ?_⟩
      unfold dspV Dc.put at p
      cases kx with
      | ref _ => exact p.elim
      | fn _ => exact p.elim
      | d d =>
        simp only [if_true] at p
        cases ek : keyT d with
        | none => rw [ek] at p; exact p.elim
        | some kk =>
          rw [ek] at p
          cases q1 with
          | d q1 =>
            obtain ⟨b, rfl, hb⟩ := keyT_ok q1 ek
            refine ⟨kk, b, rfl, hb, ?_⟩
            have n2 := (CR2.t (G := G) (Av := Av) (s := s) (a := a) .nil).nt
            obtain ⟨r3, t3, v3⟩ := RepH.late (io := .dct (.t [(kk, vx)])) (ob := dtx G.P G.w a [(kk, b, y2)]) rp ha r2 t3 hx n2.2.1 n2.2.2.2 n2.1 n2.2.2.1 (fun cv cs => ⟨_, upd_same, .t (.cons (cs hb) (cv q2) .nil)⟩)
            exact p ⟨s2.r ++ [a], s2.h ++ [.dct (.t [(kk, vx)])], upd s2.H a (dtx G.P G.w a [(kk, b, y2)])⟩ (.ref a) rfl r3 t3 v3
end
end Ip

set_option linter.all false
set_option Elab.async false
set_option autoImplicit false
set_option maxRecDepth 100000
/-! list.index, dict.get, dict.setdefault, lists of lists frozen. -/
namespace Ip
open PySem L2
section
variable {X : Cx} {G : Gb} {E : XK} {W : WX} {pos : Pos}
theorem ip_lidx {o a : Expr} {apos : Pos} {mo ma : Sg → Hq → R Val} (hK : G.K = X.K) (ho : PE X o (tE G W mo)) (ha : PE X a (tE G W ma)) (hbase : attributeBase o "index" X.env (eval o X.env) = eval o X.env)
    (hst : starEach [a] X.env = [(false, eval a X.env)]) (hline : (apos.endLine == pos.line) = true) :
    PE X (.Call (.Attribute o "index" apos) [a] [] pos) (tE G W fun σ h => (mo σ h).bind fun x h1 => (R.of (elsL h1 x) h1).bind fun _ h1 => (ma σ h1).bind fun y h2 => lidxV x y h2) := by
  have hst' : starEach [a] X.env = (false, eval a X.env) :: starEach [] X.env := by rw [hst]; rfl
  refine (pe_bm (T := "list") PySem.F.plainAttrs_list PySem.F.slot_list_index PySem.F.type_list_index mt_index ho (pa_cons ha pa_nil hst') hbase (by rw [hst]; rfl) hline hst' (by rfl)).imp fun τ H Q ⟨Av, s, σ, hH, rp, sr, p⟩ => ?_
  subst hH
  refine tE_bind rp sr p fun x y s1 rp1 st1 sr1 q1 p1 => ?_
  cases e0 : elsL s1.h x with
  | none => rw [e0] at p1; exact p1.elim
  | some ws =>
    rw [e0] at p1
    obtain ⟨b, zs, rfl, hq0, _⟩ := elsL_ok rp1 q1 e0
    refine ⟨.inl ⟨rfl, zs, hK ▸ hq0⟩, ?_⟩
    have p2 : Post G (We W τ) Av s1 (fun v y s' => VR G Av s' v y) ((ma σ s1.h).bind fun y h2 => lidxV x y h2) Q := p1
    show tE G W ma τ s1.H _
    refine tE_bind rp1 sr1 p2 fun w z s2 rp2 st2 sr2 q2 p3 => ?_
    have qr : VR G Av s2 x (.ref b) := st2.vr rp2.nd q1
    unfold lidxV at p3
    split at p3
    · rename_i vs e1
      split at p3
      · rename_i ds e2
        split at p3
        · rename_i ns k e3
          split at p3
          · rename_i j ej
            obtain ⟨a1, xs, ea, hq, hv2⟩ := elsL_ok rp2 qr e1
            cases ea
            rw [dats_eq e2] at hv2
            have hd := hv2.to_data
            rw [drs_ints hd e3] at hq
            obtain ⟨h1, h2⟩ := findIx_is k ej
            cases q2 with
            | d q2 =>
              cases q2
              refine ⟨b, ns.map V.int, .int k, j, .int k, rfl, rfl, hK ▸ hq, rfl, ?_, ?_, ?_, fun m z' hm hz => ?_, p3.fin rp2 (.d (.int _))⟩
              · rw [List.all_eq_true]
                intro v hv
                obtain ⟨i, _, rfl⟩ := List.mem_map.mp hv
                rfl
              · rw [List.getElem?_map, h1]; rfl
              · exact beq_self_eq_true k
              · rw [List.getElem?_map] at hz
                cases e4 : ns[m]? with
                | none => rw [e4] at hz; cases hz
                | some i =>
                  rw [e4] at hz
                  cases hz
                  exact beq_eq_false_iff_ne.mpr fun e => h2 m hm (by rw [e4, e])
          · exact p3.elim
        · exact p3.elim
      · exact p3.elim
    · exact p3.elim
theorem dctK_ok {Av : Addr → Prop} {s : S3} (rp : RepH G Av s) {x : Val} {y : V} {h' : Hq} (q : VR G Av s x y) (e : dctK x s.h = .ok () h') : ∃ n a kvs es, x = .ref n ∧ y = .ref a ∧ s.r[n]? = some a ∧ s.h[n]? = some (.dct (.k kvs)) ∧ s.H a = some (.dK es) ∧ KVs G Av s kvs es ∧ h' = s.h := by
  unfold dctK at e
  split at e
  · rename_i kvs e0
    cases e
    obtain ⟨n, a, ob, rfl, rfl, hn, hl, hH, cr⟩ := dct_ok rp q e0
    cases cr with
    | k kv => exact ⟨n, a, _, _, rfl, rfl, hn, hl, hH, kv, rfl⟩
  · cases e
theorem m2_of {o e f : Expr} {m : Str} {apos : Pos} (hb : attributeBase o m X.env (eval o X.env) = eval o X.env) (h1 : starEach [e, f] X.env = (false, eval e X.env) :: starEach [f] X.env) (h2 : starEach [f] X.env = (false, eval f X.env) :: starEach [] X.env) (hl : (apos.endLine == pos.line) = true) : M2 X o m apos e f pos :=
  ⟨hb, by rw [h1, h2]; rfl, hl, by rw [h1, h2]; rfl⟩
theorem dctK_no {x : Val} {h : Hq} {Av : Addr → Prop} {s : S3} {γ δ : Type} {Rm : γ → δ → S3 → Prop} {f : Unit → Hq → R γ} {Q : δ → Hp → Prop} (p : Post G E Av s Rm ((dctK x h).bind f) Q) : ∃ h', dctK x h = .ok () h' := by
  unfold dctK at p ⊢
  split at p
  · exact ⟨_, rfl⟩
  · exact p.elim
theorem ip_dgt {o k d : Expr} {apos : Pos} {mo mk md : Sg → Hq → R Val} (hu : X.A.units + 100 < cLine) (ho : PE X o (tE G W mo)) (hk : PE X k (tE G W mk)) (hd : PE X d (tE G W md)) (m : M2 X o "get" apos k d pos) :
    PE X (.Call (.Attribute o "get" apos) [k, d] [] pos) (tE G W fun σ h => (mo σ h).bind fun x h1 => (dctK x h1).bind fun _ h1 => (mk σ h1).bind fun y h2 => (md σ h2).bind fun z h3 => dgtV x y z h3) := by
  refine (pe_dget2 (by omega) ho hk hd m).imp fun τ H Q ⟨Av, s, σ, hH, rp, sr, p⟩ => ?_
  subst hH
  refine tE_bind rp sr p fun x y s1 rp1 st1 sr1 q1 p1 => ?_
  obtain ⟨h', ed⟩ := dctK_no p1
  obtain ⟨n, a, kvs, es, rfl, rfl, hn, hl, hH, kv, rfl⟩ := dctK_ok rp1 q1 ed
  rw [ed] at p1
  have p1 : Post G (We W τ) Av s1 (fun v y s' => VR G Av s' v y) ((mk σ s1.h).bind fun y h2 => (md σ h2).bind fun z h3 => dgtV (.ref n) y z h3) Q := p1
  refine ⟨a, rfl, .inl ⟨es, .inl hH⟩, ?_⟩
  show tE G W mk τ s1.H _
  refine tE_bind rp1 sr1 p1 fun ky kv2 s2 rp2 st2 sr2 q2 p2 => ?_
  refine tE_bind rp2 sr2 p2 fun dz dv s3 rp3 st3 sr3 q3 p3 => ?_
  have q2 := st3.vr rp3.nd q2
  have qr : VR G Av s3 (.ref n) (.ref a) := .ref (pre_get st3.pre (pre_get st2.pre hn))
  cases ky with
  | ref _ => unfold dgtV at p3; split at p3 <;> first | exact p3.elim | contradiction
  | fn _ => unfold dgtV at p3; split at p3 <;> first | exact p3.elim | contradiction
  | d dk =>
  have p3 : Post G (We W τ) Av s3 (fun v y s' => VR G Av s' v y) (match dct s3.h (.ref n) with
    | some (.k kvs) => match keyK dk with
      | some k => .ok ((lookK kvs k).getD dz) s3.h
      | none => .no
    | _ => .no) Q := by
    unfold dgtV at p3
    revert p3
    cases dct s3.h (.ref n) with
    | none => exact fun p => p
    | some c => cases c <;> exact fun p => p
  split at p3
  · rename_i kvs3 e0
    obtain ⟨n3, a3, ob, en, ea, hn3, hl3, hH3, cr⟩ := dct_ok rp3 qr e0
    cases en
    cases ea
    cases cr with
    | k kv3 =>
      split at p3
      · rename_i kk ek
        cases q2 with
        | d q2 =>
          rw [keyK_ok q2 ek]
          refine ⟨_, DGet.k hH3, ?_⟩
          rcases kv3.look kk with ⟨g1, g2⟩ | ⟨v, x, g1, g2, g3⟩
          · rw [g2]
            rw [g1] at p3
            exact p3.fin rp3 q3
          · rw [g2]
            rw [g1] at p3
            exact p3.fin rp3 g3
      · exact p3.elim
  · exact p3.elim
theorem ip_sdf {o k d : Expr} {apos : Pos} {mo mk md : Sg → Hq → R Val} (ho : PE X o (tE G W mo)) (hk : PE X k (tE G W mk)) (hd : PE X d (tE G W md)) (m : M2 X o "setdefault" apos k d pos) :
    PE X (.Call (.Attribute o "setdefault" apos) [k, d] [] pos) (tE G W fun σ h => (mo σ h).bind fun x h1 => (dctK x h1).bind fun _ h1 => (mk σ h1).bind fun y h2 => (md σ h2).bind fun z h3 => sdfV x y z h3) := by
  refine (pe_dsetd ho hk hd m).imp fun τ H Q ⟨Av, s, σ, hH, rp, sr, p⟩ => ?_
  subst hH
  refine tE_bind rp sr p fun x y s1 rp1 st1 sr1 q1 p1 => ?_
  obtain ⟨h', ed⟩ := dctK_no p1
  obtain ⟨n, a, kvs, es, rfl, rfl, hn, hl, hH, kv, rfl⟩ := dctK_ok rp1 q1 ed
  rw [ed] at p1
  have p1 : Post G (We W τ) Av s1 (fun v y s' => VR G Av s' v y) ((mk σ s1.h).bind fun y h2 => (md σ h2).bind fun z h3 => sdfV (.ref n) y z h3) Q := p1
  refine ⟨a, rfl, .inl ⟨es, .inl hH⟩, ?_⟩
  show tE G W mk τ s1.H _
  refine tE_bind rp1 sr1 p1 fun ky kv2 s2 rp2 st2 sr2 q2 p2 => ?_
  refine tE_bind rp2 sr2 p2 fun dz dv s3 rp3 st3 sr3 q3 p3 => ?_
  have q2 := st3.vr rp3.nd q2
  have hn3 := pre_get st3.pre (pre_get st2.pre hn)
  cases ky with
  | ref _ => exact p3.elim
  | fn _ => exact p3.elim
  | d dk =>
    unfold sdfV at p3
    simp only at p3
    split at p3
    · rename_i kvs3 hl3
      obtain ⟨ob, hH3, cr⟩ := rp3.obj n a _ hn3 hl3
      cases cr with
      | @k _ es3 kv3 =>
        split at p3
        · rename_i kk ek
          split at p3
          · rename_i hz
            cases q2 with
            | d q2 =>
              rw [keyK_ok q2 ek]
              refine ⟨es3, kk, hH3, rfl, by rw [← kv3.length, sizeLine_eq]; exact hz, fun v hv => ?_, fun hv => ?_⟩
              · rcases kv3.look kk with ⟨g1, g2⟩ | ⟨v', x, g1, g2, g3⟩
                · rw [g2] at hv; cases hv
                · rw [g2] at hv
                  cases hv
                  rw [g1] at p3
                  exact p3.fin rp3 g3
              · rcases kv3.look kk with ⟨g1, g2⟩ | ⟨v', x, g1, g2, g3⟩
                · rw [g1] at p3
                  obtain ⟨rp4, st4⟩ := rp3.writeD hn3 hl3 hH3 (.k kv3) (.k (kv3.stor kk q3))
                  exact p3 ⟨s3.r, s3.h.set n (.dct (.k (storK kvs3 kk dz))), upd s3.H a (.dK (putK es3 kk dv))⟩ dv rfl rp4 st4 (st4.vr rp4.nd q3)
                · rw [g2] at hv; cases hv
          · exact p3.elim
        · exact p3.elim
    · exact p3.elim
/-! ### lists of lists -/
theorem toD_lst {v : Val} {h h' : Hq} {x : D} (e : toD v h = .ok x h') {n : Nat} {ws : List Val} (hw : h'[n]? = some (.lst ws)) : h[n]? = some (.lst ws) := by
  cases v with
  | d y => cases e; exact hw
  | fn _ => cases e
  | ref m =>
    unfold toD at e
    simp only at e
    split at e
    · split at e
      · rename_i hl _ _ hd
        cases e
        by_cases z : m = n
        · subst z
          rw [List.getElem?_set_self (lt_of_get hl)] at hw
          cases hw
        · rw [List.getElem?_set_ne z] at hw
          exact hw
      · cases e
    · cases e; exact hw
    · cases e; exact hw
    · cases e
theorem toDs_lst : ∀ {vs : List Val} {h h' : Hq} {xs : List D}, toDs vs h = .ok xs h' → ∀ {n : Nat} {ws : List Val}, h'[n]? = some (.lst ws) → h[n]? = some (.lst ws)
  | [], h, h', xs, e, n, ws, hw => by cases e; exact hw
  | v :: vs, h, h', xs, e, n, ws, hw => by
    unfold toDs at e
    cases e1 : toD v h with
    | er x h1 => exact absurd e1 (toD_no_er _ _ _ _)
    | no => rw [e1] at e; cases e
    | ok x h1 =>
      rw [e1] at e
      simp only [R.bind_ok] at e
      cases e2 : toDs vs h1 with
      | er x h2 => exact absurd e2 (toDs_no_er _ _ _ _)
      | no => rw [e2] at e; cases e
      | ok ds h2 =>
        rw [e2] at e
        cases e
        exact toD_lst e1 (toDs_lst e2 hw)
/-- a list whose items became data -/
theorem RepH.killD {Av : Addr → Prop} {s : S3} (r : RepH G Av s) {n : Nat} {a : Addr} {vs : List Val} {xs : List V} {ds : List D} (hn : s.r[n]? = some a) (hl : s.h[n]? = some (.lst vs)) (hx : s.H a = some (.lst xs)) (hv : DRs G.K s.H (Bad Av s) xs ds) :
    RepH G Av ⟨s.r, s.h.set n (.dead (.list ds)), s.H⟩ ∧ Stp s ⟨s.r, s.h.set n (.dead (.list ds)), s.H⟩ ∧ DR G.K s.H (Bad Av ⟨s.r, s.h.set n (.dead (.list ds)), s.H⟩) (.ref a) (.list ds) := by
  have st : Stp s ⟨s.r, s.h.set n (.dead (.list ds)), s.H⟩ := by
    refine ⟨List.prefix_refl _, fun m _ h => ?_, Fr.refl _ _, fun _ h => .inl h⟩
    obtain ⟨o, h, ha⟩ := h
    have h : (s.h.set n (.dead (.list ds)))[m]? = some o := h
    by_cases hmn : n = m
    · subst hmn
      rw [List.getElem?_set_self (lt_of_get hl)] at h; cases h; cases ha
    · rw [List.getElem?_set_ne hmn] at h; exact ⟨o, h, ha⟩
  have dd : DR G.K s.H (Bad Av ⟨s.r, s.h.set n (.dead (.list ds)), s.H⟩) (.ref a) (.list ds) :=
    .lst (.inl ⟨.inl hx, bad_dead r.nd hn r.dis⟩) (hv.sub fun _ z => bad_set_sub z)
  refine ⟨⟨by rw [List.length_set]; exact r.len, r.nd, fun m b o e1 e2 => ?_, r.av, r.dis, r.trk, r.tabs⟩, st, dd⟩
  by_cases hmn : n = m
  · subst hmn
    have e2 : (s.h.set n (.dead (.list ds)))[n]? = some o := e2
    rw [List.getElem?_set_self (lt_of_get hl)] at e2
    cases e2
    have : b = a := by
      have e1 : s.r[n]? = some b := e1
      rw [hn] at e1; exact (Option.some.inj e1).symm
    subst this
    exact dd
  · have e2 : (s.h.set n (.dead (.list ds)))[m]? = some o := e2
    rw [List.getElem?_set_ne hmn] at e2
    have q := r.obj m b o e1 e2
    cases o with
    | lst ws =>
      obtain ⟨ys, h1, h2⟩ := q
      exact ⟨ys, h1, st.vrs r.nd h2⟩
    | dead x => exact st.dr r.nd q
    | dct c =>
      obtain ⟨ob, h1, h2⟩ := q
      exact ⟨ob, h1, h2.map (st.vr r.nd) st.fr.sqt⟩
    | tx ds2 => exact tx_step st r.nd q
    | dl kvs => exact dl_step st r.nd q
theorem ip_frzD {e : Expr} {m : Sg → Hq → R Val} (h : PE X e (tE G W m)) : PE X e (tE G W fun σ h => (m σ h).bind fun x h1 => (toDD x h1).bind fun d h2 => .ok (.d d) h2) := by
  refine h.imp fun τ H Q ⟨Av, s, σ, hH, rp, sr, p⟩ => ?_
  subst hH
  refine tE_bind rp sr p fun v y s1 rp1 st1 sr1 q1 p1 => ?_
  cases v with
  | d x => exact p1.fin rp1 q1
  | fn f => exact p1.elim
  | ref n =>
    cases q1 with
    | ref hn =>
      rename_i a
      unfold toDD at p1
      simp only at p1
      cases hl : s1.h[n]? with
      | none => rw [hl] at p1; exact p1.elim
      | some o =>
        rw [hl] at p1
        cases o with
        | dct c => exact p1.elim
        | dl kvs => exact p1.elim
        | dead x => exact p1.fin rp1 (.d (rp1.obj n a _ hn hl))
        | tx ds =>
          obtain ⟨ob, xs, e1, e2, e3⟩ := rp1.obj n a _ hn hl
          exact p1.fin rp1 (.d (.tup (.inl (.inr ⟨ob, e2⟩)) e3))
        | lst vs =>
          obtain ⟨xs, hx, hv⟩ := rp1.obj n a _ hn hl
          simp only at p1
          cases e : toDs vs s1.h with
          | er x h => exact absurd e (toDs_no_er _ _ _ _)
          | no => rw [e] at p1; exact p1.elim
          | ok ds h2 =>
            rw [e] at p1
            simp only [R.bind_ok] at p1
            obtain ⟨rp2, st2, d2⟩ := toDs_ok rp1 hv e
            cases hl2 : h2[n]? with
            | none => rw [hl2] at p1; exact p1.elim
            | some o2 =>
              rw [hl2] at p1
              cases o2 with
              | dct c => exact p1.elim
              | dl kvs => exact p1.elim
              | dead x => exact p1.elim
              | tx ds => exact p1.elim
              | lst ws =>
                obtain ⟨rp3, st3, d3⟩ := RepH.killD (s := ⟨s1.r, h2, s1.H⟩) rp2 hn hl2 hx d2
                exact p1 ⟨s1.r, h2.set n (.dead (.list ds)), s1.H⟩ (.ref a) rfl rp3 (st2.trans st3 rp2.nd rp2.len) (.d d3)
end
end Ip

set_option linter.all false
set_option Elab.async false
set_option autoImplicit false
set_option maxRecDepth 100000
set_option maxHeartbeats 4000000
/-! x[::-1] of lists and tuples. -/
namespace HT
open PySem PySem.Spec PyProof.Rows
section
variable {prog : Program} {w : World} {A : Around} {E : Value → Shared → Prop} {s : Shared}
theorem places_rev (n : Nat) : Builtin.Slice.slicePlaces ((n : Int) - 1) (-1) (-1) = n := by
  unfold Builtin.Slice.slicePlaces
  rw [if_neg (by decide)]
  by_cases h : n = 0
  · subst h; decide
  · rw [if_pos (by omega)]
    have : (((n : Int) - 1 - -1 - 1) / (- -1) + 1) = n := by
      rw [show (- -1 : Int) = 1 by decide, Int.ediv_one]; omega
    rw [this]
    exact Int.toNat_natCast n
theorem sliceApplied_rev {sl : Addr} {vl vu vs : Value} {n : Nat} {Q : Int × Int × Nat → Shared → Prop} (hs : s.heap.IsSliceOf sl vl vu vs) (pl : IsPart vl none) (pu : IsPart vu none) (ps : IsPart vs (some (-1)))
    (h : Q ((n : Int) - 1, -1, n) s) : wpAny (model prog w) A (Builtin.Slice.sliceApplied (.ref sl) (pure (n : Int))) Q E s := by
  obtain ⟨os, hos, hcs, hds⟩ := id hs
  unfold Builtin.Slice.sliceApplied Builtin.Slice.sliceFields
  refine wpAny_bind (wpAny_bind (wpAny_field hos hds (x := vl) rfl (wpAny_bind (wpAny_field hos hds (x := vu) rfl (wpAny_bind (wpAny_field hos hds (x := vs) rfl (wpAny_pure ?_)))))))
  refine wpAny_bind (slicePart_ ps ?_)
  show wpAny _ _ (if ((-1 : Int) == 0) = true then _ else _) _ _ s
  rw [if_neg (by decide)]
  refine wpAny_bind (slicePart_ pl (wpAny_bind (slicePart_ pu (wpAny_bind (wpAny_pure ?_)))))
  show wpAny _ _ (pure ((n : Int) - 1, (-1 : Int), Builtin.Slice.slicePlaces ((n : Int) - 1) (-1) (-1))) _ _ s
  rw [places_rev]
  exact wpAny_pure h
theorem pick_rev (xs : Array Value) : ((List.range xs.size).filterMap fun (m : Nat) => xs[(((xs.size : Int) - 1) + (m : Int) * (-1)).toNat]?).toArray = xs.toList.reverse.toArray := by
  have e : ((List.range xs.size).filterMap fun (m : Nat) => xs[(((xs.size : Int) - 1) + (m : Int) * (-1)).toNat]?) = (((List.range xs.size).map fun k => xs.size - 1 - k).filterMap (xs[·]?)) := by
    rw [List.filterMap_map]
    congr 1
    funext m
    show _ = xs[xs.size - 1 - m]?
    have : (((xs.size : Int) - 1) + (m : Int) * (-1)).toNat = xs.size - 1 - m := by omega
    rw [this]
  rw [e, PySem.W.krv_range, List.filterMap_reverse, PySem.W.krv_all]
theorem getItem_tuple_rev {t sl : Addr} {items : Array Value} {vl vu vs : Value} {Q : Value → Shared → Prop} (ht : IsTup s.heap t items) (hs : s.heap.IsSliceOf sl vl vu vs) (pl : IsPart vl none) (pu : IsPart vu none) (ps : IsPart vs (some (-1)))
    (h : Q (.ref s.heap.objs.size) { s with heap := s.heap.push { cls := .type "tuple", data := .seq items.toList.reverse.toArray } })
    (hsz : items.size ≤ sizeLine) : wpAny (model prog w) A (getItem (.ref t) (.ref sl)) Q E s := by
  have htake : sizeOk (.seq items.toList.reverse.toArray) := by
    show items.toList.reverse.toArray.size ≤ sizeLine
    rw [List.size_toArray, List.length_reverse, Array.length_toList]
    exact hsz
  obtain ⟨os, hos, hcs, hds⟩ := id hs
  have hTs : s.TypeIs (.ref sl) "slice" := ⟨os, hos, hcs⟩
  unfold getItem
  try with_reducible refine wpAny_holding ?_
  first | refine wpAny_bind (wpAny_pure ?_) | skip
  refine wpAny_bind (wpAny_sequenceKey ht.typeIs (by decide) ?_)
  refine wpAny_bind (wpAny_callSpecial?_slot (name := Str.ofString "__getitem__") ht.typeIs PyProof.Rows.slot_tuple_getitem
    (wpAny_call_entry PyProof.Rows.slot_tuple_getitem ht.typeIs entry_tuple_getitem ?_ (args_tuple_getitem _ _)))
  show wpAny _ _ (Builtin.Tuple.tupleItemsOf (.ref t) >>= _) _ _ s
  refine wpAny_bind (tupleItemsOf_ ht ?_)
  refine wpAny_bind (wpAny_typeOf hTs ?_)
  rw [if_pos (by decide)]
  refine wpAny_bind (sliceApplied_rev hs pl pu ps ?_)
  have hno : ¬ ((((items.size : Int) - 1) == 0 && (-1 : Int) == 1 && items.size == items.size) = true) := by
    intro q
    rw [Bool.and_eq_true, Bool.and_eq_true] at q
    exact absurd q.1.2 (by decide)
  show wpAny _ _ (if (((items.size : Int) - 1) == 0 && (-1 : Int) == 1 && items.size == items.size) = true then _ else _) _ _ s
  rw [if_neg hno, pick_rev]
  first
    | exact wpAny_bind (m := Builtin.Tuple.tupleExact _) (wpAny_newObj_type (wpAny_pure ⟨_, rfl, wpAny_pure h⟩) htake)
    | exact wpAny_bind (m := Builtin.Tuple.tupleExact _) (wpAny_newObj_type (wpAny_bind (wpAny_pure (wpAny_pure ⟨_, rfl, wpAny_pure h⟩))) htake)
    | exact wpAny_bind (wpAny_bind (m := Builtin.Tuple.tupleExact _) (wpAny_newObj_type (wpAny_pure (wpAny_pure ⟨_, rfl, wpAny_pure h⟩)) htake))
    | exact wpAny_bind (wpAny_bind (m := Builtin.Tuple.tupleExact _) (wpAny_newObj_type (wpAny_pure ⟨_, rfl, wpAny_pure h⟩) htake))
end
end HT
namespace Ip
open PySem PySem.Spec PyProof.Rows L2
section
variable {X : Cx} {G : Gb} {E : XK} {W : WX}
def tRevA (K : PySem.W.Frag) (te : TE) : TE := fun σ H Q => te σ H fun x H1 => ∃ a xs, x = .ref a ∧ ((SqL K H1 a xs ∧ ∀ p, H1 p = none → Q (.ref p) (upd H1 p (.lst xs.reverse))) ∨ (SqT K H1 a xs ∧ ∀ p, H1 p = none → Q (.ref p) (upd H1 p (.tup xs.reverse))))
theorem pe_revA {e : Expr} {te : TE} {k : Nat} {p1 p2 p3 pos : Pos} (he : PE X e te) : PE X (.Subscript e (.Slice none none (some (.UnaryOp .USub (.Constant (.int 1) k p1) p2)) p3) pos) (tRevA X.K te) := by
  refine ⟨fun pins s σ H Q I h => ?_⟩
  refine Subscript_ (thn (he.run pins s σ H _ I h) fun v s1 ⟨x, H1, I1, r1, q1⟩ => ?_)
  obtain ⟨a, xs, ex, q⟩ := q1
  subst ex
  cases r1
  have hst : PO X (some (.UnaryOp .USub (.Constant (.int 1) k p1) p2)) (tPart (tUn (rU fun i => .int (-i)) (tC (.int 1)))) := po_some (pe_un un_neg pe_int)
  refine wpAny_Slice (thn (po_none.run pins s1 σ H1 (fun o H2 => o = none ∧ H2 = H1) I1 ⟨rfl, rfl⟩) fun vl s2 ⟨l, H2, I2, pl, el, e2⟩ => ?_)
  subst el e2
  refine thn (po_none.run pins s2 σ H2 (fun o H3 => o = none ∧ H3 = H2) I2 ⟨rfl, rfl⟩) fun vu s3 ⟨u, H3, I3, pu, eu, e3⟩ => ?_
  subst eu e3
  refine thn (hst.run pins s3 σ H3 (fun o H4 => o = some (-1) ∧ H4 = H3) I3 ⟨1, rfl, -1, rfl, rfl, rfl⟩) fun vs s4 ⟨o, H4, I4, ps, eo, e4⟩ => ?_
  subst eo e4
  have I5 : Inv X pins σ H4 { s4 with heap := s4.heap.push { cls := .type "slice", data := .fields #[vl, vu, vs] } } := I4.kept (t' := s4.toks) fun b ob q => Heap.get?_push_of_some _ q
  rcases q with ⟨hx, q⟩ | ⟨hx, q⟩
  · obtain ⟨its, r, ht, hz⟩ := I5.list hx
    have hlen := r.length
    show wpAny (model X.prog X.w) X.A (subscriptTail e (.Slice none none (some (.UnaryOp .USub (.Constant (.int 1) k p1) p2)) p3) (.ref a) (.ref s4.heap.objs.size)) (EP X pins σ Q) X.xe { s4 with heap := s4.heap.push { cls := .type "slice", data := .fields #[vl, vu, vs] } }
    refine tail_any (ops := [.ref a, .ref s4.heap.objs.size]) ht.isList.typeIs (PySem.slot_list_getitem.lookup) ?_ (by with_unfolding_all rfl)
    refine wpAny_getItem_list_slice ht.isList (Heap.IsSliceOf.new _ vl vu vs) pl pu ps (by decide) ?_ (by rw [List.size_toArray]; omega)
    rw [PySem.W.krv_pick]
    refine ⟨.ref _, _, I5.laid (t' := s4.toks) (o := .lst xs.reverse) (fun b ob q => Heap.get?_push_of_some _ q) (Nat.le_refl _) ?_, rfl, q _ (I5.hok.fresh (Nat.le_refl _))⟩
    exact ⟨by rw [List.length_reverse]; exact hz, _, 0, r.reverse, Heap.get?_push_size _ rfl⟩
  · obtain ⟨its, r, ht, hz⟩ := I5.tuple hx
    have hlen := r.length
    show wpAny (model X.prog X.w) X.A (subscriptTail e (.Slice none none (some (.UnaryOp .USub (.Constant (.int 1) k p1) p2)) p3) (.ref a) (.ref s4.heap.objs.size)) (EP X pins σ Q) X.xe { s4 with heap := s4.heap.push { cls := .type "slice", data := .fields #[vl, vu, vs] } }
    refine tail_any (ops := [.ref a, .ref s4.heap.objs.size]) ht.typeIs (PyProof.Rows.slot_tuple_getitem.lookup) ?_ (by with_unfolding_all rfl)
    refine HT.getItem_tuple_rev ht (Heap.IsSliceOf.new _ vl vu vs) pl pu ps ?_ (by rw [List.size_toArray]; omega)
    refine ⟨.ref _, _, I5.laid (t' := s4.toks) (o := .tup xs.reverse) (fun b ob q => Heap.get?_push_of_some _ q) (Nat.le_refl _) ?_, rfl, q _ (I5.hok.fresh (Nat.le_refl _))⟩
    exact ⟨by rw [List.length_reverse]; exact hz, _, r.reverse, ⟨_, Heap.get?_push_size _ rfl, rfl, _, rfl⟩⟩
theorem DRs.snoc {K : PySem.W.Frag} {H : Hp} {B : Addr → Prop} : ∀ {xs : List V} {ds : List D} {x : V} {d : D}, DRs K H B xs ds → DR K H B x d → DRs K H B (xs ++ [x]) (ds ++ [d])
  | _, _, _, _, .nil, h => .cons h .nil
  | _, _, _, _, .cons h0 t, h => .cons h0 (DRs.snoc t h)
theorem DRs.reverse {K : PySem.W.Frag} {H : Hp} {B : Addr → Prop} : ∀ {xs : List V} {ds : List D}, DRs K H B xs ds → DRs K H B xs.reverse ds.reverse
  | _, _, .nil => .nil
  | _, _, .cons h t => by
    rw [List.reverse_cons, List.reverse_cons]
    exact (DRs.reverse t).snoc h
theorem ip_rev {a : Expr} {k : Nat} {p1 p2 p3 pos : Pos} {m : Sg → Hq → R Val} (hK : G.K = X.K) (ha : PE X a (tE G W m)) :
    PE X (.Subscript a (.Slice none none (some (.UnaryOp .USub (.Constant (.int 1) k p1) p2)) p3) pos) (tE G W fun σ h => (m σ h).bind fun x h1 => revV x h1) := by
  refine (pe_revA ha).imp fun τ H Q ⟨Av, s, σ, hH, rp, sr, p⟩ => ?_
  subst hH
  refine tE_bind rp sr p fun v y s1 rp1 st1 sr1 q1 p1 => ?_
  unfold revV at p1
  split at p1
  · cases q1 with
    | d q1 =>
      cases q1 with
      | tup h t => exact ⟨_, _, rfl, .inr ⟨hK ▸ h, fun p hp => Post.newT rp1 t.reverse p1 hp⟩⟩
  · cases q1 with
    | d q1 =>
      cases q1 with
      | lst h t => exact ⟨_, _, rfl, .inl ⟨hK ▸ sql_of h, fun p hp => Post.newL rp1 t.reverse p1 hp⟩⟩
  · exact p1.elim
end
end Ip

set_option linter.all false
set_option Elab.async false
set_option autoImplicit false
/-! Targets, what is walked, comprehensions. -/
namespace Ip
open PySem L2

section
variable {X : Cx} {G : Gb} {E : XK} {W : WX} {pos : Pos}

/-! ### slots -/
theorem SR.set {Av : Addr → Prop} {s : S3} {σ : Sg} {τ : L2.St} (h : SR G Av s σ τ) {v : Val} {x : V} (q : VR G Av s v x) (i : Nat) : SR G Av s (σ.set i (some v)) (τ.set i (some x)) := by
  refine ⟨by rw [List.length_set, List.length_set]; exact h.len, fun j w e => ?_⟩
  by_cases hij : i = j
  · subst hij
    by_cases hi : i < σ.length
    · rw [List.getElem?_set_self hi] at e
      have e : some v = some w := Option.some.inj e
      cases e
      exact ⟨x, by rw [List.getElem?_set_self (by rw [← h.len]; exact hi)], q⟩
    · rw [List.getElem?_eq_none (by rw [List.length_set]; exact Nat.not_lt.mp hi)] at e; cases e
  · rw [List.getElem?_set_ne hij] at e
    obtain ⟨y, e2, q2⟩ := h.at_ j w e
    exact ⟨y, by rw [List.getElem?_set_ne hij]; exact e2, q2⟩
theorem SR.unset {Av : Addr → Prop} {s : S3} {σ : Sg} {τ : L2.St} (h : SR G Av s σ τ) (i : Nat) : SR G Av s (σ.set i none) (τ.set i none) := by
  refine ⟨by rw [List.length_set, List.length_set]; exact h.len, fun j w e => ?_⟩
  by_cases hij : i = j
  · subst hij
    by_cases hi : i < σ.length
    · rw [List.getElem?_set_self hi] at e; cases e
    · rw [List.getElem?_eq_none (by rw [List.length_set]; exact Nat.not_lt.mp hi)] at e; cases e
  · rw [List.getElem?_set_ne hij] at e
    obtain ⟨y, e2, q2⟩ := h.at_ j w e
    exact ⟨y, by rw [List.getElem?_set_ne hij]; exact e2, q2⟩
theorem SR.wipe {Av : Addr → Prop} {s : S3} {σ : Sg} {τ : L2.St} (h : SR G Av s σ τ) : ∀ is : List Nat, SR G Av s (Ip.wipe σ is) (L2.wipe τ is)
  | [] => h
  | i :: is => (SR.wipe h is).unset i
theorem wipe_set (τ : L2.St) (o : Option V) : ∀ (is : List Nat) (i : Nat), i ∈ is → L2.wipe (τ.set i o) is = L2.wipe τ is
  | [], _, h => by cases h
  | j :: js, i, h => by
    unfold L2.wipe
    by_cases hm : i ∈ js
    · rw [wipe_set τ o js i hm]
    · have : i = j := by
        rcases List.mem_cons.mp h with h | h
        · exact h
        · exact absurd h hm
      subst this
      have aux : ∀ (ks : List Nat), i ∉ ks → L2.wipe (τ.set i o) ks = (L2.wipe τ ks).set i o := by
        intro ks
        induction ks with
        | nil => intro _; rfl
        | cons k ks ih =>
          intro hk
          unfold L2.wipe
          rw [ih (fun z => hk (List.mem_cons_of_mem _ z))]
          have : i ≠ k := fun z => hk (by rw [z]; exact List.mem_cons_self)
          rw [List.set_comm _ _ this]
      rw [aux js hm, List.set_set]
theorem wipe_wipe (τ : L2.St) (is : List Nat) : L2.wipe (L2.wipe τ is) is = L2.wipe τ is := by
  have aux : ∀ (ks : List Nat), (∀ k ∈ ks, k ∈ is) → L2.wipe (L2.wipe τ ks) is = L2.wipe τ is := by
    intro ks
    induction ks with
    | nil => intro _; rfl
    | cons k ks ih =>
      intro h
      show L2.wipe ((L2.wipe τ ks).set k none) is = _
      rw [wipe_set _ _ is k (h k List.mem_cons_self)]
      exact ih fun j hj => h j (List.mem_cons_of_mem _ hj)
  exact aux is fun _ h => h

/-! ### targets -/
/-- the slots of a target -/
def tgs : Tgt → List Nat
  | .nm i => [i]
  | .tp is => is
/-- what a target takes -/
def tG (G : Gb) (t : Tgt) : TG := fun x τ H Q => ∃ (Av : Addr → Prop) (s : S3) (σ σ' : Sg) (v : Val), s.H = H ∧ RepH G Av s ∧ SR G Av s σ τ ∧ VR G Av s v x ∧ bindT s.h t v σ = some σ' ∧
  ∀ τ', SR G Av s σ' τ' → (∀ is : List Nat, (∀ i ∈ tgs t, i ∈ is) → L2.wipe τ' is = L2.wipe τ is) → Q τ' H
theorem _root_.L2.PG.imp {tg : Expr} {g g' : TG} (h : PG X tg g) (q : ∀ v τ H Q, g' v τ H Q → g v τ H Q) : PG X tg g' := ⟨fun pins s σ H v u Q I r w => h.run pins s σ H v u Q I r (q _ _ _ _ w)⟩
theorem _root_.L2.PG.or {tg : Expr} {g g' : TG} (h : PG X tg g) (h' : PG X tg g') : PG X tg (fun v τ H Q => g v τ H Q ∨ g' v τ H Q) :=
  ⟨fun pins s σ H v u Q I r w => w.elim (fun w => h.run pins s σ H v u Q I r w) fun w => h'.run pins s σ H v u Q I r w⟩
theorem ig_nm {tg : Expr} {i : Nat} (h : PG X tg (gName i)) : PG X tg (tG G (.nm i)) := by
  refine h.imp fun x τ H Q ⟨Av, s, σ, σ', v, hH, rp, sr, q, e, w⟩ => ?_
  cases e
  exact w _ (sr.set q i) fun is hi => wipe_set τ _ is i (hi i List.mem_cons_self)
/-- the slots one after another -/
def gNames : List Nat → TGs
  | [] => gNil
  | i :: is => gCons (gName i) (gNames is)
theorem gNames_ok {Av : Addr → Prop} {s : S3} : ∀ (is : List Nat) {vs : List Val} {xs : List V} {σ : Sg} {τ : L2.St} {Q : L2.St → Hp → Prop}, SR G Av s σ τ → VRs G Av s vs xs → vs.length = is.length →
    (∀ τ', SR G Av s ((is.zip vs).foldl (fun s p => s.set p.1 (some p.2)) σ) τ' → (∀ js : List Nat, (∀ i ∈ is, i ∈ js) → L2.wipe τ' js = L2.wipe τ js) → Q τ' s.H) → gNames is xs τ s.H Q
  | [], _, _, σ, τ, Q, sr, .nil, _, w => ⟨rfl, w τ sr fun _ _ => rfl⟩
  | i :: is, _, _, σ, τ, Q, sr, .cons h t, e, w => by
    refine ⟨_, _, rfl, gNames_ok is (sr.set h i) t (Nat.succ.inj e) fun τ' s' wi => w τ' s' fun js hj => ?_⟩
    rw [wi js fun k hk => hj k (List.mem_cons_of_mem _ hk)]
    exact wipe_set τ _ js i (hj i List.mem_cons_self)
  | [], _, _, _, _, _, _, .cons _ _, e, _ => by cases e
  | _ :: _, _, _, _, _, _, _, .nil, e, _ => by cases e
theorem ig_tp {tg : Expr} {is : List Nat} (hK : G.K = X.K) (h : PG X tg (gTup X.K is.length (gNames is))) (h' : PG X tg (gUnl X.K is.length (gNames is))) : PG X tg (tG G (.tp is)) := by
  refine (h.or h').imp fun x τ H Q ⟨Av, s, σ, σ', v, hH, rp, sr, q, e, w⟩ => ?_
  subst hH
  simp only [bindT] at e
  split at e
  · rename_i vs e1
    split at e
    · rename_i hl
      cases e
      obtain ⟨a, xs, rfl, hq, hv⟩ := els_ok rp q e1
      rw [hK] at hq
      have hg := gNames_ok is (Q := Q) sr hv hl w
      rcases hq with hq | hq
      · exact .inr ⟨a, xs, rfl, hq, by rw [← hv.length]; exact hl, hg⟩
      · exact .inl ⟨a, xs, rfl, hq, by rw [← hv.length]; exact hl, hg⟩
    · cases e
  · cases e

/-! ### what is walked -/
/-- from s0 on, J gives the items vs one after another -/
def Src (G : Gb) (Av : Addr → Prop) (J : It) (vs : List Val) (s0 : S3) : Prop :=
  ∀ (Av' : Addr → Prop) (s : S3), RepH G Av' s → Stp s0 s → (∀ a, s0.H a ≠ none → Av' a → Av a) → ∀ i,
    (∀ v, vs[i]? = some v → J.go i s.H ∧ ∀ x H', J.yld i s.H x H' → ∃ s', s'.H = H' ∧ s'.h = s.h ∧ RepH G Av' s' ∧ Stp s s' ∧ VR G Av' s' v x) ∧ (vs[i]? = none → J.stop i s.H)
/-- what is walked, as the evaluator has it -/
def SvR (G : Gb) (Av : Addr → Prop) : Sv → It → S3 → Prop
  | .data vs, J, s => Src G Av J vs s
  | .obj n, J, s => ∃ a, s.r[n]? = some a ∧ J = Itl G.K a
def tI (G : Gb) (W : WX) (m : Sg → Hq → R Sv) : TI := fun τ H R => ∃ (Av : Addr → Prop) (s : S3) (σ : Sg), s.H = H ∧ RepH G Av s ∧ SR G Av s σ τ ∧ Post G (We W τ) Av s (SvR G Av) (m σ s.h) R
theorem _root_.L2.PI.imp {tg e : Expr} {t t' : TI} (h : PI X tg e t) (q : ∀ τ H Q, t' τ H Q → t τ H Q) : PI X tg e t' := ⟨fun pins s σ H Q I w => h.run pins s σ H Q I (q _ _ _ w)⟩
theorem Stp.bad' {Av Av' : Addr → Prop} {s s' : S3} (t : Stp s s') (nd : s'.r.Nodup) (hA : ∀ a, s.H a ≠ none → Av' a → Av a) : ∀ a, s.H a ≠ none → ¬ Bad Av s a → ¬ Bad Av' s' a := fun a ha hb hb' => by
  rcases hb' with h | h
  · exact hb (.inl (hA a ha h))
  · exact t.bad nd a ha hb (.inr h)
theorem Stp.dr' {Av Av' : Addr → Prop} {s s' : S3} (t : Stp s s') (nd : s'.r.Nodup) (hA : ∀ a, s.H a ≠ none → Av' a → Av a) {v : V} {d : D} (h : DR G.K s.H (Bad Av s) v d) : DR G.K s'.H (Bad Av' s') v d :=
  DR.mono t.fr (fun a z => .inr z) (t.bad' nd hA) h
theorem Stp.drs' {Av Av' : Addr → Prop} {s s' : S3} (t : Stp s s') (nd : s'.r.Nodup) (hA : ∀ a, s.H a ≠ none → Av' a → Av a) {v : List V} {d : List D} (h : DRs G.K s.H (Bad Av s) v d) : DRs G.K s'.H (Bad Av' s') v d :=
  DRs.mono t.fr (fun a z => .inr z) (t.bad' nd hA) h
theorem Stp.vr' {Av Av' : Addr → Prop} {s s' : S3} (t : Stp s s') (nd : s'.r.Nodup) (hA : ∀ a, s.H a ≠ none → Av' a → Av a) {v : Val} {x : V} (h : VR G Av s v x) : VR G Av' s' v x := by
  cases h with
  | d q => exact .d (t.dr' nd hA q)
  | ref q => exact .ref (pre_get t.pre q)
  | fn q => exact .fn q
theorem Stp.vrs' {Av Av' : Addr → Prop} {s s' : S3} (t : Stp s s') (nd : s'.r.Nodup) (hA : ∀ a, s.H a ≠ none → Av' a → Av a) : ∀ {vs : List Val} {xs : List V}, VRs G Av s vs xs → VRs G Av' s' vs xs
  | _, _, .nil => .nil
  | _, _, .cons h q => .cons (t.vr' nd hA h) (t.vrs' nd hA q)
theorem DRs.get {K : PySem.W.Frag} {H : Hp} {B : Addr → Prop} : ∀ {xs : List V} {ds : List D} {i : Nat} {d : D}, DRs K H B xs ds → ds[i]? = some d → ∃ x, xs[i]? = some x ∧ DR K H B x d
  | _, _, _, _, .nil, e => by simp at e
  | _, _, 0, v, .cons h _, e => by
    have e : some _ = some v := e
    cases e
    exact ⟨_, rfl, h⟩
  | _, _, i + 1, v, .cons _ t, e => DRs.get (i := i) t e
/-- a list of data that stands -/
theorem src_list {Av : Addr → Prop} {s0 : S3} {a : Addr} {xs : List V} {ds : List D} (h : (Rd s0.H a (.lst xs) ∧ ¬ Bad Av s0 a) ∨ WrL G.K a xs) (t : DRs G.K s0.H (Bad Av s0) xs ds) : Src G Av (Itl G.K a) (ds.map .d) s0 := by
  intro Av' s rp st hA i
  have hq : SqL G.K s.H a xs := by
    rcases h with h | h
    · exact .inl (st.fr.rd h.1 (fun z => h.2 (.inr z)) (fun ps z => by cases z))
    · exact h.any _
  have hd := st.drs' rp.nd hA t
  constructor
  · intro v e
    rw [List.getElem?_map] at e
    cases e2 : ds[i]? with
    | none => rw [e2] at e; cases e
    | some d =>
      rw [e2] at e
      cases e
      obtain ⟨x, ex, dx⟩ := hd.get e2
      refine ⟨⟨xs, x, hq, ex⟩, fun y H' yl => ?_⟩
      obtain ⟨rfl, hy⟩ := yl
      have := hy xs hq
      rw [ex] at this
      cases this
      exact ⟨s, rfl, rfl, rp, Stp.refl _, .d dx⟩
  · intro e
    refine ⟨xs, hq, ?_⟩
    rw [t.length]
    rw [List.getElem?_map] at e
    cases e2 : ds[i]? with
    | none => exact List.getElem?_eq_none_iff.mp e2
    | some d => rw [e2] at e; cases e
theorem src_tup {Av : Addr → Prop} {s0 : S3} {a : Addr} {xs : List V} {ds : List D} (h : SqT G.K s0.H a xs) (t : DRs G.K s0.H (Bad Av s0) xs ds) : Src G Av (Itt G.K a) (ds.map .d) s0 := by
  intro Av' s rp st hA i
  have hq : SqT G.K s.H a xs := st.fr.sqt h
  have hd := st.drs' rp.nd hA t
  constructor
  · intro v e
    rw [List.getElem?_map] at e
    cases e2 : ds[i]? with
    | none => rw [e2] at e; cases e
    | some d =>
      rw [e2] at e
      cases e
      obtain ⟨x, ex, dx⟩ := hd.get e2
      refine ⟨⟨xs, x, hq, ex⟩, fun y H' yl => ?_⟩
      obtain ⟨rfl, hy⟩ := yl
      have := hy xs hq
      rw [ex] at this
      cases this
      exact ⟨s, rfl, rfl, rp, Stp.refl _, .d dx⟩
  · intro e
    refine ⟨xs, hq, ?_⟩
    rw [t.length]
    rw [List.getElem?_map] at e
    cases e2 : ds[i]? with
    | none => exact List.getElem?_eq_none_iff.mp e2
    | some d => rw [e2] at e; cases e
theorem rangeL_get : ∀ (n : Nat) (lo : Int) (i : Nat), (rangeL lo n)[i]? = if i < n then some (Val.d (.int (lo + i))) else none
  | 0, lo, i => by simp [rangeL]
  | n + 1, lo, 0 => by simp [rangeL]
  | n + 1, lo, i + 1 => by
    show (rangeL (lo + 1) n)[i]? = _
    rw [rangeL_get n (lo + 1) i]
    by_cases h : i < n
    · rw [if_pos h, if_pos (Nat.succ_lt_succ h)]
      congr 3
      omega
    · rw [if_neg h, if_neg (fun z => h (Nat.lt_of_succ_lt_succ z))]
theorem src_rng {Av : Addr → Prop} {s0 : S3} {lo : Int} {n : Nat} : Src G Av (Itr lo n) (rangeL lo n) s0 := by
  intro Av' s rp st hA i
  rw [rangeL_get]
  constructor
  · intro v e
    split at e
    · rename_i h
      cases e
      refine ⟨h, fun y H' yl => ?_⟩
      obtain ⟨rfl, rfl⟩ := yl
      exact ⟨s, rfl, rfl, rp, Stp.refl _, .d (.int _)⟩
    · cases e
  · intro e
    split at e
    · cases e
    · rename_i h; exact Nat.not_lt.mp h

/-- a list or a tuple, walked -/
def iSeq (K : PySem.W.Frag) (tl : TE) : TI := fun σ H R => tl σ H fun x H1 => ∃ a, x = .ref a ∧ (((∃ xs, SqL K H1 a xs) ∧ R (Itl K a) H1) ∨ ((∃ xs, SqT K H1 a xs) ∧ R (Itt K a) H1))
theorem pi_seq {tg l : Expr} {tl : TE} (hl : PE X l tl) : PI X tg l (iSeq X.K tl) := by
  refine ⟨fun pins s σ H R I h => ?_⟩
  refine thn (hl.run pins s σ H _ I h) fun v s1 ⟨x, H1, I1, r1, q1⟩ => ?_
  obtain ⟨a, e, q1⟩ := q1
  subst e
  cases r1
  rcases q1 with ⟨⟨xs, hq⟩, q⟩ | ⟨⟨xs, hq⟩, q⟩
  · obtain ⟨its, rv, p, hz⟩ := I1.list hq
    refine PySem.wpAny_pyIter_list p.isList ?_
    refine ⟨s1.heap.objs.size, [s1.heap.objs.size], _, _, H1, rfl, I1.kept (t' := s1.toks) fun b o e => Heap.get?_push_of_some _ e, turn_list a _, ⟨_, Heap.get?_push_size _ rfl, rfl, rfl⟩, fun b hb => ?_, q⟩
    have e : b = s1.heap.objs.size := by simpa using hb
    subst e
    exact I1.fpOk (Nat.le_refl _) (I1.hok.fresh (Nat.le_refl _))
  · obtain ⟨its, rv, p, hz⟩ := I1.tuple hq
    refine PySem.wpAny_pyIter_tuple (show s1.heap.IsTuple a its.toArray from p) ?_
    refine ⟨s1.heap.objs.size, [s1.heap.objs.size], _, _, H1, rfl, I1.kept (t' := s1.toks) fun b o e => Heap.get?_push_of_some _ e, turn_tuple a _, ⟨_, Heap.get?_push_size _ rfl, rfl, rfl⟩, fun b hb => ?_, q⟩
    have e : b = s1.heap.objs.size := by simpa using hb
    subst e
    exact I1.fpOk (Nat.le_refl _) (I1.hok.fresh (Nat.le_refl _))
theorem ii_val {tg l : Expr} {ma : Sg → Hq → R Val} (hK : G.K = X.K) (ha : PE X l (tE G W ma)) : PI X tg l (tI G W fun σ h => (ma σ h).bind fun x h1 => srcV x h1) := by
  refine (pi_seq ha).imp fun τ H Q ⟨Av, s, σ, hH, rp, sr, p⟩ => ?_
  subst hH
  refine tE_bind rp sr p fun v y s1 rp1 st1 sr1 q1 p1 => ?_
  cases q1 with
  | fn _ => exact p1.elim
  | d q =>
    cases q with
    | non => exact p1.elim
    | bl b => exact p1.elim
    | int i => exact p1.elim
    | str z => exact p1.elim
    | lst h t => exact ⟨_, rfl, .inl ⟨⟨_, hK ▸ sql_of h⟩, hK ▸ p1.fin rp1 (src_list h t)⟩⟩
    | tup h t => exact ⟨_, rfl, .inr ⟨⟨_, hK ▸ h⟩, hK ▸ p1.fin rp1 (src_tup h t)⟩⟩
  | ref hn =>
    unfold srcV at p1
    simp only at p1
    split at p1
    · rename_i n b ws hl
      obtain ⟨xs, hx, hv⟩ := rp1.obj _ _ _ hn hl
      exact ⟨_, rfl, .inl ⟨⟨xs, .inl (.inl hx)⟩, hK ▸ p1.fin rp1 ⟨_, hn, rfl⟩⟩⟩
    · rename_i n b ws hl
      have q := rp1.obj _ _ _ hn hl
      cases q with
      | lst h t => exact ⟨_, rfl, .inl ⟨⟨_, hK ▸ sql_of h⟩, hK ▸ p1.fin rp1 (src_list h t)⟩⟩
    · rename_i hl
      obtain ⟨ob, xs, e1, e2, e3⟩ := rp1.obj _ _ _ hn hl
      have h : SqT G.K s1.H _ xs := .inl (.inr ⟨ob, e2⟩)
      exact ⟨_, rfl, .inr ⟨⟨_, hK ▸ h⟩, hK ▸ p1.fin rp1 (src_tup h e3)⟩⟩
    · exact p1.elim
end
end Ip

set_option linter.all false
set_option Elab.async false
set_option autoImplicit false
/-! Ranges, zip, comprehensions. -/
namespace Ip
open PySem L2

section
variable {X : Cx} {G : Gb} {E : XK} {W : WX} {pos : Pos}

theorem okRng_c {i : Int} (h : okRng i = true) : -(2 ^ 62) ≤ i ∧ i < 2 ^ 62 := by
  have h := lt_of_log2 (of_decide_eq_true h)
  omega
theorem intV_ok {Av : Addr → Prop} {s : S3} {v : Val} {y : V} {i : Int} (q : VR G Av s v y) (e : intV v = some i) : y = .int i := by
  cases q with
  | d q =>
    cases q with
    | int j => cases e; rfl
    | non => cases e
    | bl b => cases e
    | str z => cases e
    | lst h t => cases e
    | tup h t => cases e
  | ref _ => cases e
  | fn _ => cases e
theorem ii_rng {tg a : Expr} {p : Pos} {ma : Sg → Hq → R Val} (hg : Gl X "range") (hm : X.mg "range" = none) (ha : PE X a (tE G W ma)) (hs : starEach [a] X.env = [(false, eval a X.env)]) :
    PI X tg (.Call (.Name "range" p) [a] [] pos) (tI G W fun σ h => (ma σ h).bind fun x h1 => match intV x with | some i => if okRng i then .ok (.data (rangeL 0 i.toNat)) h1 else .no | none => .no) := by
  have hst' : starEach [a] X.env = (false, eval a X.env) :: starEach [] X.env := by rw [hs]; rfl
  refine (pi_range1 hg hm (pa_cons ha pa_nil hst') hs).imp fun τ H Q ⟨Av, s, σ, hH, rp, sr, p⟩ => ?_
  subst hH
  refine tE_bind rp sr p fun v y s1 rp1 st1 sr1 q1 p1 => ?_
  split at p1
  · rename_i i e
    cases intV_ok q1 e
    split at p1
    · rename_i hf
      obtain ⟨h1, h2⟩ := okRng_c hf
      exact ⟨i, rfl, h1, h2, p1.fin rp1 src_rng⟩
    · exact p1.elim
  · exact p1.elim
theorem ii_rng2 {tg a b : Expr} {p : Pos} {ma mb : Sg → Hq → R Val} (hg : Gl X "range") (hm : X.mg "range" = none) (ha : PE X a (tE G W ma)) (hb : PE X b (tE G W mb)) (hs : starEach [a, b] X.env = [(false, eval a X.env), (false, eval b X.env)]) (hs2 : starEach [b] X.env = [(false, eval b X.env)]) :
    PI X tg (.Call (.Name "range" p) [a, b] [] pos) (tI G W fun σ h => (ma σ h).bind fun x h1 => (mb σ h1).bind fun y h2 => match intV x, intV y with | some i, some j => if okRng i && okRng j then .ok (.data (rangeL i (j - i).toNat)) h2 else .no | _, _ => .no) := by
  have hst' : starEach [a, b] X.env = (false, eval a X.env) :: starEach [b] X.env := by rw [hs, hs2]
  have hst2 : starEach [b] X.env = (false, eval b X.env) :: starEach [] X.env := by rw [hs2]; rfl
  refine (pi_range2 hg hm (pa_cons ha (pa_cons hb pa_nil hst2) hst') hs hs2).imp fun τ H Q ⟨Av, s, σ, hH, rp, sr, p⟩ => ?_
  subst hH
  refine tE_bind rp sr p fun v y s1 rp1 st1 sr1 q1 p1 => ?_
  refine tE_bind rp1 sr1 p1 fun w z s2 rp2 st2 sr2 q2 p2 => ?_
  split at p2
  · rename_i i j e e2
    cases intV_ok q1 e
    cases intV_ok q2 e2
    split at p2
    · rename_i hf
      rw [Bool.and_eq_true] at hf
      obtain ⟨h1, h2⟩ := okRng_c hf.1
      obtain ⟨h3, h4⟩ := okRng_c hf.2
      exact ⟨i, j, rfl, ⟨h1, h2, h3, h4⟩, p2.fin rp2 src_rng⟩
    · exact p2.elim
  · exact p2.elim
theorem src_zip {Av : Addr → Prop} {s0 : S3} {a b : Addr} {xs ys : List V} {ds es : List D} (h : (Rd s0.H a (.lst xs) ∧ ¬ Bad Av s0 a) ∨ WrL G.K a xs) (t : DRs G.K s0.H (Bad Av s0) xs ds) (h' : (Rd s0.H b (.lst ys) ∧ ¬ Bad Av s0 b) ∨ WrL G.K b ys) (t' : DRs G.K s0.H (Bad Av s0) ys es) :
    Src G Av (Itz G.K a b) ((ds.zip es).map fun p => .d (.tuple [p.1, p.2])) s0 := by
  intro Av' s rp st hA i
  have sq : ∀ {a : Addr} {xs : List V}, (Rd s0.H a (.lst xs) ∧ ¬ Bad Av s0 a) ∨ WrL G.K a xs → SqL G.K s.H a xs := fun h => by
    rcases h with h | h
    · exact .inl (st.fr.rd h.1 (fun z => h.2 (.inr z)) (fun ps z => by cases z))
    · exact h.any _
  have hq := sq h
  have hq' := sq h'
  have hd := st.drs' rp.nd hA t
  have hd' := st.drs' rp.nd hA t'
  constructor
  · intro v e
    rw [List.getElem?_map] at e
    cases e2 : (ds.zip es)[i]? with
    | none => rw [e2] at e; cases e
    | some d =>
      rw [e2] at e
      cases e
      obtain ⟨e3, e4⟩ := List.getElem?_zip_eq_some.mp e2
      obtain ⟨x, ex, dx⟩ := hd.get e3
      obtain ⟨y, ey, dy⟩ := hd'.get e4
      refine ⟨⟨xs, ys, x, y, hq, hq', ex, ey⟩, fun z H' yl => ?_⟩
      obtain ⟨T, x1, x2, rfl, hT, rfl, f1, f2⟩ := yl
      have g1 := f1 xs hq
      have g2 := f2 ys hq'
      rw [ex] at g1
      rw [ey] at g2
      cases g1; cases g2
      obtain ⟨rp3, st3⟩ := rp.upd_new (o := .tup [x, y]) hT
      exact ⟨⟨s.r, s.h, upd s.H T (.tup [x, y])⟩, rfl, rfl, rp3, st3, .d (.tup (SqT.of upd_same) (.cons (st3.dr rp3.nd dx) (.cons (st3.dr rp3.nd dy) .nil)))⟩
  · intro e
    rw [List.getElem?_map] at e
    have e2 : (ds.zip es)[i]? = none := by
      cases e2 : (ds.zip es)[i]? with
      | none => rfl
      | some d => rw [e2] at e; cases e
    have e3 := List.getElem?_eq_none_iff.mp e2
    rw [List.length_zip] at e3
    refine ⟨xs, ys, hq, hq', ?_⟩
    rw [t.length, t'.length]
    omega
theorem ii_zip {a b : Expr} {elts : List Expr} {kk : Nat} {p tpos : Pos} {ma mb : Sg → Hq → R Val} (hK : G.K = X.K) (hg : Gl X "zip") (hm : X.mg "zip" = none) (ha : PE X a (tE G W ma)) (hb : PE X b (tE G W mb)) (hs : starEach [a, b] X.env = [(false, eval a X.env), (false, eval b X.env)]) (hs2 : starEach [b] X.env = [(false, eval b X.env)]) :
    PI X (.Tuple elts kk tpos) (.Call (.Name "zip" p) [a, b] [] pos) (tI G W fun σ h => (ma σ h).bind fun x h1 => (mb σ h1).bind fun y h2 => match x, y with
    | .d (.list xs), .d (.list ys) => .ok (.data ((xs.zip ys).map fun p => .d (.tuple [p.1, p.2]))) h2
    | _, _ => .no) := by
  have hst' : starEach [a, b] X.env = (false, eval a X.env) :: starEach [b] X.env := by rw [hs, hs2]
  have hst2 : starEach [b] X.env = (false, eval b X.env) :: starEach [] X.env := by rw [hs2]; rfl
  refine (pi_zip hg hm (pa_cons ha (pa_cons hb pa_nil hst2) hst') hst' (by rw [hs2]; rfl)).imp fun τ H Q ⟨Av, s, σ, hH, rp, sr, p⟩ => ?_
  subst hH
  refine tE_bind rp sr p fun v y s1 rp1 st1 sr1 q1 p1 => ?_
  refine tE_bind rp1 sr1 p1 fun w z s2 rp2 st2 sr2 q2 p2 => ?_
  have q1 := st2.vr rp2.nd q1
  split at p2
  · cases q1 with
    | d q1 =>
      cases q1 with
      | lst h t =>
        cases q2 with
        | d q2 =>
          cases q2 with
          | lst h' t' => exact ⟨_, _, _, _, rfl, hK ▸ sql_of h, hK ▸ sql_of h', hK ▸ p2.fin rp2 (src_zip h t h' t')⟩
  · exact p2.elim

/-! ### a comprehension -/
/-- an object that may be written here alone -/
theorem RepH.own {Av : Addr → Prop} {s : S3} {p : Addr} {zs xs : List V} (rp : RepH G (also Av p) s) (hp : s.H p = some (.lst zs)) :
    RepH G (also Av p) ⟨s.r, s.h, upd s.H p (.lst xs)⟩ ∧ ∀ {v : Val} {x : V}, VR G (also Av p) s v x → VR G (also Av p) ⟨s.r, s.h, upd s.H p (.lst xs)⟩ v x := by
  have f : Fr (fun a => a = p) s.H (upd s.H p (.lst xs)) := fr_upd_live hp (fun _ z => by cases z) (fun _ _ z => by cases z) rfl
  have cv : ∀ {v : V} {d : D}, DR G.K s.H (Bad (also Av p) s) v d → DR G.K (upd s.H p (.lst xs)) (Bad (also Av p) ⟨s.r, s.h, upd s.H p (.lst xs)⟩) v d := fun q =>
    DR.mono f (fun a z => .inl (.inr z)) (fun a _ h z => h z) q
  have cw : ∀ {v : Val} {x : V}, VR G (also Av p) s v x → VR G (also Av p) ⟨s.r, s.h, upd s.H p (.lst xs)⟩ v x := fun {v x} q => by
    cases q with
    | d q => exact .d (cv q)
    | ref q => exact .ref q
    | fn q => exact .fn q
  refine ⟨⟨rp.len, rp.nd, fun n a o e1 e2 => ?_, fun a z => f.there a (rp.av a z), rp.dis, fun a z => f.there a (rp.trk a z), tabs_upd rp.tabs (.inr ⟨_, hp, fun _ z => (by cases z), fun _ z => (by unfold LamX.CodeO at z; cases z)⟩)⟩, cw⟩
  have q := rp.obj n a o e1 e2
  cases o with
  | lst vs =>
    obtain ⟨ys, h1, h2⟩ := q
    have : a ≠ p := fun z => by subst z; exact rp.dis a (.inr rfl) (List.mem_of_getElem? e1)
    refine ⟨ys, (upd_ne this).trans h1, ?_⟩
    clear h1 e2
    induction h2 with
    | nil => exact .nil
    | cons h _ ih => exact .cons (cw h) ih
  | dead x => exact cv q
  | dct c =>
    obtain ⟨ob, h1, h2⟩ := q
    have : a ≠ p := fun z => by subst z; exact rp.dis a (.inr rfl) (List.mem_of_getElem? e1)
    exact ⟨ob, (upd_ne this).trans h1, h2.map cw f.sqt⟩
  | tx ds =>
    obtain ⟨ob, us, h1, h2, h3⟩ := q
    exact ⟨ob, us, h1, f.frz _ _ _ h2, DRs.mono f (fun a z => .inl (.inr z)) (fun a _ h z => h z) h3⟩
  | dl kvs =>
    obtain ⟨ob, es, h1, h2⟩ := q
    exact ⟨ob, es, f.frz _ _ _ h1, h2.map cw⟩
theorem Stp.own {s0 s : S3} {p : Addr} {o : HO} {zs : List V} (st : Stp s0 s) (h0 : s0.H p = none) (hp : s.H p = some (.lst zs)) : Stp s0 ⟨s.r, s.h, upd s.H p o⟩ := by
  refine ⟨st.pre, st.liv, ⟨fun a u h n nt => ?_, fun a h => ?_, fun a xs h => ?_, fun a ob w h => ?_⟩, st.new⟩
  · have : a ≠ p := ne_of_none h h0
    exact (upd_ne this).trans (st.fr.keep a u h n nt)
  · show upd s.H p o a ≠ none
    by_cases e : a = p
    · subst e; rw [upd_same]; exact fun z => by cases z
    · rw [upd_ne e]; exact st.fr.there a h
  · have : a ≠ p := ne_of_none h h0
    exact (upd_ne this).trans (st.fr.tup a xs h)
  · have : a ≠ p := ne_of_none h h0
    exact (upd_ne this).trans (st.fr.frz a ob w h)
abbrev E0 : XK := fun _ _ _ => False
abbrev W0 : WX := fun _ _ _ _ => False
theorem Post.quiet {Av : Addr → Prop} {s : S3} {α β : Type} {Rl : α → β → S3 → Prop} {r : R α} {Q : β → Hp → Prop} (p : Post G E Av s Rl r.quiet Q) : Post G Ip.E0 Av s Rl r Q := by
  cases r with
  | ok a h => exact p
  | er e h => exact p.elim
  | no => exact p
theorem bindT_h {h h' : Hq} (t : Tgt) (v : Val) (σ : Sg) (e : h = h') : bindT h t v σ = bindT h' t v σ := by subst e; rfl

/-- one turn's yield -/
def turnC (t : Tgt) (own : List Nat) (σ : Sg) (mI : Sg → Hq → R Bool) (me : Sg → Hq → R Val) : Val → Hq → R (List Val) := fun v h =>
  match bindT h t v (Ip.wipe σ own) with
  | none => .no
  | some σ' => ((mI σ' h).bind fun k h2 => if k then (me σ' h2).bind fun x h3 => .ok [x] h3 else .ok [] h2).quiet
/-- a comprehension's items -/
def cmpM (t : Tgt) (own : List Nat) (mS : Sg → Hq → R Sv) (mI : Sg → Hq → R Bool) (me : Sg → Hq → R Val) : Sg → Hq → R (List Val) := fun σ h => (mS σ h).bind fun sv h1 => match sv with
  | .data vs => if fits vs.length then cmpL (turnC t own σ mI me) vs h1 else .no
  | .obj _ => .no
theorem cmp_imp {own : List (Str × Nat)} {t : Tgt} {mS : Sg → Hq → R Sv} {mI : Sg → Hq → R Bool} {me : Sg → Hq → R Val} (ht : ∀ i ∈ tgs t, i ∈ own.map (·.2)) :
    ∀ τ H Q, tL G W (cmpM t (own.map (·.2)) mS mI me) τ H Q → tLc (tI G W mS) (tG G t) (tT G Ip.W0 mI) (tE G Ip.W0 me) (own.map (·.2)) τ H Q := by
  intro τ H Q ⟨Av, s, σ, hH, rp, sr, p⟩
  subst hH
  show tI G W mS τ s.H _
  refine ⟨Av, s, σ, rfl, rp, sr, ?_⟩
  revert p
  show Post G _ Av s (LR G Av s) ((mS σ s.h).bind _) Q → _
  cases mS σ s.h with
  | er x h => exact fun p => p
  | no => exact fun p => p
  | ok sv h1 =>
  intro p s1 J e1 rp1 st1 sv1
  subst e1
  cases sv with
  | obj n => exact p.elim
  | data vs =>
  have p : Post G _ Av s (LR G Av s) (if fits vs.length then cmpL (turnC t (own.map (·.2)) σ mI me) vs s1.h else .no) Q := p
  split at p
  case isFalse => exact p.elim
  rename_i hf
  intro D0 hD
  have h0D : s.H D0 = none := by
    cases e : s.H D0 with
    | none => rfl
    | some o => exact absurd hD (st1.fr.there D0 (by rw [e]; exact fun z => by cases z))
  obtain ⟨rpA, conv⟩ := rp1.more hD (o := .lst [])
  obtain ⟨_, stA⟩ := rp1.upd_new (o := .lst []) hD
  have sr1 := st1.sr rp1.nd sr
  have p0 : Post G (We W τ) Av s (LR G Av s) ((cmpL (turnC t (own.map (·.2)) σ mI me) (vs.drop 0) s1.h).bind fun us h2 => .ok ([] ++ us) h2) Q := by
    have e : ((cmpL (turnC t (own.map (·.2)) σ mI me) (vs.drop 0) s1.h).bind fun us h2 => R.ok ([] ++ us) h2) = cmpL (turnC t (own.map (·.2)) σ mI me) vs s1.h := by
      rw [List.drop_zero]; exact R.bind_id _
    rw [e]; exact p
  refine ⟨fun i m H' => m = vs.length - i ∧ i ≤ vs.length ∧ ∃ (s2 : S3) (ws : List Val) (acc : List V), s2.H = H' ∧ RepH G (also Av D0) s2 ∧ Stp s1 s2 ∧ Stp s s2 ∧ s2.H D0 = some (.lst acc) ∧ VRs G (also Av D0) s2 ws acc ∧ acc.length ≤ i ∧
    Post G (We W τ) Av s (LR G Av s) ((cmpL (turnC t (own.map (·.2)) σ mI me) (vs.drop i) s2.h).bind fun us h2 => .ok (ws ++ us) h2) Q, ⟨vs.length, by simp, Nat.zero_le _, ⟨s1.r, s1.h, upd s1.H D0 (.lst [])⟩, [], [], rfl, rpA, stA, st1.trans stA rp1.nd rp1.len, upd_same, .nil, Nat.le_refl _, p0⟩, ?_⟩
  rintro i m H' ⟨rfl, hi2, s2, ws, acc, rfl, rp2, st2, st02, hD2, hv2, hl2, p2⟩
  have srcAt := sv1 (also Av D0) s2 rp2 st2 (fun a ha z => z.elim id fun z => by subst z; exact absurd hD ha) i
  cases hvi : vs[i]? with
  | none =>
    have hlen : vs.length ≤ i := List.getElem?_eq_none_iff.mp hvi
    refine .inl ⟨srcAt.2 hvi, ?_⟩
    rw [List.drop_eq_nil_of_le hlen] at p2
    have p2 : Post G _ Av s (LR G Av s) (.ok (ws ++ []) s2.h) Q := p2
    rw [List.append_nil] at p2
    exact p2 s2 (.ref D0) rfl (rp2.less fun a z => .inl z) st02 ⟨D0, acc, rfl, h0D, rp2, hD2, hv2⟩
  | some v =>
    have hlt : i < vs.length := lt_of_get hvi
    obtain ⟨hgo, hyl⟩ := srcAt.1 v hvi
    have hdrop : vs.drop i = v :: vs.drop (i + 1) := by
      rw [List.drop_eq_getElem_cons hlt]
      rw [List.getElem?_eq_getElem hlt] at hvi
      rw [Option.some.inj hvi]
    rw [hdrop] at p2
    have p2 : Post G _ Av s (LR G Av s) (((turnC t (own.map (·.2)) σ mI me v s2.h).bind fun ws1 h1 => (cmpL (turnC t (own.map (·.2)) σ mI me) (vs.drop (i + 1)) h1).bind fun us h2 => .ok (ws1 ++ us) h2).bind fun us h2 => .ok (ws ++ us) h2) Q := p2
    rw [R.bind_assoc] at p2
    cases hturn : turnC t (own.map (·.2)) σ mI me v s2.h with
    | er x h =>
      exfalso
      unfold turnC at hturn
      split at hturn
      · cases hturn
      · rename_i σ' _
        revert hturn
        generalize ((mI σ' s2.h).bind fun k h2 => if k then (me σ' h2).bind fun x h3 => R.ok [x] h3 else R.ok [] h2) = r
        intro hturn
        cases r <;> cases hturn
    | no => rw [hturn] at p2; exact p2.elim
    | ok ws1 h3 =>
      rw [hturn] at p2
      simp only [R.bind_ok, R.bind_assoc] at p2
      refine .inr ⟨hgo, fun H6 => ∃ (s6 : S3) (acc6 : List V), s6.H = H6 ∧ RepH G (also Av D0) s6 ∧ Stp s1 s6 ∧ Stp s s6 ∧ s6.H D0 = some (.lst acc6) ∧ VRs G (also Av D0) s6 (ws ++ ws1) acc6 ∧ acc6.length ≤ i + 1 ∧ s6.h = h3, ?_, ?_⟩
      · rintro H6 ⟨s6, acc6, rfl, rp6, st6, st06, hD6, hv6, hl6, e6⟩
        refine ⟨vs.length - (i + 1), by omega, rfl, hlt, s6, ws ++ ws1, acc6, rfl, rp6, st6, st06, hD6, hv6, hl6, ?_⟩
        rw [e6]
        simp only [List.append_assoc]
        exact p2
      · intro x H7 hy
        obtain ⟨s7, rfl, hh7, rp7, st7, q7⟩ := hyl x H7 hy
        unfold turnC at hturn
        split at hturn
        · cases hturn
        rename_i σ' hb
        have srw : SR G (also Av D0) s7 (Ip.wipe σ (own.map (·.2))) (L2.wipe τ (own.map (·.2))) := by
          have a1 : SR G (also Av D0) s2 σ τ := ⟨sr1.len, fun j w e => by
            obtain ⟨y, e2, q2⟩ := sr1.at_ j w e
            exact ⟨y, e2, st2.vr' rp2.nd (fun a ha z => z.elim id fun z => by subst z; exact absurd hD ha) q2⟩⟩
          exact (st7.sr rp7.nd a1).wipe _
        refine ⟨also Av D0, s7, _, σ', v, rfl, rp7, srw, q7, by rw [bindT_h t v _ hh7]; exact hb, fun τ' sr' wi => ⟨?_, ?_⟩⟩
        · rw [wi _ ht, wipe_wipe]
        -- tests and element
        have hr : ((mI σ' s7.h).bind fun k h2 => if k then (me σ' h2).bind fun x h3 => R.ok [x] h3 else R.ok [] h2) = .ok ws1 h3 := by
          rw [hh7]
          revert hturn
          generalize ((mI σ' s2.h).bind fun k h2 => if k then (me σ' h2).bind fun x h3 => R.ok [x] h3 else R.ok [] h2) = r
          intro hturn
          cases r with
          | ok a h => exact hturn
          | er a h => cases hturn
          | no => cases hturn
        have pin : Post G Ip.E0 (also Av D0) s7 (fun vs ys s' => VRs G (also Av D0) s' vs ys) ((mI σ' s7.h).bind fun k h2 => if k then (me σ' h2).bind fun x h3 => R.ok [x] h3 else R.ok [] h2)
            (fun (ys : List V) H8 => ∃ s8 : S3, s8.H = H8 ∧ s8.h = h3 ∧ RepH G (also Av D0) s8 ∧ Stp s7 s8 ∧ VRs G (also Av D0) s8 ws1 ys) := by
          rw [hr]
          exact fun s8 ys e rp8 st8 q8 => ⟨s8, rfl, e, rp8, st8, q8⟩
        have hD7 : s7.H D0 = some (.lst acc) := st7.fr.keep D0 _ hD2 (fun ⟨n, z, _⟩ => rp2.dis D0 (.inr rfl) (List.mem_of_getElem? z)) (fun ps z => by cases z)
        -- from the turn's last state
        have fin : ∀ {s8 : S3} {ys : List V}, RepH G (also Av D0) s8 → Stp s7 s8 → s8.H D0 = some (.lst acc) ∧ Stp s1 s8 ∧ Stp s s8 ∧ VRs G (also Av D0) s8 ws acc := fun {s8 ys} rp8 st8 => by
          have st28 := st7.trans st8 rp7.nd rp7.len
          exact ⟨st8.fr.keep D0 _ hD7 (fun ⟨n, z, _⟩ => rp7.dis D0 (.inr rfl) (List.mem_of_getElem? z)) (fun ps z => by cases z), st2.trans st28 rp2.nd rp2.len, st02.trans st28 rp2.nd rp2.len, st28.vrs rp8.nd hv2⟩
        refine tT_bind rp7 sr' pin fun b s8 rp8 st8 sr8 p8 => ?_
        cases b with
        | false =>
          have p8 : Post G Ip.E0 (also Av D0) s8 (fun vs ys s' => VRs G (also Av D0) s' vs ys) (.ok [] s8.h) _ := p8
          rw [if_neg Bool.false_ne_true]
          obtain ⟨s9, e9, eh9, rp9, st9, q9⟩ := p8.fin rp8 .nil
          obtain ⟨f1, f2, f3, f4⟩ := fin (ys := []) rp9 st9
          cases hws : ws1 with
          | cons a b => rw [hws] at q9; cases q9
          | nil =>
            rw [← e9]
            exact ⟨s9, acc, rfl, rp9, f2, f3, f1, by rw [List.append_nil]; exact f4, by omega, eh9⟩
        | true =>
          have p8 : Post G Ip.E0 (also Av D0) s8 (fun vs ys s' => VRs G (also Av D0) s' vs ys) ((me σ' s8.h).bind fun x h3 => R.ok [x] h3) _ := p8
          rw [if_pos rfl]
          refine tE_bind rp8 sr8 p8 fun xv y s9 rp9 st9 sr9 q9 p9 => ?_
          obtain ⟨s10, e10, eh10, rp10, st10, q10⟩ := p9.fin (y := [y]) rp9 (.cons q9 .nil)
          obtain ⟨f1, f2, f3, f4⟩ := fin (ys := [y]) rp10 st10
          rw [← e10]
          refine ⟨acc, f1, ?_, ?_⟩
          · have := fits_line hf
            omega
          · obtain ⟨rp11, cw⟩ := rp10.own (xs := acc ++ [y]) f1
            have cws : ∀ {v : List Val} {x : List V}, VRs G (also Av D0) s10 v x → VRs G (also Av D0) ⟨s10.r, s10.h, upd s10.H D0 (.lst (acc ++ [y]))⟩ v x := fun {v x} q => by
              induction q with
              | nil => exact .nil
              | cons h _ ih => exact .cons (cw h) ih
            exact ⟨⟨s10.r, s10.h, upd s10.H D0 (.lst (acc ++ [y]))⟩, acc ++ [y], rfl, rp11, f2.own hD f1, f3.own h0D f1, upd_same, cws (f4.append q10), by rw [List.length_append]; simp; omega, eh10⟩
theorem il_cmp {elt tg iter : Expr} {ifs : List Expr} {scope : Scope} {own : List (Str × Nat)} {t : Tgt} {mS : Sg → Hq → R Sv} {mI : Sg → Hq → R Bool} {me : Sg → Hq → R Val} (hc : X.calm = true) (hN : X.N.Nodup) (hi : PI X tg iter (tI G W mS)) (ok : BlkOk X.N X.env.scope scope own)
    (ht : ∀ i ∈ tgs t, i ∈ own.map (·.2))
    (hg : ∀ (s : Shared) (H : Hp) (C : Addr) (cl : List (Str × Addr)) (fp : List Addr), PG (X.blk s H scope (compEnvC scope cl C X.env) fp) tg (tG G t))
    (hI : ∀ (s : Shared) (H : Hp) (C : Addr) (cl : List (Str × Addr)) (fp : List Addr), PTs (X.blk s H scope (compEnvC scope cl C X.env) fp) ifs (tT G Ip.W0 mI))
    (he : ∀ (s : Shared) (H : Hp) (C : Addr) (cl : List (Str × Addr)) (fp : List Addr), PE (X.blk s H scope (compEnvC scope cl C X.env) fp) elt (tE G Ip.W0 me))
    (hs : ∀ x, foldedSetIterable iter X.env x = pure x) : PE X (.ListComp elt [⟨tg, iter, ifs, 0⟩] scope pos) (tL G W (cmpM t (own.map (·.2)) mS mI me)) :=
  (pe_lc hc hN hi ok hg hI he hs).imp (cmp_imp ht)
/-- the tests of a clause -/
theorem it_nil : PTs X [] (tT G W fun _ h => .ok true h) :=
  ⟨fun pins s τ H Q I ⟨Av, s3, σ, hH, rp, sr, p⟩ => pts_nil.run pins s τ H Q I (by subst hH; exact p.fin rp rfl)⟩
theorem it_one {c : Expr} {m : Sg → Hq → R Val} (h : PT X c (tT G W (tst m))) : PTs X [c] (tT G W fun σ h => (m σ h).bind fun x h1 => (tru x h1).bind fun k h2 => if k then .ok true h2 else .ok false h2) := by
  have h' : PT X c (tT G W fun σ h => (m σ h).bind fun x h1 => (tru x h1).bind fun k h2 => if k then .ok true h2 else .ok false h2) := h.cong fun σ h => by
    simp only [tst]
    congr 1
    funext x h1
    cases tru x h1 with
    | ok k h2 => cases k <;> rfl
    | er _ _ => rfl
    | no => rfl
  exact pts_one h'
end
end Ip

set_option linter.all false
set_option Elab.async false
set_option autoImplicit false
set_option maxRecDepth 100000
/-! Comprehensions while an exception is handled. -/
namespace Ip
open PySem PySem.Spec L2 PyProof.Rows
section
variable {X : Cx} {pins : List (Addr × Obj)} {σ : L2.St} {H : Hp} {s : Shared} {G : Gb} {W : WX} {pos : Pos}
/-- the block's context; the handled exception stays pinned -/
abbrev blkH (X : Cx) (s : Shared) (H : Hp) (scope : Scope) (cenv : Env) (fp : List Addr) (p : Addr × Obj) : Cx := { X.blk s H scope cenv fp with pn := [p] }
theorem blkH_inv {s0 : Shared} {H0 : Hp} {scope : Scope} {cenv : Env} {fp : List Addr} {p : Addr × Obj} (I : Inv (X.blk s0 H0 scope cenv fp) [] σ H s)
    (hp : s.heap.get? p.1 = some p.2 ∧ H p.1 = none ∧ p.1 ≠ cenv.locals ∧ p.1 ∉ frs X.stack ∧ ∀ v, p.2.data ≠ .cell v) : Inv (blkH X s0 H0 scope cenv fp p) [] σ H s := by
  have k := I.ok
  refine ⟨⟨k.mod, k.kind, k.glob, k.blt, k.above, k.inj, k.has, k.cab, k.hd, k.frames, k.stk, k.exf, k.bs, k.bsz, k.noex, k.exfs, k.funs, k.frf⟩, I.os, I.bare, I.base, I.loc, I.cell, I.free, I.freeC, fun q hq => ?_, I.hok, I.len⟩
  have e : q = p := by simpa using (show q ∈ [p] ++ ([] : List (Addr × Obj)) from hq)
  rw [e]; exact hp
theorem lcH {Q : VK} {pos' : Pos} {use : Option (Value → Sem Unit)} {Qf : Value → Shared → Prop} {elt tg iter : Expr} {ifs : List Expr} {scope : Scope} {own : List (Str × Nat)} {wi : TI} {g : TG} {tt : TT} {te : TE} (I : Inv X pins σ H s) (hot : L2H.HotC X) (hN : X.N.Nodup) (hi : L2H.PIH X tg iter wi) (ok : BlkOk X.N X.env.scope scope own)
    (hg : ∀ (s : Shared) (H : Hp) (C : Addr) (cl : List (Str × Addr)) (fp : List Addr) (p : Addr × Obj), L2H.Hot1 X.A p → PG (blkH X s H scope (compEnvC scope cl C X.env) fp p) tg g)
    (ht : ∀ (s : Shared) (H : Hp) (C : Addr) (cl : List (Str × Addr)) (fp : List Addr) (p : Addr × Obj), L2H.Hot1 X.A p → PTs (blkH X s H scope (compEnvC scope cl C X.env) fp p) ifs tt)
    (he : ∀ (s : Shared) (H : Hp) (C : Addr) (cl : List (Str × Addr)) (fp : List Addr) (p : Addr × Obj), L2H.Hot1 X.A p → PE (blkH X s H scope (compEnvC scope cl C X.env) fp p) elt te)
    (hs : ∀ x, foldedSetIterable iter X.env x = pure x)
    (h : tLc wi g tt te (own.map (·.2)) σ H Q)
    (fin : ∀ (D C : Addr) (s' : Shared) (m : Str → Option Value) (H' : Hp), Inv X pins σ H' s' → Q (.ref D) H' → s'.heap.Ns C m → FpOk X pins H' C → compPost (model X.prog X.w) X.A X.xe use Qf (.ref D) C (.ok .next) s') :
    wpAny (model X.prog X.w) X.A (comprehension (.ListComp elt [⟨tg, iter, ifs, 0⟩] scope pos) scope X.env pos' (newList []) false (eval iter X.env) use) Qf X.xe s := by
  obtain ⟨p, hp1, hpm⟩ := hot
  have cellOf : ∀ y ∈ scope.names, y.2 = .free → ∃ c, X.env.cells.lookup y.1 = some c := fun y hy e => (ok.free y hy e).elim (fun k => I.ok.has _ (.inl k)) fun k => I.ok.has _ (.inr k)
  refine wpAny_comprehension_free (use := use) rfl hs (closure_ok cellOf) ok.kind (fun y hy e => by rw [ok.uniq y hy, e]) (thn (hi.run pins s σ H _ I h) fun xv s1 hx => thn hx fun itv s2 ⟨it, fp, tn, J, H2, e, I2, T, st2, f2, q⟩ => ?_)
  subst e
  refine wpAny_newObj_type (newEnv_comp ?_) (by show 0 ≤ sizeLine; decide)
  obtain ⟨D, hD⟩ : ∃ D, s2.heap.objs.size = D := ⟨_, rfl⟩
  rw [hD]
  have hDn : H2 D = none := I2.hok.fresh (Nat.le_of_eq hD)
  obtain ⟨V, ⟨m0, w0⟩, turn⟩ := q D hDn
  obtain ⟨s3, hs3⟩ : ∃ s3 : Shared, s3 = { s2 with heap := s2.heap.push { cls := .type "list", data := .seq ([] : List Value).toArray } } := ⟨_, rfl⟩
  have I3 : Inv X pins σ (upd H2 D (.lst [])) s3 := by
    rw [hs3]
    exact I2.laid (t' := s2.toks) (fun b o e => Heap.get?_push_of_some _ e) (Nat.le_of_eq hD) ⟨Nat.zero_le _, [], 0, .nil, by rw [← hD]; exact Heap.get?_push_size _ rfl⟩
  have gr3 : ∀ b o, s2.heap.get? b = some o → s3.heap.get? b = some o := fun b o e => by rw [hs3]; exact Heap.get?_push_of_some _ e
  have f3 : ∀ b ∈ fp, FpOk X pins (upd H2 D (.lst [])) b ∧ b < s3.heap.objs.size := fun b hb => by
    obtain ⟨o, e, _⟩ := T.obj _ _ st2 b hb
    refine ⟨⟨(upd_ne (by rw [← hD]; exact Nat.ne_of_lt (Heap.lt_size e))).trans (f2 b hb).1, (f2 b hb).2⟩, Heap.lt_size (gr3 b o e)⟩
  obtain ⟨cl, hcl⟩ : ∃ cl, cl = cellsFrom (s3.heap.objs.size + 1) scope.names (cloFrom X.env.cells scope.names []) := ⟨_, rfl⟩
  obtain ⟨ce, hce⟩ : ∃ ce, ce = compEnvC scope cl s3.heap.objs.size X.env := ⟨_, rfl⟩
  obtain ⟨H3, hH3⟩ : ∃ H3, H3 = upd H2 D (.lst []) := ⟨_, rfl⟩
  obtain ⟨s4, hs4⟩ : ∃ s4 : Shared, s4 = { s3 with heap := pushCells (s3.heap.push { cls := .type "dict", data := .dict #[] }) scope.names } := ⟨_, rfl⟩
  have gr4 : ∀ b o, s3.heap.get? b = some o → s4.heap.get? b = some o := fun b o e => by rw [hs4]; exact pushCells_keeps _ _ _ _ (Heap.get?_push_of_some _ e)
  have P3 := I3.pin p (List.mem_append_left _ hpm)
  have cL : ce.locals = s3.heap.objs.size := by rw [hce]; rfl
  have I4 : Inv (blkH X s3 H3 scope ce fp p) [] (L2.wipe σ (own.map (·.2))) H3 s4 := by
    rw [hs4, hH3, hce, hcl]
    refine blkH_inv (block_start I3 ok hN f3) ⟨pushCells_keeps _ _ _ _ (Heap.get?_push_of_some _ P3.1), P3.2.1, Nat.ne_of_lt (Heap.lt_size P3.1), fun z => (List.mem_cons.mp (I3.stkSub p.1 z)).elim P3.2.2.1 P3.2.2.2.1, P3.2.2.2.2⟩
  have hotB : L2H.HotC (blkH X s3 H3 scope ce fp p) := ⟨p, hp1, List.mem_singleton.mpr rfl⟩
  have pg := hg s3 H3 s3.heap.objs.size cl fp p hp1
  have pt := ht s3 H3 s3.heap.objs.size cl fp p hp1
  have pe := he s3 H3 s3.heap.objs.size cl fp p hp1
  rw [← hce] at pg pt pe
  have st4 : tn 0 s4.heap := T.keep _ _ _ st2 fun b _ o e => gr4 b o (gr3 b o e)
  rw [← hH3] at w0 f3 I3
  have pinNe : ∀ b ∈ fp, ∀ q ∈ ([p] : List (Addr × Obj)) ++ [], q.1 ≠ b := fun b hb q hq => by
    have e : q = p := by simpa using hq
    rw [e]
    exact (f3 b hb).1.2.2.2.2.2 p (List.mem_append_left _ hpm)
  have stat : ∀ {σ' : L2.St} {H' : Hp} {s' : Shared}, Inv (blkH X s3 H3 scope ce fp p) [] σ' H' s' → (∀ b ∈ fp, H' b = none) → ∀ b ∈ fp, FpOk (blkH X s3 H3 scope ce fp p) [] H' b := fun {σ' H' s'} J hn b hb =>
    ⟨hn b hb, (J.ok.exf b hb).1, J.ok.exfs b hb, .inl hb, fun x c e => (J.ok.exf b hb).2 x c e, pinNe b hb⟩
  have goal : codeAny (model X.prog X.w) X.A (.compLoop (.ListComp elt [⟨tg, iter, ifs, 0⟩] scope pos) 0 (.ref it) (.ref D) ce) (compPost (model X.prog X.w) X.A X.xe use Qf (.ref D) s3.heap.objs.size) s4 := by
    refine compLoop_any (fun n s' => ∃ i H', Inv (blkH X s3 H3 scope ce fp p) [] (L2.wipe σ (own.map (·.2))) H' s' ∧ tn i s'.heap ∧ (∀ b ∈ fp, H' b = none) ∧ V i n H') (fun n s5 ⟨i, H5, I5, st5, n5, w5⟩ => ?_) m0 ⟨0, H3, I4, st4, fun b hb => (f3 b hb).1.1, w0⟩
    rcases turn i n H5 w5 with ⟨stop, qq⟩ | ⟨go, Nx, hNx, step⟩
    · refine thnF (T.done (blkH X s3 H3 scope ce fp p) rfl rfl rfl hotB i [] s5 _ H5 (fun _ _ => False) I5 (stat I5 n5) st5 stop) fun r s6 ⟨hr, I6⟩ => ?_
      subst hr
      have I7 : Inv X pins σ H5 s6 := I3.call' (ch := fp) I6.os I6.base I6.hok I6.bare fun b hb => let z := (f3 b hb).1.2; ⟨z.2.2.1, z.1, z.2.2.2.1, z.2.2.2.2⟩
      have nC : H5 ce.locals = none := I6.free
      obtain ⟨m, hn, _⟩ := I6.loc
      have hn : s6.heap.Ns ce.locals m := hn
      rw [cL] at hn nC
      exact fin D s3.heap.objs.size s6 m H5 I7 qq hn (I3.fpOk (Nat.le_refl _) nC)
    · refine thnF (T.item (blkH X s3 H3 scope ce fp p) rfl rfl rfl hotB i [] s5 _ H5 (fun _ _ => False) I5 (stat I5 n5) st5 go) fun r s6 ⟨u, hr, h6⟩ => ?_
      subst hr
      refine thnF h6 fun _ s7 ⟨x, H7, I7, r7, y7, st7, n7⟩ => ?_
      refine thnF (pg.run _ s7 _ H7 x u _ (I7.pinned (stat I7 n7) (T.obj _ _ st7)) r7 (step x H7 y7)) fun _ s8 ⟨σ8, H8, I8, hw8, q8⟩ => ?_
      have last : ∀ {s' : Shared} {H' : Hp}, Inv (blkH X s3 H3 scope ce fp p) ([] ++ pinsAt fp s7.heap) σ8 H' s' → Nx H' → ∃ m, m < n ∧ ∃ i H', Inv (blkH X s3 H3 scope ce fp p) [] (L2.wipe σ (own.map (·.2))) H' s' ∧ tn i s'.heap ∧ (∀ b ∈ fp, H' b = none) ∧ V i m H' := fun {s' H'} J nx => by
        obtain ⟨m', hm, w'⟩ := hNx H' nx
        have at_ : ∀ b ∈ fp, ∀ o, s7.heap.get? b = some o → s'.heap.get? b = some o ∧ H' b = none := fun b hb o e => let z := J.pin (b, o) (List.mem_append_right _ (List.mem_append_right _ (mem_pinsAt hb e))); ⟨z.1, z.2.1⟩
        refine ⟨m', hm, i + 1, H', (J.unpinned (pins := [])).weak (by rw [← hw8, L2.wipe_length]) (fun j v e => by rw [← hw8] at e; exact (L2.wipe_some e).1), T.keep _ _ _ st7 fun b hb o e => (at_ b hb o e).1, fun b hb => ?_, w'⟩
        obtain ⟨o, e, _⟩ := T.obj _ _ st7 b hb
        exact (at_ b hb o e).2
      refine thnF (pt.run _ s8 σ8 H8 _ I8 q8) fun b s9 ⟨H9, I9, q9⟩ => ?_
      cases b with
      | false => rw [if_neg Bool.false_ne_true] at q9 ⊢; exact last I9 q9
      | true =>
        rw [if_pos rfl] at q9 ⊢
        refine thnF (pe.run _ s9 σ8 H9 _ I9 q9) fun z s10 ⟨yv, H10, I10, r10, acc, hD10, hz10, nx⟩ => ?_
        exact app_ok (X := blkH X s3 H3 scope ce fp p) I10 hD10 hz10 r10 fun s11 I11 => last I11 nx
  rw [← hs3, ← hs4, ← hcl]
  show codeAny _ _ (.compStart (.ListComp elt [⟨tg, iter, ifs, 0⟩] scope pos) 0 (.ref it) (.ref D) (compEnvC scope cl s3.heap.objs.size X.env)) (compPost (model X.prog X.w) X.A X.xe use Qf (.ref D) s3.heap.objs.size) s4
  rw [← hce]
  exact codeAny_compStart_list goal (T.self X.A 0 _ _ _ st4 goal)
theorem pe_lcH {elt tg iter : Expr} {ifs : List Expr} {scope : Scope} {own : List (Str × Nat)} {wi : TI} {g : TG} {tt : TT} {te : TE} (hot : L2H.HotC X) (hN : X.N.Nodup) (hi : L2H.PIH X tg iter wi) (ok : BlkOk X.N X.env.scope scope own)
    (hg : ∀ (s : Shared) (H : Hp) (C : Addr) (cl : List (Str × Addr)) (fp : List Addr) (p : Addr × Obj), L2H.Hot1 X.A p → PG (blkH X s H scope (compEnvC scope cl C X.env) fp p) tg g)
    (ht : ∀ (s : Shared) (H : Hp) (C : Addr) (cl : List (Str × Addr)) (fp : List Addr) (p : Addr × Obj), L2H.Hot1 X.A p → PTs (blkH X s H scope (compEnvC scope cl C X.env) fp p) ifs tt)
    (he : ∀ (s : Shared) (H : Hp) (C : Addr) (cl : List (Str × Addr)) (fp : List Addr) (p : Addr × Obj), L2H.Hot1 X.A p → PE (blkH X s H scope (compEnvC scope cl C X.env) fp p) elt te)
    (hs : ∀ x, foldedSetIterable iter X.env x = pure x) : PE X (.ListComp elt [⟨tg, iter, ifs, 0⟩] scope pos) (tLc wi g tt te (own.map (·.2))) := by
  refine ⟨fun pins s σ H Q I h => ?_⟩
  rw [eval_ListComp]
  exact lcH I hot hN hi ok hg ht he hs h fun D C s' m H' J q hn ⟨f0, f1, f2, f3, f4, f5⟩ => ⟨m, hn, fun h'' sb => ⟨.ref D, H', J.turned (t' := s'.toks) (fun b o hb e => (sb.2 b hb).trans e) f0 f1 f3 f4 f5, rfl, q⟩⟩
theorem ps_setLcH {i : Nat} {y : Str} {py spos : Pos} {elt tg iter : Expr} {ifs : List Expr} {scope : Scope} {own : List (Str × Nat)} {wi : TI} {g : TG} {tt : TT} {te : TE} (hy : X.N[i]? = some y) (hyl : X.env.scope.names.lookup y = some .local) (hsw : swapsWith (.ListComp elt [⟨tg, iter, ifs, 0⟩] scope pos) (some (.Name y py)) spos.line X.env = pure true)
    (hot : L2H.HotC X) (hN : X.N.Nodup) (hi : L2H.PIH X tg iter wi) (ok : BlkOk X.N X.env.scope scope own)
    (hg : ∀ (s : Shared) (H : Hp) (C : Addr) (cl : List (Str × Addr)) (fp : List Addr) (p : Addr × Obj), L2H.Hot1 X.A p → PG (blkH X s H scope (compEnvC scope cl C X.env) fp p) tg g)
    (ht : ∀ (s : Shared) (H : Hp) (C : Addr) (cl : List (Str × Addr)) (fp : List Addr) (p : Addr × Obj), L2H.Hot1 X.A p → PTs (blkH X s H scope (compEnvC scope cl C X.env) fp p) ifs tt)
    (he : ∀ (s : Shared) (H : Hp) (C : Addr) (cl : List (Str × Addr)) (fp : List Addr) (p : Addr × Obj), L2H.Hot1 X.A p → PE (blkH X s H scope (compEnvC scope cl C X.env) fp p) elt te)
    (hs : ∀ x, foldedSetIterable iter X.env x = pure x) : PS X (.Assign [.Name y py] (.ListComp elt [⟨tg, iter, ifs, 0⟩] scope pos) spos) (tAsg (tLc wi g tt te (own.map (·.2))) (gName i)) := by
  refine ⟨fun pins s σ H D I h => ?_⟩
  rw [exec_Assign_Name_used _ _ _ _ hsw]
  refine wpAny_bind (wpAny_standAt (wpAny_bind (wpAny_bind (thn (lcH (Q := fun x H1 => gName i x σ H1 D.nx) (use := some (assign (.Name y py) X.env)) (Qf := fun _ s' => SP X pins D .next s') I hot hN hi ok hg ht he hs h fun L C s' m H' J q hn ⟨f0, f1, f2, f3, f4, f5⟩ => ?_) fun _ s' hq => wpAny_pure (wpAny_pure hq)))))
  show wpAny _ _ (assign (.Name y py) X.env (.ref L)) _ _ _
  refine wpAny_assign_Name (store_ok2 (v := V.ref L) J hN hy (.inl hyl) rfl (fun s2 I2 ⟨a, sb, ha⟩ => ?_) (.inr hyl))
  have ne : C ≠ a := ha.elim (fun z => by rw [z]; exact f1) fun z e => f4 y a z e.symm
  exact ⟨m, hn.sameBut sb ne, fun h3 sb3 => ⟨_, H', I2.turned (t' := s2.toks) (fun b o hb e => (sb3.2 b hb).trans e) f0 f1 f3 f4 f5, q⟩⟩
/-- range under a handled exception, as the evaluator walks it -/
theorem _root_.L2H.PIH.imp {tg iter : Expr} {t t' : TI} (h : L2H.PIH X tg iter t) (q : ∀ τ H Q, t' τ H Q → t τ H Q) : L2H.PIH X tg iter t' := ⟨fun pins s σ H R I w => h.run pins s σ H R I (q _ _ _ w)⟩
theorem ii_rngH {tg a : Expr} {p : Pos} {ma : Sg → Hq → R Val} (hg : Gl X "range") (hm : X.mg "range" = none) (ha : PE X a (tE G W ma)) (hs : starEach [a] X.env = [(false, eval a X.env)]) :
    L2H.PIH X tg (.Call (.Name "range" p) [a] [] pos) (tI G W fun σ h => (ma σ h).bind fun x h1 => match intV x with | some i => if okRng i then .ok (.data (rangeL 0 i.toNat)) h1 else .no | none => .no) := by
  have hst' : starEach [a] X.env = (false, eval a X.env) :: starEach [] X.env := by rw [hs]; rfl
  refine (L2H.pi_range1H hg hm (pa_cons ha pa_nil hst') hs).imp fun τ H Q ⟨Av, s, σ, hH, rp, sr, po⟩ => ?_
  subst hH
  refine tE_bind rp sr po fun v y s1 rp1 st1 sr1 q1 p1 => ?_
  split at p1
  · rename_i i e
    cases intV_ok q1 e
    split at p1
    · exact let h := okRng_c (by assumption); ⟨i, rfl, h.1, h.2, p1.fin rp1 src_rng⟩
    · exact p1.elim
  · exact p1.elim
end
end Ip

set_option linter.all false
set_option Elab.async false
set_option autoImplicit false
set_option maxRecDepth 100000
/-! range with a step, enumerate. -/
namespace Ip
open PySem L2
section
variable {X : Cx} {G : Gb} {W : WX} {pos : Pos}
theorem stepN_size {i j c : Int} (hc : 0 < c) : Builtin.Range.rangeSize i j c = (stepN i j c : Nat) := by
  unfold Builtin.Range.rangeSize stepN
  rw [if_pos hc]
  split
  · have : 0 ≤ (j - i - 1) / c := Int.ediv_nonneg (by omega) (by omega)
    omega
  · rfl
theorem small_step {a b c : Int} (hc : 0 < c) (hc2 : c < 2 ^ 30) (ha : -(2 ^ 62) ≤ a) (ha' : a < 2 ^ 62) (hb : -(2 ^ 62) ≤ b) (hb' : b < 2 ^ 62) : Builtin.Range.small a b c = true := by
  unfold Builtin.Range.small Builtin.Range.rangeSize
  simp only [Builtin.Range.rangeFitsLong, Bool.and_eq_true, Bool.or_eq_true, decide_eq_true_eq, beq_iff_eq, show c > 0 from hc, if_true]
  have q0 : a < b → 0 ≤ (b - a - 1) / c := fun h => Int.ediv_nonneg (by omega) (by omega)
  have q1 : a < b → (b - a - 1) / c ≤ b - a - 1 := fun h => Int.ediv_le_self _ (by omega)
  generalize (b - a - 1) / c = q at q0 q1
  split <;> omega
theorem rangeC_get : ∀ (n : Nat) (lo c : Int) (i : Nat), (rangeC lo c n)[i]? = if i < n then some (Val.d (.int (lo + i * c))) else none
  | 0, lo, c, i => by simp [rangeC]
  | n + 1, lo, c, 0 => by simp [rangeC]
  | n + 1, lo, c, i + 1 => by
    show (rangeC (lo + c) c n)[i]? = _
    rw [rangeC_get n (lo + c) c i]
    by_cases h : i < n
    · rw [if_pos h, if_pos (Nat.succ_lt_succ h)]
      congr 3
      have : ((i + 1 : Nat) : Int) * c = (i : Int) * c + c := by rw [Int.natCast_add, Int.add_mul]; simp
      rw [this]; omega
    · rw [if_neg h, if_neg (fun z => h (Nat.lt_of_succ_lt_succ z))]
theorem src_rngc {Av : Addr → Prop} {s0 : S3} {lo c : Int} {n : Nat} : Src G Av (Itc lo c n) (rangeC lo c n) s0 := by
  intro Av' s rp st hA i
  rw [rangeC_get]
  constructor
  · intro v e
    split at e
    · rename_i h
      cases e
      refine ⟨h, fun y H' yl => ?_⟩
      obtain ⟨rfl, rfl⟩ := yl
      exact ⟨s, rfl, rfl, rp, Stp.refl _, .d (.int _)⟩
    · cases e
  · intro e
    split at e
    · cases e
    · rename_i h; exact Nat.not_lt.mp h
theorem ii_rng3 {tg a b c : Expr} {p : Pos} {ma mb mc : Sg → Hq → R Val} (hg : Gl X "range") (hm : X.mg "range" = none) (ha : PE X a (tE G W ma)) (hb : PE X b (tE G W mb)) (hc : PE X c (tE G W mc)) (hs : starEach [a, b, c] X.env = (false, eval a X.env) :: starEach [b, c] X.env) (hs2 : starEach [b, c] X.env = (false, eval b X.env) :: starEach [c] X.env) (hs3 : starEach [c] X.env = (false, eval c X.env) :: starEach [] X.env) :
    PI X tg (.Call (.Name "range" p) [a, b, c] [] pos) (tI G W fun σ h => (ma σ h).bind fun x h1 => (mb σ h1).bind fun y h2 => (mc σ h2).bind fun z h3 => match intV x, intV y, intV z with
    | some i, some j, some k => if okRng i && okRng j && okStep k then .ok (.data (rangeC i k (stepN i j k))) h3 else .no
    | _, _, _ => .no) := by
  refine (pi_range3 hg hm (pa_cons ha (pa_cons hb (pa_cons hc pa_nil hs3) hs2) hs) hs (by rw [hs2, hs3]; rfl)).imp fun τ H Q ⟨Av, s, σ, hH, rp, sr, p⟩ => ?_
  subst hH
  refine tE_bind rp sr p fun v y s1 rp1 st1 sr1 q1 p1 => ?_
  refine tE_bind rp1 sr1 p1 fun w z s2 rp2 st2 sr2 q2 p2 => ?_
  refine tE_bind rp2 sr2 p2 fun u x s3 rp3 st3 sr3 q3 p3 => ?_
  split at p3
  · rename_i i j k e e2 e3
    cases intV_ok q1 e
    cases intV_ok q2 e2
    cases intV_ok q3 e3
    split at p3
    · rename_i hf
      rw [Bool.and_eq_true, Bool.and_eq_true] at hf
      obtain ⟨h1, h2⟩ := okRng_c hf.1.1
      obtain ⟨h3, h4⟩ := okRng_c hf.1.2
      have hk := hf.2
      unfold okStep at hk
      rw [Bool.and_eq_true, decide_eq_true_eq, decide_eq_true_eq] at hk
      have h5 := PyProof.Rows.lt_of_log2 hk.2
      exact ⟨i, j, k, _, rfl, ⟨by omega, by omega, small_step hk.1 (by omega) h1 h2 h3 h4, stepN_size hk.1⟩, p3.fin rp3 src_rngc⟩
    · exact p3.elim
  · exact p3.elim
/-! ### enumerate of a tuple -/
section
open PySem.Spec PyProof.Rows
open PySem.AutoSeq1 (wpAny_loadPart')
theorem meets_enumerate_newT (l : Addr) (items : Array Value) (n : Nat) (dct : Option Addr) (sl : Array (Option Value)) :
    Meets (Builtin.«enumerate.__new__» ⟨[.type "enumerate", .ref l], []⟩) (fun _ R s => s.heap.get? l = some { cls := .type "tuple", dict := dct, data := .seq items n, slots := sl } ∧
      R (.ok (.ret (.ref (s.heap.push { cls := .type "tuple_iterator", data := .fields #[.ref l, .int 0 0] }).objs.size)))
        { s with heap := (s.heap.push { cls := .type "tuple_iterator", data := .fields #[.ref l, .int 0 0] }).push { cls := .type "enumerate", data := .fields #[.none, .bool false, .ref s.heap.objs.size, rawInt 0, .none, .none] } }) :=
  .of_wp fun prog w A R s h => by
    obtain ⟨hp, g, d, tk, os⟩ := s; obtain ⟨hl, h⟩ := h
    have hsub := sub_enumerate
    have hL : Heap.IsTuple (Shared.heap ⟨hp, g, d, tk, os⟩) l items := ⟨_, hl, rfl, n, rfl⟩
    wp_walk using wpAny_loadPart' hl
    refine wpAny_stack_any fun st => wpAny_pure ?_
    split
    · rename_i c _ _ _ _ _
      cases (c == Value.type "enumerate")
      · wp_walk using wpAny_loadPart' hl, wpAny_pyIter_tuple hL
        exact ⟨_, rfl, h⟩
      · wp_walk using wpAny_loadPart' hl, wpAny_pyIter_tuple hL
        exact ⟨_, rfl, h⟩
    · wp_walk using wpAny_loadPart' hl, wpAny_pyIter_tuple hL
      exact ⟨_, rfl, h⟩
theorem call_enumerate_tup {prog : Program} {w : World} {A : Around} {E : Value → Shared → Prop} {s : Shared} {l : Addr} {items : Array Value} {Q : Value → Shared → Prop} (hL : s.heap.IsTuple l items)
    (h : ∀ h', IsEnum h' (s.heap.objs.size + 1) s.heap.objs.size 0 .none → h'.IsTupleIter s.heap.objs.size l 0 → h'.objs.size = s.heap.objs.size + 2 →
      (∀ b o, s.heap.get? b = some o → h'.get? b = some o) → Q (.ref (s.heap.objs.size + 1)) { s with heap := h' }) :
    wpAny (model prog w) A (call (.type "enumerate") [.ref l]) Q E s := by
  obtain ⟨⟨cls, dct, dt, sl⟩, hl, hc, n, hd⟩ := hL
  replace hc : cls = .type "tuple" := hc
  replace hd : dt = .seq items n := hd
  subst hc hd
  refine callType_new PySem.F.called_enumerate (by decide) (PySem.F.typeCall_enumerate_1 _) (PySem.F.newCall_enumerate_1 _) (fun obj => PySem.F.args_object_init_2 obj _) PySem.F.entry_enumerate_new
    (meets_enumerate_newT l items n dct sl) ⟨hl, ?_⟩
  have hz : (s.heap.push { cls := .type "tuple_iterator", data := .fields #[.ref l, .int 0 0] }).objs.size = s.heap.objs.size + 1 := Heap.size_push ..
  show _ ∧ _
  rw [hz]
  have he : IsEnum ((s.heap.push { cls := .type "tuple_iterator", data := .fields #[.ref l, .int 0 0] }).push
      { cls := .type "enumerate", data := .fields #[.none, .bool false, .ref s.heap.objs.size, rawInt 0, .none, .none] }) (s.heap.objs.size + 1) s.heap.objs.size 0 .none := by
    have := Heap.get?_push_size (s.heap.push { cls := .type "tuple_iterator", data := .fields #[.ref l, .int 0 0] })
      (o := { cls := .type "enumerate", data := .fields #[.none, .bool false, .ref s.heap.objs.size, rawInt 0, .none, .none] }) rfl
    rw [hz] at this; exact this
  refine ⟨⟨_, he, rfl⟩, h _ he ⟨_, Heap.get?_push_of_some _ (Heap.get?_push_size _ rfl), rfl, rfl⟩ (by rw [Heap.size_push, hz]) fun b o x => Heap.get?_push_of_some _ (Heap.get?_push_of_some _ x)⟩
theorem enumT_end {prog : Program} {w : World} {A : Around} {E : Value → Shared → Prop} {s : Shared} {e it t : Addr} {i : Nat} {items : Array Value} {old : Value} {Q : Option Value → Shared → Prop} (hh : A.handled = none)
    (he : IsEnum s.heap e it i old) (hit : s.heap.IsTupleIter it t i) (ht : s.heap.IsTuple t items) (hx : items[i]? = none)
    (hQ : ∀ h', Heap.ExtBut it s.heap h' → Q none { s with heap := h' }) : wpAny (model prog w) A (pyNext (.ref e)) Q E s := by
  have hT : s.TypeIs (.ref e) "enumerate" := ⟨_, he, rfl⟩
  unfold pyNext
  refine wpAny_bind (wpAny_attempt (wpAny_callSpecial?_slot (name := Str.ofString "__next__") hT PySem.F.slot_enumerate_next
    (wpAny_call_entry PySem.F.slot_enumerate_next hT PySem.F.entry_enumerate_next ?_ (PySem.F.args_enumerate_next_1 _))))
  show wpAny _ _ (field (.ref e) 2 >>= _) _ _ _
  refine wpAny_bind (wpAny_field he rfl (x := .ref it) rfl ?_)
  refine wpAny_bind (wpAny_nextOf_tuple_end (A := A.in1) hh hit ht hx fun h' x he' hx' => ?_)
  obtain ⟨o, ho, hc⟩ := hx'
  refine wpAny_bind (wpAny_isInstance (T := "StopIteration") (b := true) ⟨o, ho, hc⟩ isSubtype_stop ?_)
  exact wpAny_pure (hQ _ he')
/-- the tuple at a, each item in a new pair -/
def IteT (K : PySem.W.Frag) (a : Addr) : It :=
  ⟨fun i H => ∃ (xs : List V) (x : V), SqT K H a xs ∧ xs[i]? = some x, fun i H v H' => ∃ T x, v = .ref T ∧ H T = none ∧ H' = upd H T (.tup [.int (i : Nat), x]) ∧ ∀ xs, SqT K H a xs → xs[i]? = some x, fun i H => ∃ xs : List V, SqT K H a xs ∧ xs.length ≤ i⟩
theorem turn_enumT {P : Program} {w : World} {K : PySem.W.Frag} {elts : List Expr} {kk : Nat} {tpos : Pos} (a e it : Addr) (hne0 : a ≠ it) (hea : e ≠ a) :
    Turn P w K (.Tuple elts kk tpos) (IteT K a) [e, it] e (fun i h => (∃ old, IsEnum h e it ((i : Nat) : Int) old) ∧ h.IsTupleIter it a i ∧ e ≠ it) where
  mem := by simp
  obj := fun i h st b hb => by
    obtain ⟨⟨old, he⟩, ⟨o, ho, hc, hd⟩, _⟩ := st
    have e' : b = e ∨ b = it := by simpa using hb
    rcases e' with z | z
    · rw [z]; exact ⟨_, he, fun v q => nomatch q⟩
    · rw [z]; exact ⟨o, ho, fun v q => by rw [hd] at q; cases q⟩
  keep := fun i h h' st k => let ⟨⟨old, he⟩, hi, hne⟩ := st; ⟨⟨old, k e (by simp) _ he⟩, hi.at fun o q => k it (by simp) o q, hne⟩
  item := by
    intro X hP hw hK hc i pins s σ H E I hf st hg
    subst hP hw hK
    obtain ⟨⟨old, he⟩, hit, hne⟩ := st
    obtain ⟨xs, x, hq, hx⟩ := hg
    obtain ⟨its, rv, p, hz⟩ := I.tuple hq
    obtain ⟨u, hu, ru⟩ := rv.get hx
    have hel : e < s.heap.objs.size := Heap.lt_size he
    have hil : it < s.heap.objs.size := by obtain ⟨_, q, _⟩ := hit; exact Heap.lt_size q
    have hlt : i < its.toArray.size := by
      have := (List.getElem?_eq_some_iff.mp hu).1
      simpa using this
    refine wpAny_pyNext_enum_itemD (Draws.tuple (A := X.A.in1) (I.ok.hd hc) it a hne0 its.toArray) he ⟨hit, (show s.heap.IsTuple a its.toArray from p)⟩ hlt hne (by simp [hne, hea]) fun y h' tk hy ho hst hT hsz hk => ?_
    have hyu : y = u := by
      have hy : its.toArray[i]? = some y := hy
      have hu2 : its.toArray[i]? = some u := by simpa using hu
      rw [hu2] at hy
      exact (Option.some.inj hy).symm
    subst hyu
    refine ⟨_, rfl, wpAny_letOwnedTupleGo_enum (s := { s with heap := h', toks := tk + 1 }) ho fun h'' he' sb => ?_⟩
    have hT2 : h''.get? s.heap.objs.size = some { cls := .type "tuple", data := .seq #[.int i tk, y] } := (sb.2 _ (Nat.ne_of_gt hel)).trans hT
    have new : ObjOk X.prog X.w (upd H s.heap.objs.size (.tup [.int (i : Nat), x])) h'' s.heap.objs.size (.tup [.int (i : Nat), x]) :=
      ⟨by show 2 ≤ sizeLine; decide, [.int i tk, y], .cons ⟨_, rfl⟩ (.cons ru .nil), ⟨_, hT2, rfl, _, rfl⟩⟩
    have I1 : Inv X pins σ (upd H s.heap.objs.size (.tup [.int (i : Nat), x])) { s with heap := h'', toks := tk + 1 } :=
      I.turnedNew (ch := [e, it]) (fun b ob hb q => (sb.2 b (fun z => hb (by simp [z]))).trans (hk b ob (fun z => hb (by simp [z])) (fun z => hb (by simp [z])) q)) hf (Nat.le_refl _) new
    refine ⟨.ref s.heap.objs.size, _, I1, rfl, ⟨_, x, rfl, I.hok.fresh (Nat.le_refl _), rfl, fun ys hy => by rw [I.tuple_inj hy hq]; exact hx⟩, ⟨⟨y, ?_⟩, hst.1.at fun o q => (sb.2 it (Ne.symm hne)).trans q, hne⟩, fun b hb => ?_⟩
    · have e1 : ((i + 1 : Nat) : Int) = (i : Int) + 1 := by omega
      rw [e1]; exact he'
    · have hb' : b < s.heap.objs.size := by
        have e' : b = e ∨ b = it := by simpa using hb
        rcases e' with z | z
        · rw [z]; exact hel
        · rw [z]; exact hil
      rw [upd_ne (Nat.ne_of_lt hb')]
      exact (hf b hb).1
  done := by
    intro X hP hw hK hc i pins s σ H E I hf st hg
    subst hP hw hK
    obtain ⟨⟨old, he⟩, hit, hne⟩ := st
    obtain ⟨xs, hq, hx⟩ := hg
    obtain ⟨its, rv, p, hz⟩ := I.tuple hq
    obtain ⟨f0, f1, f2, f3, f4, f5⟩ := hf it (by simp)
    have hl := rv.length
    exact enumT_end (I.ok.hd hc) he hit (show s.heap.IsTuple a its.toArray from p) (by simp; omega) fun h' eb => ⟨rfl, I.turned (t' := s.toks) (fun b o hb q => eb b o hb q) f0 f1 f3 f4 f5⟩
  self := fun A i s Q E st h => let ⟨⟨_, he⟩, _⟩ := st; wpAny_pyIter_enum he h
end
/-- what is enumerated: a list or a tuple -/
def iEnumA (K : PySem.W.Frag) (ta : TA) : TI := fun σ H R => ta σ H fun vs H1 => ∃ a, vs = [.ref a] ∧ (((∃ xs, SqL K H1 a xs) ∧ R (Ite K a) H1) ∨ ((∃ xs, SqT K H1 a xs) ∧ R (IteT K a) H1))
theorem pi_enumA {e : Expr} {ta : TA} {p tpos : Pos} {elts : List Expr} {kk : Nat} (hg : Gl X "enumerate") (hm : X.mg "enumerate" = none) (ha : PA X [e] ta) (hs : starEach [e] X.env = [(false, eval e X.env)]) :
    PI X (.Tuple elts kk tpos) (.Call (.Name "enumerate" p) [e] [] pos) (iEnumA X.K ta) := by
  refine ⟨fun pins s σ H R I h => ?_⟩
  refine PyProof.Rows.Call_ (ld_blt I hg hm PyProof.Rows.boot_enumerate (PyProof.Rows.callWith_type1 (thn (ha.run pos pins s σ H _ I h) fun us s1 ⟨vs, H1, I1, r1, q1⟩ => ?_) hs rfl))
  obtain ⟨a, ex, q1⟩ := q1
  subst ex
  cases r1 with
  | cons r rr =>
    cases rr
    cases r
    rcases q1 with ⟨⟨xs, hq⟩, q⟩ | ⟨⟨xs, hq⟩, q⟩
    · obtain ⟨its, rv, p', hz⟩ := I1.list hq
      refine call_enumerate_list p'.isList fun h' he hit hsz hk => wpAny_pyIter_enum he ?_
      have I2 : Inv X pins σ H1 { s1 with heap := h' } := I1.kept (t' := s1.toks) hk
      refine ⟨s1.heap.objs.size + 1, [s1.heap.objs.size + 1, s1.heap.objs.size], _, _, H1, rfl, I2, turn_enum a (s1.heap.objs.size + 1) s1.heap.objs.size, ⟨⟨.none, he⟩, hit, Nat.succ_ne_self _⟩, fun b hb => ?_, q⟩
      have e' : b = s1.heap.objs.size + 1 ∨ b = s1.heap.objs.size := by simpa using hb
      have hle : s1.heap.objs.size ≤ b := by
        rcases e' with z | z
        · rw [z]; exact Nat.le_succ _
        · rw [z]; exact Nat.le_refl _
      exact I1.fpOk hle (I1.hok.fresh hle)
    · obtain ⟨its, rv, p', hz⟩ := I1.tuple hq
      have ht : s1.heap.IsTuple a its.toArray := p'
      have hal : a < s1.heap.objs.size := by obtain ⟨o, ho, _⟩ := p'; exact Heap.lt_size ho
      refine call_enumerate_tup ht fun h' he hit hsz hk => wpAny_pyIter_enum he ?_
      have I2 : Inv X pins σ H1 { s1 with heap := h' } := I1.kept (t' := s1.toks) hk
      refine ⟨s1.heap.objs.size + 1, [s1.heap.objs.size + 1, s1.heap.objs.size], _, _, H1, rfl, I2, turn_enumT a (s1.heap.objs.size + 1) s1.heap.objs.size (Nat.ne_of_lt hal) (Nat.ne_of_gt (Nat.lt_succ_of_lt hal)), ⟨⟨.none, he⟩, hit, Nat.succ_ne_self _⟩, fun b hb => ?_, q⟩
      have e' : b = s1.heap.objs.size + 1 ∨ b = s1.heap.objs.size := by simpa using hb
      have hle : s1.heap.objs.size ≤ b := by
        rcases e' with z | z
        · rw [z]; exact Nat.le_succ _
        · rw [z]; exact Nat.le_refl _
      exact I1.fpOk hle (I1.hok.fresh hle)
theorem enumD_get (xs : List D) (i : Nat) : (enumD xs)[i]? = (xs[i]?).map fun d => Val.d (.tuple [.int (i : Int), d]) := by
  unfold enumD
  rw [List.getElem?_map, List.getElem?_zipIdx]
  cases xs[i]? <;> simp
theorem src_enum {Av : Addr → Prop} {s0 : S3} {a : Addr} {xs : List V} {ds : List D} (h : (Rd s0.H a (.lst xs) ∧ ¬ Bad Av s0 a) ∨ WrL G.K a xs) (t : DRs G.K s0.H (Bad Av s0) xs ds) : Src G Av (Ite G.K a) (enumD ds) s0 := by
  intro Av' s rp st hA i
  have hq : SqL G.K s.H a xs := by
    rcases h with h | h
    · exact .inl (st.fr.rd h.1 (fun z => h.2 (.inr z)) (fun ps z => by cases z))
    · exact h.any _
  have hd := st.drs' rp.nd hA t
  rw [enumD_get]
  constructor
  · intro v e
    cases e2 : ds[i]? with
    | none => rw [e2] at e; cases e
    | some d =>
      rw [e2] at e
      cases e
      obtain ⟨x, ex, dx⟩ := hd.get e2
      refine ⟨⟨xs, x, hq, ex⟩, fun z H' yl => ?_⟩
      obtain ⟨T, x1, rfl, hT, rfl, f1⟩ := yl
      have g1 := f1 xs hq
      rw [ex] at g1
      cases g1
      obtain ⟨rp3, st3⟩ := rp.upd_new (o := .tup [.int (i : Nat), x]) hT
      exact ⟨⟨s.r, s.h, upd s.H T (.tup [.int (i : Nat), x])⟩, rfl, rfl, rp3, st3, .d (.tup (SqT.of upd_same) (.cons (.int _) (.cons (st3.dr rp3.nd dx) .nil)))⟩
  · intro e
    refine ⟨xs, hq, ?_⟩
    rw [t.length]
    cases e2 : ds[i]? with
    | none => exact List.getElem?_eq_none_iff.mp e2
    | some d => rw [e2] at e; cases e
theorem src_enumT {Av : Addr → Prop} {s0 : S3} {a : Addr} {xs : List V} {ds : List D} (h : SqT G.K s0.H a xs) (t : DRs G.K s0.H (Bad Av s0) xs ds) : Src G Av (IteT G.K a) (enumD ds) s0 := by
  intro Av' s rp st hA i
  have hq : SqT G.K s.H a xs := st.fr.sqt h
  have hd := st.drs' rp.nd hA t
  rw [enumD_get]
  constructor
  · intro v e
    cases e2 : ds[i]? with
    | none => rw [e2] at e; cases e
    | some d =>
      rw [e2] at e
      cases e
      obtain ⟨x, ex, dx⟩ := hd.get e2
      refine ⟨⟨xs, x, hq, ex⟩, fun z H' yl => ?_⟩
      obtain ⟨T, x1, rfl, hT, rfl, f1⟩ := yl
      have g1 := f1 xs hq
      rw [ex] at g1
      cases g1
      obtain ⟨rp3, st3⟩ := rp.upd_new (o := .tup [.int (i : Nat), x]) hT
      exact ⟨⟨s.r, s.h, upd s.H T (.tup [.int (i : Nat), x])⟩, rfl, rfl, rp3, st3, .d (.tup (SqT.of upd_same) (.cons (.int _) (.cons (st3.dr rp3.nd dx) .nil)))⟩
  · intro e
    refine ⟨xs, hq, ?_⟩
    rw [t.length]
    cases e2 : ds[i]? with
    | none => exact List.getElem?_eq_none_iff.mp e2
    | some d => rw [e2] at e; cases e
theorem ii_enm {e : Expr} {p tpos : Pos} {elts : List Expr} {kk : Nat} {m : Sg → Hq → R Val} (hK : G.K = X.K) (hg : Gl X "enumerate") (hm : X.mg "enumerate" = none) (ha : PE X e (tE G W m)) (hs : starEach [e] X.env = [(false, eval e X.env)]) :
    PI X (.Tuple elts kk tpos) (.Call (.Name "enumerate" p) [e] [] pos) (tI G W fun σ h => (m σ h).bind fun x h1 => match x with
    | .d (.tuple xs) => .ok (.data (enumD xs)) h1
    | .d (.list xs) => .ok (.data (enumD xs)) h1
    | _ => .no) := by
  have hst' : starEach [e] X.env = (false, eval e X.env) :: starEach [] X.env := by rw [hs]; rfl
  refine (pi_enumA hg hm (pa_cons ha pa_nil hst') hs).imp fun τ H Q ⟨Av, s, σ, hH, rp, sr, p⟩ => ?_
  subst hH
  refine tE_bind rp sr p fun v y s1 rp1 st1 sr1 q1 p1 => ?_
  split at p1
  · cases q1 with
    | d q1 =>
      cases q1 with
      | tup h t => exact ⟨_, rfl, .inr ⟨⟨_, hK ▸ h⟩, hK ▸ p1.fin rp1 (src_enumT h t)⟩⟩
  · cases q1 with
    | d q1 =>
      cases q1 with
      | lst h t => exact ⟨_, rfl, .inl ⟨⟨_, hK ▸ sql_of h⟩, hK ▸ p1.fin rp1 (src_enum h t)⟩⟩
  · exact p1.elim
end
end Ip

set_option linter.all false
set_option Elab.async false
set_option autoImplicit false
/-! A dict's keys and values, walked; from then on it changes no more. -/
namespace Ip
open PySem L2

section
variable {X : Cx} {G : Gb} {E : XK} {W : WX} {pos : Pos}
/-- what comes out is locked from here on, if it is not yet -/
def tLockP (t : TE) : TE := fun σ H Q => t σ H fun x H1 => ∃ d, x = .ref d ∧ ((∃ o u, H1 d = some (.frz o u) ∧ Q x H1) ∨ ∃ u, H1 d = some u ∧ Mut (some u) ∧ ∀ od, Q x (upd H1 d (.frz od u)))
theorem pe_lockP {e : Expr} {t : TE} (h : PE X e t) : PE X e (tLockP t) := by
  refine ⟨fun pins s σ H Q I hw => ?_⟩
  refine thn (h.run pins s σ _ _ I hw) fun v s1 ⟨x, H1, I2, r, d, e2, q⟩ => ?_
  rcases q with ⟨o, u, hd, q⟩ | ⟨u, hd, mu, q⟩
  · exact ⟨x, H1, I2, r, q⟩
  · obtain ⟨od, I3⟩ := I2.lock hd mu
    exact ⟨x, _, I3, r, q od⟩
theorem RepH.lockD {Av : Addr → Prop} {s : S3} (rp : RepH G Av s) {n : Nat} {a : Addr} {kvs : List (Key × Val)} {es : List (Key × V)} (od : Obj) (hn : s.r[n]? = some a) (hl : s.h[n]? = some (.dct (.k kvs))) (hH : s.H a = some (.dK es)) (kv : KVs G Av s kvs es) :
    RepH G Av ⟨s.r, s.h.set n (.dl kvs), upd s.H a (.frz od (.dK es))⟩ ∧ Stp s ⟨s.r, s.h.set n (.dl kvs), upd s.H a (.frz od (.dK es))⟩ := by
  have hnl : n < s.h.length := lt_of_get hl
  have cr : CR2 G Av s a (.k kvs) (.dK es) := .k kv
  have lv : ∀ m, live (s.h.set n (.dl kvs)) m → live s.h m := fun m ⟨us, e, ha⟩ => by
    by_cases hmn : n = m
    · subst hmn; exact ⟨_, hl, rfl⟩
    · rw [List.getElem?_set_ne hmn] at e; exact ⟨us, e, ha⟩
  have st : Stp s ⟨s.r, s.h.set n (.dl kvs), upd s.H a (.frz od (.dK es))⟩ :=
    ⟨List.prefix_refl _, fun m _ h => lv m h, fr_upd_live hH cr.nt.2.1 cr.nt.2.2.2 ⟨n, hn, _, hl, rfl⟩, fun _ h => .inl h⟩
  refine ⟨⟨by rw [List.length_set]; exact rp.len, rp.nd, fun m b o e1 e2 => ?_, fun b z => st.fr.there b (rp.av b z), rp.dis, fun b z => st.fr.there b (rp.trk b z), tabs_upd rp.tabs (.inr ⟨_, hH, cr.nt.1, cr.nt.2.2.1⟩)⟩, st⟩
  by_cases hmn : n = m
  · subst hmn
    have e2 : (s.h.set n (.dl kvs))[n]? = some o := e2
    rw [List.getElem?_set_self hnl] at e2
    cases e2
    have e1 : s.r[n]? = some b := e1
    rw [hn] at e1; cases e1
    exact ⟨od, es, upd_same, kv.map (st.vr rp.nd)⟩
  · have e2 : (s.h.set n (.dl kvs))[m]? = some o := e2
    rw [List.getElem?_set_ne hmn] at e2
    have q2 := rp.obj m b o e1 e2
    have nb : b ≠ a := fun z => by subst z; exact hmn (nd_get rp.nd hn e1)
    cases o with
    | lst us =>
      obtain ⟨ys, h1, h2⟩ := q2
      exact ⟨ys, (upd_ne nb).trans h1, st.vrs rp.nd h2⟩
    | dead x => exact st.dr rp.nd q2
    | dct c2 =>
      obtain ⟨ob2, h1, h2⟩ := q2
      exact ⟨ob2, (upd_ne nb).trans h1, h2.map (st.vr rp.nd) st.fr.sqt⟩
    | tx ds => exact tx_step st rp.nd q2
    | dl kvs => exact dl_step st rp.nd q2
theorem KVs.get {κ : Type} {Av : Addr → Prop} {s : S3} : ∀ {l : List (κ × Val)} {m : List (κ × V)} {i : Nat} {p : κ × Val}, KVs G Av s l m → l[i]? = some p → ∃ x, m[i]? = some (p.1, x) ∧ VR G Av s p.2 x
  | _, _, _, _, .nil, e => by simp at e
  | _, _, 0, p, .cons h _, e => by
    have e : some _ = some p := e
    cases e
    exact ⟨_, rfl, h⟩
  | _, _, i + 1, p, .cons _ t, e => KVs.get (i := i) t e
theorem KVs.map' {κ : Type} {Av Av' : Addr → Prop} {s s' : S3} (f : ∀ {v : Val} {x : V}, VR G Av s v x → VR G Av' s' v x) : ∀ {l : List (κ × Val)} {m : List (κ × V)}, KVs G Av s l m → KVs G Av' s' l m := fun h => h.map f
theorem src_keys {Av : Addr → Prop} {s0 : S3} {a : Addr} {o : Obj} {kvs : List (Key × Val)} {es : List (Key × V)} (h : s0.H a = some (.frz o (.dK es))) (kv : KVs G Av s0 kvs es) : Src G Av (Itk a o es) (kvs.map fun p => keyV p.1) s0 := by
  intro Av' s rp st hA i
  have hq := st.fr.frz _ _ _ h
  constructor
  · intro v e
    rw [List.getElem?_map] at e
    cases e2 : kvs[i]? with
    | none => rw [e2] at e; cases e
    | some p =>
      rw [e2] at e
      cases e
      obtain ⟨x, ex, vx⟩ := kv.get e2
      refine ⟨⟨hq, (List.getElem?_eq_some_iff.mp ex).1⟩, fun y H' yl => ?_⟩
      obtain ⟨rfl, k, v', hy, rfl⟩ := yl
      rw [ex] at hy
      cases hy
      refine ⟨s, rfl, rfl, rp, Stp.refl _, ?_⟩
      obtain ⟨k, v⟩ := p
      cases k with
      | inl i => exact .d (.int i)
      | inr z => exact .d (.str z)
  · intro e
    refine ⟨hq, ?_⟩
    rw [List.getElem?_map] at e
    cases e2 : kvs[i]? with
    | none => rw [← kv.length]; exact List.getElem?_eq_none_iff.mp e2
    | some p => rw [e2] at e; cases e
theorem src_vals {Av : Addr → Prop} {s0 : S3} {a : Addr} {o : Obj} {kvs : List (Key × Val)} {es : List (Key × V)} (h : s0.H a = some (.frz o (.dK es))) (kv : KVs G Av s0 kvs es) : Src G Av (Itd a o es) (kvs.map fun p => p.2) s0 := by
  intro Av' s rp st hA i
  have hq := st.fr.frz _ _ _ h
  constructor
  · intro v e
    rw [List.getElem?_map] at e
    cases e2 : kvs[i]? with
    | none => rw [e2] at e; cases e
    | some p =>
      rw [e2] at e
      cases e
      obtain ⟨x, ex, vx⟩ := kv.get e2
      refine ⟨⟨hq, (List.getElem?_eq_some_iff.mp ex).1⟩, fun y H' yl => ?_⟩
      obtain ⟨rfl, k, hy⟩ := yl
      rw [ex] at hy
      cases hy
      exact ⟨s, rfl, rfl, rp, Stp.refl _, st.vr' rp.nd hA vx⟩
  · intro e
    refine ⟨hq, ?_⟩
    rw [List.getElem?_map] at e
    cases e2 : kvs[i]? with
    | none => rw [← kv.length]; exact List.getElem?_eq_none_iff.mp e2
    | some p => rw [e2] at e; cases e
theorem ii_keys {tg e : Expr} {m : Sg → Hq → R Val} (ha : PE X e (tE G W m)) : PI X tg e (tI G W fun σ h => (m σ h).bind fun x h1 => keysV x h1) := by
  refine (pi_keys (pe_lockP ha)).imp fun τ H Q ⟨Av, s, σ, hH, rp, sr, p⟩ => ?_
  subst hH
  refine tE_bind rp sr p fun v y s1 rp1 st1 sr1 q1 p1 => ?_
  unfold keysV at p1
  cases q1 with
  | d _ => exact p1.elim
  | fn _ => exact p1.elim
  | @ref n a hn =>
    simp only at p1
    split at p1
    · rename_i kvs hl
      obtain ⟨ob, hH, cr⟩ := rp1.obj n a _ hn hl
      cases cr with
      | @k _ es kv =>
        refine ⟨a, rfl, .inr ⟨.dK es, hH, True.intro, fun od => ?_⟩⟩
        obtain ⟨rp2, st2⟩ := rp1.lockD od hn hl hH kv
        exact ⟨a, od, rfl, .inl ⟨es, upd_same, p1 ⟨s1.r, s1.h.set n (.dl kvs), upd s1.H a (.frz od (.dK es))⟩ _ rfl rp2 st2 (src_keys upd_same (kv.map (st2.vr rp2.nd)))⟩⟩
    · rename_i kvs hl
      obtain ⟨od, es, hH, kv⟩ := rp1.obj n a _ hn hl
      exact ⟨a, rfl, .inl ⟨od, _, hH, a, od, rfl, .inl ⟨es, hH, p1.fin rp1 (src_keys hH kv)⟩⟩⟩
    · exact p1.elim
theorem ii_vals {tg e : Expr} {apos : Pos} {m : Sg → Hq → R Val} (ha : PE X e (tE G W m)) (hbase : attributeBase e "values" X.env (eval e X.env) = eval e X.env) (hline : (apos.endLine == pos.line) = true) :
    PI X tg (.Call (.Attribute e "values" apos) [] [] pos) (tI G W fun σ h => (m σ h).bind fun x h1 => valsV x h1) := by
  refine (pi_values (pe_lockP ha) hbase hline).imp fun τ H Q ⟨Av, s, σ, hH, rp, sr, p⟩ => ?_
  subst hH
  refine tE_bind rp sr p fun v y s1 rp1 st1 sr1 q1 p1 => ?_
  unfold valsV at p1
  cases q1 with
  | d _ => exact p1.elim
  | fn _ => exact p1.elim
  | @ref n a hn =>
    simp only at p1
    split at p1
    · rename_i kvs hl
      obtain ⟨ob, hH, cr⟩ := rp1.obj n a _ hn hl
      cases cr with
      | @k _ es kv =>
        refine ⟨a, rfl, .inr ⟨.dK es, hH, True.intro, fun od => ?_⟩⟩
        obtain ⟨rp2, st2⟩ := rp1.lockD od hn hl hH kv
        exact ⟨a, od, es, rfl, upd_same, p1 ⟨s1.r, s1.h.set n (.dl kvs), upd s1.H a (.frz od (.dK es))⟩ _ rfl rp2 st2 (src_vals upd_same (kv.map (st2.vr rp2.nd)))⟩
    · rename_i kvs hl
      obtain ⟨od, es, hH, kv⟩ := rp1.obj n a _ hn hl
      exact ⟨a, rfl, .inl ⟨od, _, hH, a, od, es, rfl, hH, p1.fin rp1 (src_vals hH kv)⟩⟩
    · exact p1.elim
end
end Ip

set_option linter.all false
set_option Elab.async false
set_option autoImplicit false
/-! Calls of the text's own defs. -/
namespace Ip
open PySem L2

/-! ### a call, by what the callee promises -/
section
variable {G : Gb} {E : XK}
/-- a def's promise: what the evaluator says of its body -/
def spFn (G : Gb) (W : Nat) (C : List Orc) (fn : Fn) : Sp := fun vs H Q E => ∃ (Av : Addr → Prop) (s : S3) (args : List Val), s.H = H ∧ RepH G Av s ∧ VRs G Av s args vs ∧ args.length = fn.ps ∧
  Post G E Av s (fun v y s' => VR G Av s' v y) (run W C fn args s.h) Q

mutual
theorem flat_dr {K : PySem.W.Frag} {H : Hp} {B B' : Addr → Prop} : ∀ {v : V} {d : D}, DR K H B v d → flat d = true → DR K H B' v d
  | _, _, .non, _ => .non
  | _, _, .bl b, _ => .bl b
  | _, _, .int i, _ => .int i
  | _, _, .str x, _ => .str x
  | _, _, .lst _ _, e => by simp [flat] at e
  | _, _, .tup h t, e => .tup h (flats_dr t (by simpa [flat] using e))
theorem flats_dr {K : PySem.W.Frag} {H : Hp} {B B' : Addr → Prop} : ∀ {vs : List V} {ds : List D}, DRs K H B vs ds → flatAll ds = true → DRs K H B' vs ds
  | _, _, .nil, _ => .nil
  | _, _, .cons h t, e => by
    simp only [flatAll, Bool.and_eq_true] at e
    exact .cons (flat_dr h e.1) (flats_dr t e.2)
end
theorem allDat_map : ∀ {vs : List Val}, allDat vs = true → ∃ ds : List D, vs = ds.map .d
  | [], _ => ⟨[], rfl⟩
  | .d x :: vs, e => by
    obtain ⟨ds, h⟩ := allDat_map (vs := vs) e
    exact ⟨x :: ds, by rw [h]; rfl⟩
  | .ref _ :: _, e => by cases e
  | .fn _ :: _, e => by cases e
theorem pks_map (h : Hq) : ∀ ds : List D, pks h 3 (ds.map .d) = some ds
  | [] => rfl
  | d :: ds => by
    show (match pk h 3 (.d d), allO (pk h 3) (ds.map .d) with | some x, some xs => some (x :: xs) | _, _ => none) = _
    rw [show allO (pk h 3) (ds.map .d) = some ds from pks_map h ds]
    rfl
/-- the state of a run of its own: nothing of its own yet -/
theorem rep_nil {Av : Addr → Prop} {H : Hp} (h : ∀ a, Av a → H a ≠ none) (ht : LamX.Tabs G.tb H) : RepH G Av ⟨[], [], H⟩ :=
  ⟨rfl, List.nodup_nil, fun n a o e => (by cases e), h, fun a _ => (by simp), fun a h => (by cases h), ht⟩
theorem bad_nil {Av : Addr → Prop} {H : Hp} {a : Addr} : Bad Av ⟨[], [], H⟩ a ↔ Av a := by
  constructor
  · rintro (h | ⟨n, h, _⟩)
    · exact h
    · cases h
  · exact .inl
/-- all that stood stands: our state behind a run of its own -/
theorem rep_after {Av : Addr → Prop} {s : S3} {r2 : List Addr} {h2 : Hq} {H2 : Hp} (rp : RepH G Av s) (st : Stp ⟨[], [], s.H⟩ ⟨r2, h2, H2⟩) (ht : LamX.Tabs G.tb H2) : RepH G Av ⟨s.r, s.h, H2⟩ ∧ Stp s ⟨s.r, s.h, H2⟩ := by
  have nl : ∀ a, ¬ ∃ n, ([] : List Addr)[n]? = some a ∧ live ([] : Hq) n := fun a ⟨n, z, _⟩ => by cases z
  refine rp.grow ⟨fun a o h _ nt => st.fr.keep a o h (nl a) nt, st.fr.there, st.fr.tup, st.fr.frz⟩ (fun n a e l => ?_) ht
  obtain ⟨u, hx, n1, _, _⟩ := rp.at_live e l
  rw [hx]
  exact st.fr.keep a _ hx (nl a) n1

theorem call_pure {W : Nat} {C : List Orc} {fn : Fn} {Av : Addr → Prop} {s : S3} {ys : List V} {ds : List D} {Q : VK} (rp : RepH G Av s) (q : DRs G.K s.H (Bad Av s) ys ds) (hl : ds.length = fn.ps)
    (p : Post G E Av s (fun v y s' => VR G Av s' v y) (match run W C fn (ds.map .d) [] with
      | .ok v h1 => match toD v h1 with
        | .ok x _ => .ok (.d x) s.h
        | _ => .no
      | .er e _ => .er e s.h
      | .no => .no) Q) : spFn G W C fn ys s.H Q E := by
  have r0 : RepH G (Bad Av s) ⟨[], [], s.H⟩ := rep_nil (fun a h => rp.bad_some h) rp.tabs
  refine ⟨Bad Av s, ⟨[], [], s.H⟩, ds.map .d, rfl, r0, VRs.of_data (q.sub fun a z => bad_nil.mp z), by rw [List.length_map]; exact hl, ?_⟩
  revert p
  cases run W C fn (ds.map .d) [] with
  | no => exact fun p => p
  | er e h1 =>
    intro p s2 c dx e2 rp2 st2 xr
    obtain ⟨r2, h2, H2⟩ := s2
    obtain ⟨rp3, st3⟩ := rep_after rp st2 rp2.tabs
    exact p ⟨s.r, s.h, H2⟩ c dx rfl rp3 st3 xr
  | ok v h1 =>
    intro p s2 y e2 rp2 st2 qv
    obtain ⟨r2, h2, H2⟩ := s2
    obtain ⟨rp3, st3⟩ := rep_after rp st2 rp2.tabs
    have e2 : h2 = h1 := e2
    subst e2
    have p : Post G E Av s (fun v y s' => VR G Av s' v y) (match toD v h2 with
        | .ok x _ => .ok (.d x) s.h
        | _ => .no) Q := p
    cases e3 : toD v h2 with
    | er x h => exact absurd e3 (toD_no_er _ _ _ _)
    | no => rw [e3] at p; exact p.elim
    | ok x h3 =>
      rw [e3] at p
      obtain ⟨rp4, st4, d4⟩ := toD_ok rp2 qv e3
      refine p ⟨s.r, s.h, H2⟩ y rfl rp3 st3 (.d (d4.sub fun a z => ?_))
      exact .inl z
theorem call_flat {W : Nat} {C : List Orc} {fn : Fn} {Av : Addr → Prop} {s : S3} {ys : List V} {ds : List D} {Q : VK} (rp : RepH G Av s) (q : DRs G.K s.H NoB ys ds) (hl : ds.length = fn.ps)
    (p : Post G E Av s (fun v y s' => VR G Av s' v y) (match run W C fn (ds.map .d) [] with
      | .ok v h1 => match toD v h1 with
        | .ok x _ => if flat x then .ok (.d x) s.h else .no
        | _ => .no
      | .er e _ => .er e s.h
      | .no => .no) Q) : spFn G W C fn ys s.H Q E := by
  have r0 : RepH G NoB ⟨[], [], s.H⟩ := rep_nil (fun a h => h.elim) rp.tabs
  refine ⟨NoB, ⟨[], [], s.H⟩, ds.map .d, rfl, r0, VRs.of_data (q.sub fun a z => bad_nil.mp z), by rw [List.length_map]; exact hl, ?_⟩
  revert p
  cases run W C fn (ds.map .d) [] with
  | no => exact fun p => p
  | er e h1 =>
    intro p s2 c dx e2 rp2 st2 xr
    obtain ⟨r2, h2, H2⟩ := s2
    obtain ⟨rp3, st3⟩ := rep_after rp st2 rp2.tabs
    exact p ⟨s.r, s.h, H2⟩ c dx rfl rp3 st3 xr
  | ok v h1 =>
    intro p s2 y e2 rp2 st2 qv
    obtain ⟨r2, h2, H2⟩ := s2
    obtain ⟨rp3, st3⟩ := rep_after rp st2 rp2.tabs
    have e2 : h2 = h1 := e2
    subst e2
    have p : Post G E Av s (fun v y s' => VR G Av s' v y) (match toD v h2 with
        | .ok x _ => if flat x then .ok (.d x) s.h else .no
        | _ => .no) Q := p
    cases e3 : toD v h2 with
    | er x h => exact absurd e3 (toD_no_er _ _ _ _)
    | no => rw [e3] at p; exact p.elim
    | ok x h3 =>
      rw [e3] at p
      have p : Post G E Av s (fun v y s' => VR G Av s' v y) (if flat x then .ok (.d x) s.h else .no) Q := p
      by_cases hf : flat x = true
      · rw [if_pos hf] at p
        obtain ⟨rp4, st4, d4⟩ := toD_ok rp2 qv e3
        exact p ⟨s.r, s.h, H2⟩ y rfl rp3 st3 (.d (flat_dr d4 hf))
      · rw [if_neg hf] at p; exact p.elim

/-! ### a call over this run's objects -/
theorem vr_cut {Av : Addr → Prop} {s s3 : S3} (hH : s3.H = s.H) (hr : s3.r <+: s.r) (hb : ∀ a, ¬ Bad Av s a → ¬ Bad Av s3 a) {v : Val} {y : V} (q : VR G Av s v y) (hv : below s3.r.length v = true) : VR G Av s3 v y := by
  cases q with
  | d q => exact .d (by rw [hH]; exact q.weak fun a _ h => hb a h)
  | fn q => exact .fn q
  | @ref n a q =>
    have hn : n < s3.r.length := by simpa [below] using hv
    have e : s3.r[n]? = some (s3.r[n]) := List.getElem?_eq_getElem hn
    have e' := pre_get hr e
    rw [q] at e'
    exact .ref (by rw [e, Option.some.inj e'])
theorem vrs_cut {Av : Addr → Prop} {s s3 : S3} (hH : s3.H = s.H) (hr : s3.r <+: s.r) (hb : ∀ a, ¬ Bad Av s a → ¬ Bad Av s3 a) : ∀ {vs : List Val} {ys : List V}, VRs G Av s vs ys → vs.all (below s3.r.length) = true → VRs G Av s3 vs ys
  | _, _, .nil, _ => .nil
  | _, _, .cons q t, h => by
    simp only [List.all_cons, Bool.and_eq_true] at h
    exact .cons (vr_cut hH hr hb q h.1) (vrs_cut hH hr hb t h.2)
theorem closed_at {n : Nat} : ∀ {h : Hq} {i : Nat} {vs : List Val}, closed n h = true → h[i]? = some (.lst vs) → vs.all (below n) = true
  | [], _, _, _, e => by simp at e
  | .lst ws :: r, 0, vs, c, e => by
    have e : some (IO.lst ws) = some (IO.lst vs) := e
    cases e
    simp only [closed, Bool.and_eq_true] at c
    exact c.1
  | .lst ws :: r, i + 1, vs, c, e => by
    simp only [closed, Bool.and_eq_true] at c
    exact closed_at (h := r) (i := i) c.2 e
  | .dead x :: r, 0, vs, c, e => by
    have e : some (IO.dead x) = some (IO.lst vs) := e
    cases e
  | .dead x :: r, i + 1, vs, c, e => closed_at (h := r) (i := i) (by simpa [closed] using c) e
  | .tx x :: r, 0, vs, c, e => by
    have e : some (IO.tx x) = some (IO.lst vs) := e
    cases e
  | .tx x :: r, i + 1, vs, c, e => closed_at (h := r) (i := i) (by simpa [closed] using c) e
  | .dl x :: r, 0, vs, c, e => by
    have e : some (IO.dl x) = some (IO.lst vs) := e
    cases e
  | .dl x :: r, i + 1, vs, c, e => closed_at (h := r) (i := i) (by simp only [closed, Bool.and_eq_true] at c; exact c.2) e
  | .dct c0 :: r, 0, vs, c, e => by
    have e : some (IO.dct c0) = some (IO.lst vs) := e
    cases e
  | .dct (.k kvs) :: r, i + 1, vs, c, e => closed_at (h := r) (i := i) (by simp only [closed, Bool.and_eq_true] at c; exact c.2) e
  | .dct (.t kvs) :: r, i + 1, vs, c, e => closed_at (h := r) (i := i) (by simp only [closed, Bool.and_eq_true] at c; exact c.2) e
/-- no pair leads out -/
def Dc.under (n : Nat) : Dc → Bool
  | .k kvs => kvs.all fun p => below n p.2
  | .t kvs => kvs.all fun p => below n p.2
theorem closed_dct {n : Nat} : ∀ {h : Hq} {i : Nat} {c : Dc}, closed n h = true → h[i]? = some (.dct c) → c.under n = true
  | [], _, _, _, e => by simp at e
  | .lst ws :: r, 0, vs, c, e => by
    have e : some (IO.lst ws) = some (IO.dct vs) := e
    cases e
  | .lst ws :: r, i + 1, vs, c, e => closed_dct (h := r) (i := i) (by simp only [closed, Bool.and_eq_true] at c; exact c.2) e
  | .dead x :: r, 0, vs, c, e => by
    have e : some (IO.dead x) = some (IO.dct vs) := e
    cases e
  | .dead x :: r, i + 1, vs, c, e => closed_dct (h := r) (i := i) (by simpa [closed] using c) e
  | .tx x :: r, 0, vs, c, e => by
    have e : some (IO.tx x) = some (IO.dct vs) := e
    cases e
  | .tx x :: r, i + 1, vs, c, e => closed_dct (h := r) (i := i) (by simpa [closed] using c) e
  | .dl x :: r, 0, vs, c, e => by
    have e : some (IO.dl x) = some (IO.dct vs) := e
    cases e
  | .dl x :: r, i + 1, vs, c, e => closed_dct (h := r) (i := i) (by simp only [closed, Bool.and_eq_true] at c; exact c.2) e
  | .dct (.k kvs) :: r, 0, vs, c, e => by
    have e : some (IO.dct (.k kvs)) = some (IO.dct vs) := e
    cases e
    simp only [closed, Bool.and_eq_true] at c
    exact c.1
  | .dct (.t kvs) :: r, 0, vs, c, e => by
    have e : some (IO.dct (.t kvs)) = some (IO.dct vs) := e
    cases e
    simp only [closed, Bool.and_eq_true] at c
    exact c.1
  | .dct (.k kvs) :: r, i + 1, vs, c, e => closed_dct (h := r) (i := i) (by simp only [closed, Bool.and_eq_true] at c; exact c.2) e
  | .dct (.t kvs) :: r, i + 1, vs, c, e => closed_dct (h := r) (i := i) (by simp only [closed, Bool.and_eq_true] at c; exact c.2) e
theorem closed_dl {n : Nat} : ∀ {h : Hq} {i : Nat} {c : List (Key × Val)}, closed n h = true → h[i]? = some (.dl c) → (c.all fun p => below n p.2) = true
  | [], _, _, _, e => by simp at e
  | .lst ws :: r, 0, vs, c, e => by
    have e : some (IO.lst ws) = some (IO.dl vs) := e
    cases e
  | .lst ws :: r, i + 1, vs, c, e => closed_dl (h := r) (i := i) (by simp only [closed, Bool.and_eq_true] at c; exact c.2) e
  | .dead x :: r, 0, vs, c, e => by
    have e : some (IO.dead x) = some (IO.dl vs) := e
    cases e
  | .dead x :: r, i + 1, vs, c, e => closed_dl (h := r) (i := i) (by simpa [closed] using c) e
  | .tx x :: r, 0, vs, c, e => by
    have e : some (IO.tx x) = some (IO.dl vs) := e
    cases e
  | .tx x :: r, i + 1, vs, c, e => closed_dl (h := r) (i := i) (by simpa [closed] using c) e
  | .dl x :: r, 0, vs, c, e => by
    have e : some (IO.dl x) = some (IO.dl vs) := e
    cases e
    simp only [closed, Bool.and_eq_true] at c
    exact c.1
  | .dl x :: r, i + 1, vs, c, e => closed_dl (h := r) (i := i) (by simp only [closed, Bool.and_eq_true] at c; exact c.2) e
  | .dct c0 :: r, 0, vs, c, e => by
    have e : some (IO.dct c0) = some (IO.dl vs) := e
    cases e
  | .dct (.k kvs) :: r, i + 1, vs, c, e => closed_dl (h := r) (i := i) (by simp only [closed, Bool.and_eq_true] at c; exact c.2) e
  | .dct (.t kvs) :: r, i + 1, vs, c, e => closed_dl (h := r) (i := i) (by simp only [closed, Bool.and_eq_true] at c; exact c.2) e
theorem kvt_cut {Av : Addr → Prop} {s s3 : S3} (hH : s3.H = s.H) (hr : s3.r <+: s.r) (hb : ∀ a, ¬ Bad Av s a → ¬ Bad Av s3 a) : ∀ {l : List (List Key × Val)} {m : List (List Key × Addr × V)}, KVt G Av s l m → (l.all fun p => below s3.r.length p.2) = true → KVt G Av s3 l m
  | _, _, .nil, _ => .nil
  | _, _, .cons z q t, h => by
    simp only [List.all_cons, Bool.and_eq_true] at h
    exact .cons (by rw [hH]; exact z) (vr_cut hH hr hb q h.1) (kvt_cut hH hr hb t h.2)
theorem kvs_cut {κ : Type} {Av : Addr → Prop} {s s3 : S3} (hH : s3.H = s.H) (hr : s3.r <+: s.r) (hb : ∀ a, ¬ Bad Av s a → ¬ Bad Av s3 a) : ∀ {l : List (κ × Val)} {m : List (κ × V)}, KVs G Av s l m → (l.all fun p => below s3.r.length p.2) = true → KVs G Av s3 l m
  | _, _, .nil, _ => .nil
  | _, _, .cons q t, h => by
    simp only [List.all_cons, Bool.and_eq_true] at h
    exact .cons (vr_cut hH hr hb q h.1) (kvs_cut hH hr hb t h.2)
/-- back to the objects that stood -/
theorem cut_ok {Av : Addr → Prop} {s s2 : S3} (rp : RepH G Av s) (rp2 : RepH G Av s2) (st : Stp s s2) (hc : closed s.h.length (s2.h.take s.h.length) = true) :
    RepH G Av ⟨s.r, s2.h.take s.h.length, s2.H⟩ ∧ Stp s ⟨s.r, s2.h.take s.h.length, s2.H⟩ ∧ ∀ a, ¬ Bad Av s2 a → ¬ Bad Av ⟨s.r, s2.h.take s.h.length, s2.H⟩ a := by
  have hlen : s.h.length ≤ s2.h.length := by rw [← rp.len, ← rp2.len]; exact st.pre.length_le
  have tk : ∀ {n : Nat} {o : IO}, (s2.h.take s.h.length)[n]? = some o → s2.h[n]? = some o := fun {n o} e => by
    rw [List.getElem?_take] at e
    split at e
    · exact e
    · cases e
  have hb : ∀ a, ¬ Bad Av s2 a → ¬ Bad Av ⟨s.r, s2.h.take s.h.length, s2.H⟩ a := fun a h h3 => by
    rcases h3 with z | ⟨n, z, vs, l, ha⟩
    · exact h (.inl z)
    · exact h (.inr ⟨n, pre_get st.pre z, vs, tk l, ha⟩)
  have hl3 : s.r.length = (s2.h.take s.h.length).length := by rw [List.length_take, rp.len]; omega
  refine ⟨⟨hl3, rp.nd, fun n a o e l => ?_, fun a h => st.fr.there a (rp.av a h), rp.dis, fun a h => st.fr.there a (rp.trk a h), rp2.tabs⟩, ⟨List.prefix_refl _, fun n hn ⟨vs, l, ha⟩ => st.liv n hn ⟨vs, tk l, ha⟩, st.fr, fun a h => .inl h⟩, hb⟩
  have q := rp2.obj n a o (pre_get st.pre e) (tk l)
  cases o with
  | lst vs =>
    obtain ⟨xs, h1, h2⟩ := q
    exact ⟨xs, h1, vrs_cut (s := s2) (s3 := ⟨s.r, s2.h.take s.h.length, s2.H⟩) rfl st.pre hb h2 (by show vs.all (below s.r.length) = true; rw [rp.len]; exact closed_at hc l)⟩
  | dead x => exact DR.weak (fun a _ h => hb a h) q
  | dct c =>
    obtain ⟨ob, h1, h2⟩ := q
    have hu := closed_dct hc l
    have len : s.h.length = s.r.length := rp.len.symm
    refine ⟨ob, h1, ?_⟩
    cases h2 with
    | k h2 => exact .k (kvs_cut (s := s2) (s3 := ⟨s.r, s2.h.take s.h.length, s2.H⟩) rfl st.pre hb h2 (by rw [len] at hu; exact hu))
    | t h2 => exact .t (kvt_cut (s := s2) (s3 := ⟨s.r, s2.h.take s.h.length, s2.H⟩) rfl st.pre hb h2 (by rw [len] at hu; exact hu))
  | tx ds =>
    obtain ⟨ob, us, h1, h2, h3⟩ := q
    exact ⟨ob, us, h1, h2, DRs.weak (fun a _ h => hb a h) h3⟩
  | dl kvs =>
    obtain ⟨ob, es, h1, h2⟩ := q
    have hu := closed_dl hc l
    have len : s.h.length = s.r.length := rp.len.symm
    exact ⟨ob, es, h1, kvs_cut (s := s2) (s3 := ⟨s.r, s2.h.take s.h.length, s2.H⟩) rfl st.pre hb h2 (by rw [len] at hu; exact hu)⟩
theorem call_shared {W : Nat} {C : List Orc} {fn : Fn} {Av : Addr → Prop} {s : S3} {args : List Val} {ys : List V} {Q : VK} (rp : RepH G Av s) (q : VRs G Av s args ys) (hl : args.length = fn.ps)
    (p : Post G E Av s (fun v y s' => VR G Av s' v y) (match run W C fn args s.h with
      | .ok v h1 => match toD v h1 with
        | .ok x h2 => if closed s.h.length (h2.take s.h.length) then .ok (.d x) (h2.take s.h.length) else .no
        | _ => .no
      | .er e h1 => if closed s.h.length (h1.take s.h.length) then .er e (h1.take s.h.length) else .no
      | .no => .no) Q) : spFn G W C fn ys s.H Q E := by
  refine ⟨Av, s, args, rfl, rp, q, hl, ?_⟩
  revert p
  cases run W C fn args s.h with
  | no => exact fun p => p
  | er e h1 =>
    intro p s2 c dx e2 rp2 st2 xr
    subst e2
    have p : Post G E Av s (fun v y s' => VR G Av s' v y) (if closed s.h.length (s2.h.take s.h.length) then .er e (s2.h.take s.h.length) else .no) Q := p
    by_cases hc : closed s.h.length (s2.h.take s.h.length) = true
    · rw [if_pos hc] at p
      obtain ⟨r3, t3, _⟩ := cut_ok rp rp2 st2 hc
      exact p ⟨s.r, s2.h.take s.h.length, s2.H⟩ c dx rfl r3 t3 xr
    · rw [if_neg hc] at p; exact p.elim
  | ok v h1 =>
    intro p s2 y e2 rp2 st2 qv
    subst e2
    have p : Post G E Av s (fun v y s' => VR G Av s' v y) (match toD v s2.h with
        | .ok x h2 => if closed s.h.length (h2.take s.h.length) then .ok (.d x) (h2.take s.h.length) else .no
        | _ => .no) Q := p
    cases e3 : toD v s2.h with
    | er x h => exact absurd e3 (toD_no_er _ _ _ _)
    | no => rw [e3] at p; exact p.elim
    | ok x h3 =>
      rw [e3] at p
      obtain ⟨rp4, st4, d4⟩ := toD_ok rp2 qv e3
      have st5 := st2.trans st4 rp2.nd rp2.len
      have p : Post G E Av s (fun v y s' => VR G Av s' v y) (if closed s.h.length (h3.take s.h.length) then .ok (.d x) (h3.take s.h.length) else .no) Q := p
      by_cases hc : closed s.h.length (h3.take s.h.length) = true
      · rw [if_pos hc] at p
        obtain ⟨r6, t6, b6⟩ := cut_ok (s2 := ⟨s2.r, h3, s2.H⟩) rp rp4 st5 hc
        exact p ⟨s.r, h3.take s.h.length, s2.H⟩ y rfl r6 t6 (.d (d4.weak fun a _ h => b6 a h))
      · rw [if_neg hc] at p; exact p.elim

/-- THE CALL: what the evaluator's call brings about, by the def's promise -/
theorem call_ok {W : Nat} {C : List Orc} {fn : Fn} {Av : Addr → Prop} {s : S3} {args : List Val} {ys : List V} {Q : VK} (rp : RepH G Av s) (q : VRs G Av s args ys)
    (p : Post G E Av s (fun v y s' => VR G Av s' v y) (callR W C fn args s.h) Q) : spFn G W C fn ys s.H Q E := by
  unfold callR at p
  by_cases hl : args.length = fn.ps
  case neg => rw [if_neg hl] at p; exact p.elim
  rw [if_pos hl] at p
  by_cases hp : fn.pure = true
  case neg =>
    rw [if_neg hp] at p
    exact call_shared rp q hl p
  rw [if_pos hp] at p
  cases e : pks s.h 3 args with
  | none => rw [e] at p; exact p.elim
  | some ds =>
    rw [e] at p
    have hlen : ds.length = fn.ps := by
      have := (pks_dr rp q e).length
      have := q.length
      omega
    by_cases ha : allDat args = true
    · obtain ⟨es, rfl⟩ := allDat_map ha
      rw [pks_map] at e
      cases e
      refine call_pure rp q.to_data hlen ?_
      simp only [ha, Bool.or_true, if_true] at p
      exact p
    · refine call_flat rp (pks_dr rp q e) hlen ?_
      simp only [Bool.not_eq_true] at ha
      simp only [ha, Bool.or_false] at p
      exact p
end
end Ip

set_option linter.all false
set_option Elab.async false
set_option autoImplicit false
/-! Statements. -/
namespace Ip
open PySem L2

/-- what a statement's result must bring about -/
def PoS (G : Gb) (W : WX) (Av : Addr → Prop) (s : S3) (r : RF) (D : Ends) : Prop :=
  match r with
  | .ok (.nx σ') h' => ∀ (s' : S3) (τ' : L2.St), s'.h = h' → RepH G Av s' → Stp s s' → SR G Av s' σ' τ' → D.nx τ' s'.H
  | .ok (.bk σ') h' => ∀ (s' : S3) (τ' : L2.St), s'.h = h' → RepH G Av s' → Stp s s' → SR G Av s' σ' τ' → D.bk τ' s'.H
  | .ok (.ct σ') h' => ∀ (s' : S3) (τ' : L2.St), s'.h = h' → RepH G Av s' → Stp s s' → SR G Av s' σ' τ' → D.ct τ' s'.H
  | .ok (.rt v) h' => ∀ (s' : S3) (y : V), s'.h = h' → RepH G Av s' → Stp s s' → VR G Av s' v y → D.rt y s'.H
  | .er e σ' h' => ∀ (s' : S3) (c : Value) (dx : Option Addr) (τ' : L2.St), s'.h = h' → RepH G Av s' → Stp s s' → SR G Av s' σ' τ' → XR G e c dx → W c dx τ' s'.H
  | .no => False
def tS (G : Gb) (W : WX) (m : Sg → Hq → RF) : TS := fun D τ H => ∃ (Av : Addr → Prop) (s : S3) (σ : Sg), s.H = H ∧ RepH G Av s ∧ SR G Av s σ τ ∧ PoS G W Av s (m σ s.h) D
theorem _root_.L2.PS.imp {X : Cx} {e : Stmt} {t t' : TS} (h : PS X e t) (q : ∀ D τ H, t' D τ H → t D τ H) : PS X e t' := ⟨fun pins s σ H D I w => h.run pins s σ H D I (q _ _ _ w)⟩
theorem _root_.L2.PSs.imp {X : Cx} {e : List Stmt} {t t' : TS} (h : PSs X e t) (q : ∀ D τ H, t' D τ H → t D τ H) : PSs X e t' := ⟨fun pins s σ H D I w => h.run pins s σ H D I (q _ _ _ w)⟩

section
variable {X : Cx} {G : Gb} {W : WX} {pos : Pos} {Av : Addr → Prop} {s s1 : S3} {σ : Sg} {τ : L2.St} {D : Ends}
theorem PoS.step {r : RF} (p : PoS G W Av s r D) (t : Stp s s1) (r1 : RepH G Av s1) : PoS G W Av s1 r D := by
  have tr : ∀ {s2 : S3}, Stp s1 s2 → Stp s s2 := fun t2 => t.trans t2 r1.nd r1.len
  cases r with
  | no => exact p
  | er e σ' h => exact fun s2 c dx τ' e2 rp2 t2 => p s2 c dx τ' e2 rp2 (tr t2)
  | ok fl h => cases fl <;> exact fun s2 y e2 rp2 t2 => p s2 y e2 rp2 (tr t2)
/-- an expression ahead -/
theorem PoS.bind {α β : Type} {Rl : α → β → S3 → Prop} {r : R α} {f : α → Hq → RF} (sr : SR G Av s σ τ) (p : PoS G W Av s (r.thn σ f) D) :
    Post G (We W τ) Av s Rl r fun y H1 => ∃ (a : α) (s1 : S3), s1.H = H1 ∧ RepH G Av s1 ∧ Stp s s1 ∧ SR G Av s1 σ τ ∧ Rl a y s1 ∧ PoS G W Av s1 (f a s1.h) D := by
  cases r with
  | no => exact p
  | er e h => exact fun s2 c dx e2 rp2 t2 x => p s2 c dx τ e2 rp2 t2 (t2.sr rp2.nd sr) x
  | ok a h =>
    intro s1 y e rp t q
    subst e
    exact ⟨a, s1, rfl, rp, t, t.sr rp.nd sr, q, PoS.step p t rp⟩
theorem sE_bind {m : Sg → Hq → R Val} {f : Val → Hq → RF} {Q' : VK} (rp : RepH G Av s) (sr : SR G Av s σ τ) (p : PoS G W Av s ((m σ s.h).thn σ f) D)
    (h : ∀ (v : Val) (y : V) (s1 : S3), RepH G Av s1 → Stp s s1 → SR G Av s1 σ τ → VR G Av s1 v y → PoS G W Av s1 (f v s1.h) D → Q' y s1.H) : tE G W m τ s.H Q' := by
  refine ⟨Av, s, σ, rfl, rp, sr, (PoS.bind (Rl := fun v y s' => VR G Av s' v y) sr p).mono ?_⟩
  rintro y H1 ⟨v, s1, rfl, rp1, st, sr1, q, p1⟩
  exact h v y s1 rp1 st sr1 q p1
theorem sT_bind {m : Sg → Hq → R Bool} {f : Bool → Hq → RF} {Q' : Bool → Hp → Prop} (rp : RepH G Av s) (sr : SR G Av s σ τ) (p : PoS G W Av s ((m σ s.h).thn σ f) D)
    (h : ∀ (v : Bool) (s1 : S3), RepH G Av s1 → Stp s s1 → SR G Av s1 σ τ → PoS G W Av s1 (f v s1.h) D → Q' v s1.H) : tT G W m τ s.H Q' := by
  refine ⟨Av, s, σ, rfl, rp, sr, (PoS.bind (Rl := fun v y s' => v = y) sr p).mono ?_⟩
  rintro y H1 ⟨v, s1, rfl, rp1, st, sr1, q, p1⟩
  subst q
  exact h v s1 rp1 st sr1 p1
theorem sL_bind {m : Sg → Hq → R (List Val)} {f : List Val → Hq → RF} {Q' : VK} (rp : RepH G Av s) (sr : SR G Av s σ τ) (p : PoS G W Av s ((m σ s.h).thn σ f) D)
    (h : ∀ (v : List Val) (y : V) (s1 : S3), RepH G Av s1 → Stp s s1 → SR G Av s1 σ τ → LR G Av s v y s1 → PoS G W Av s1 (f v s1.h) D → Q' y s1.H) : tL G W m τ s.H Q' := by
  refine ⟨Av, s, σ, rfl, rp, sr, (PoS.bind (Rl := LR G Av s) sr p).mono ?_⟩
  rintro y H1 ⟨v, s1, rfl, rp1, st, sr1, q, p1⟩
  exact h v y s1 rp1 st sr1 q p1

/-! ### one after another -/
theorem is_nil : PSs X [] (tS G W fun σ h => .ok (.nx σ) h) :=
  pss_nil.imp fun D τ H ⟨Av, s, σ, hH, rp, sr, p⟩ => by subst hH; exact p s τ rfl rp (Stp.refl _) sr
theorem PoS.seq {r : RF} {f : Sg → Hq → RF} (p : PoS G W Av s (r.thn f) D) :
    PoS G W Av s r { D with nx := fun τ' H' => ∃ (s' : S3) (σ' : Sg), s'.H = H' ∧ RepH G Av s' ∧ SR G Av s' σ' τ' ∧ PoS G W Av s' (f σ' s'.h) D } := by
  cases r with
  | no => exact p
  | er e σ' h => exact p
  | ok fl h =>
    cases fl with
    | nx σ' =>
      intro s1 τ' e rp t sr
      subst e
      exact ⟨s1, σ', rfl, rp, sr, PoS.step (r := f σ' s1.h) p t rp⟩
    | bk σ' => exact p
    | ct σ' => exact p
    | rt v => exact p
theorem PoS.imp {r : RF} {D' : Ends} (p : PoS G W Av s r D) (h1 : ∀ τ H, D.nx τ H → D'.nx τ H) (h2 : ∀ τ H, D.bk τ H → D'.bk τ H) (h3 : ∀ τ H, D.ct τ H → D'.ct τ H) (h4 : ∀ v H, D.rt v H → D'.rt v H) : PoS G W Av s r D' := by
  cases r with
  | no => exact p
  | er e σ' h => exact p
  | ok fl h =>
    cases fl with
    | nx σ' => exact fun s1 τ' e rp t sr => h1 _ _ (p s1 τ' e rp t sr)
    | bk σ' => exact fun s1 τ' e rp t sr => h2 _ _ (p s1 τ' e rp t sr)
    | ct σ' => exact fun s1 τ' e rp t sr => h3 _ _ (p s1 τ' e rp t sr)
    | rt v => exact fun s1 y e rp t q => h4 _ _ (p s1 y e rp t q)
theorem is_cons {st : Stmt} {rest : List Stmt} {m ms : Sg → Hq → RF} (h : PS X st (tS G W m)) (hs : PSs X rest (tS G W ms)) : PSs X (st :: rest) (tS G W fun σ h => (m σ h).thn fun σ' h1 => ms σ' h1) :=
  (pss_cons h hs).imp fun D τ H ⟨Av, s, σ, hH, rp, sr, p⟩ => by
    subst hH
    exact ⟨Av, s, σ, rfl, rp, sr, (PoS.seq p).imp (fun τ' H' ⟨s', σ', e, rp', sr', p'⟩ => ⟨Av, s', σ', e, rp', sr', p'⟩) (fun _ _ z => z) (fun _ _ z => z) (fun _ _ z => z)⟩

/-! ### small ones -/
theorem is_pas : PS X (.Pass pos) (tS G W fun σ h => .ok (.nx σ) h) :=
  ps_pass.imp fun D τ H ⟨Av, s, σ, hH, rp, sr, p⟩ => by subst hH; exact p s τ rfl rp (Stp.refl _) sr
theorem is_doc {x j p1 p2} : PS X (.Expr (.Constant (.str x) j p1) p2) (tS G W fun σ h => .ok (.nx σ) h) :=
  ps_doc.imp fun D τ H ⟨Av, s, σ, hH, rp, sr, p⟩ => by subst hH; exact p s τ rfl rp (Stp.refl _) sr
theorem is_brk : PS X (.Break pos) (tS G W fun σ h => .ok (.bk σ) h) :=
  ps_break.imp fun D τ H ⟨Av, s, σ, hH, rp, sr, p⟩ => by subst hH; exact p s τ rfl rp (Stp.refl _) sr
theorem is_cnt : PS X (.Continue pos) (tS G W fun σ h => .ok (.ct σ) h) :=
  ps_continue.imp fun D τ H ⟨Av, s, σ, hH, rp, sr, p⟩ => by subst hH; exact p s τ rfl rp (Stp.refl _) sr
theorem is_retN : PS X (.Return none pos) (tS G W fun _ h => .ok (.rt (.d .none)) h) :=
  ps_retN.imp fun D τ H ⟨Av, s, σ, hH, rp, sr, p⟩ => by subst hH; exact p s .non rfl rp (Stp.refl _) (.d .non)
theorem is_ret {e : Expr} {m : Sg → Hq → R Val} (h : PE X e (tE G W m)) : PS X (.Return (some e) pos) (tS G W fun σ h => (m σ h).thn σ fun v h1 => .ok (.rt v) h1) :=
  (ps_ret h).imp fun D τ H ⟨Av, s, σ, hH, rp, sr, p⟩ => by
    subst hH
    exact sE_bind rp sr p fun v y s1 rp1 st1 sr1 q1 p1 => p1 s1 y rfl rp1 (Stp.refl _) q1
theorem is_exp {e : Expr} {m : Sg → Hq → R Val} (h : PE X e (tE G W m)) (hs : swapsWith e none pos.line X.env = pure false) : PS X (.Expr e pos) (tS G W fun σ h => (m σ h).thn σ fun _ h1 => .ok (.nx σ) h1) :=
  (ps_expr h hs).imp fun D τ H ⟨Av, s, σ, hH, rp, sr, p⟩ => by
    subst hH
    exact sE_bind rp sr p fun v y s1 rp1 st1 sr1 q1 p1 => p1 s1 τ rfl rp1 (Stp.refl _) sr1
/-- a name's value -/
theorem set_imp {i : Nat} {m : Sg → Hq → R Val} {te : TE} (ht : ∀ τ H Q, tE G W m τ H Q → te τ H Q) : ∀ D τ H, tS G W (fun σ h => (m σ h).thn σ fun v h1 => .ok (.nx (σ.set i (some v))) h1) D τ H → tAsg te (gName i) D τ H := fun D τ H ⟨Av, s, σ, hH, rp, sr, p⟩ => by
  subst hH
  exact ht _ _ _ (sE_bind rp sr p fun v y s1 rp1 st1 sr1 q1 p1 => p1 s1 _ rfl rp1 (Stp.refl _) (sr1.set q1 i))
theorem is_asg {tg e : Expr} {t : Tgt} {m : Sg → Hq → R Val} (h : PE X e (tE G W m)) (hg : PG X tg (tG G t)) (hs : swapsWithSole [tg] e pos.line X.env = pure false) (hw : swappedStores [tg] e X.env = pure none) (h1 : (assignEach [tg] X.env).map (·.2) = [assign tg X.env]) :
    PS X (.Assign [tg] e pos) (tS G W fun σ h => (m σ h).thn σ fun v h1 => match bindT h1 t v σ with
    | some σ' => .ok (.nx σ') h1
    | none => .no) :=
  (ps_asg h hg hs hw h1).imp fun D τ H ⟨Av, s, σ, hH, rp, sr, p⟩ => by
    subst hH
    refine sE_bind rp sr p fun v y s1 rp1 st1 sr1 q1 p1 => ?_
    cases e : bindT s1.h t v σ with
    | none => rw [e] at p1; exact p1.elim
    | some σ' =>
      rw [e] at p1
      exact ⟨Av, s1, σ, σ', v, rfl, rp1, sr1, q1, e, fun τ' sr' _ => p1 s1 τ' rfl rp1 (Stp.refl _) sr'⟩
theorem par_imp {i j : Nat} {ma mb : Sg → Hq → R Val} {ta : TA}
    (ht : ∀ τ H Q, tA G W (fun σ h => (ma σ h).bind fun v h1 => ((mb σ h1).bind fun v h1 => (R.ok ([] : List Val) h1).bind fun vs h2 => .ok (v :: vs) h2).bind fun vs h2 => .ok (v :: vs) h2) τ H Q → ta τ H Q) :
    ∀ D τ H, tS G W (fun σ h => (ma σ h).thn σ fun v h1 => (mb σ h1).thn σ fun w h2 => .ok (.nx ((σ.set i (some v)).set j (some w))) h2) D τ H → tPar i j ta D τ H := fun D τ H ⟨Av, s, σ, hH, rp, sr, p⟩ => by
  subst hH
  refine ht _ _ _ ⟨Av, s, σ, rfl, rp, sr, ?_⟩
  have p' : PoS G W Av s (((ma σ s.h).bind fun v h1 => ((mb σ h1).bind fun v h1 => (R.ok ([] : List Val) h1).bind fun vs h2 => .ok (v :: vs) h2).bind fun vs h2 => .ok (v :: vs) h2).thn σ fun vs h2 => match vs with
      | [v, w] => .ok (.nx ((σ.set i (some v)).set j (some w))) h2
      | _ => .no) D := by
    revert p
    show PoS G W Av s ((ma σ s.h).thn σ _) D → _
    cases ma σ s.h with
    | no => exact fun p => p
    | er e h => exact fun p => p
    | ok v h1 =>
      simp only [R.thn_ok, R.bind_ok]
      cases mb σ h1 with
      | no => exact fun p => p
      | er e h => exact fun p => p
      | ok w h2 => exact fun p => p
  refine (PoS.bind (Rl := fun v y s' => VRs G Av s' v y) sr p').mono ?_
  rintro ys H1 ⟨vs, s1, rfl, rp1, st, sr1, q, p1⟩
  split at p1
  · rename_i v w
    cases q with
    | cons a t =>
      cases t with
      | cons b t =>
        cases t
        exact ⟨_, _, rfl, p1 s1 _ rfl rp1 (Stp.refl _) ((sr1.set a i).set b j)⟩
  · exact p1.elim
theorem set_dct (hu : X.A.units + 1 < cLine) : PSet X (fun o i v H Q => (∃ a H', o = .ref a ∧ DP X.prog X.w X.K H a i v H' ∧ Q H') ∨ rSetL o i v H Q) := by
  rintro pins s σ H o i v ov iv u Q I ro ri rv (⟨a, H', rfl, g, q⟩ | h)
  · obtain rfl : ov = Value.ref a := ro
    exact dp_setItem hu I g ri rv fun s' I' => ⟨H', I', q⟩
  · exact set_list pins s σ H o i v ov iv u Q I ro ri rv h
theorem is_six {o i e : Expr} {p1 : Pos} {mo mi me : Sg → Hq → R Val} (hK : GX G X) (hu : X.A.units + 100 < cLine) (he : PE X e (tE G W me)) (ho : PE X o (tE G W mo)) (hi : PE X i (tE G W mi)) (hs : swapsWithSole [.Subscript o i p1] e pos.line X.env = pure false) (hw : swappedStores [.Subscript o i p1] e X.env = pure none)
    (h1 : (assignEach [.Subscript o i p1] X.env).map (·.2) = [assign (.Subscript o i p1) X.env])
    (ha : ∀ v, assign (.Subscript o i p1) X.env v = (do
      let ov ← holding [v] (eval o X.env)
      let iv ← holding [v, ov] (eval i X.env)
      standAt p1
      holding [v, ov, iv] (setItem ov iv v)
      release [v, ov, iv] [])) :
    PS X (.Assign [.Subscript o i p1] e pos) (tS G W fun σ h => (me σ h).thn σ fun v h1 => (mo σ h1).thn σ fun x h2 => (mi σ h2).thn σ fun y h3 => (setV x y v h3).thn σ fun _ h4 => .ok (.nx σ) h4) :=
  (ps_asg he (pg_sub ho hi (set_dct (by omega)) ha) hs hw h1).imp fun D τ H ⟨Av, s, σ, hH, rp, sr, p⟩ => by
    subst hH
    refine sE_bind rp sr p fun v y s1 rp1 st1 sr1 q1 p1 => ?_
    refine sE_bind rp1 sr1 p1 fun x z s2 rp2 st2 sr2 q2 p2 => ?_
    refine sE_bind rp2 sr2 p2 fun k u s3 rp3 st3 sr3 q3 p3 => ?_
    have r1 := (st2.trans st3 rp2.nd rp2.len).vr rp3.nd q1
    have r2 := st3.vr rp3.nd q2
    clear q1 q2
    unfold setV at p3
    split at p3
    · rename_i c e0
      obtain ⟨n, a, ob, rfl, rfl, hn, hl, hH, cr⟩ := dct_ok rp3 r2 e0
      unfold setD at p3
      simp only [hl] at p3
      split at p3
      · rename_i c' ep
        obtain ⟨H', g, rp4, st4⟩ := dput_ok rp3 hn hl hH cr q3 r1 ep
        rw [hK.1, hK.2.1, hK.2.2] at g
        exact .inl ⟨a, H', rfl, g, p3 ⟨s3.r, s3.h.set n (.dct c'), H'⟩ τ rfl rp4 st4 (st4.sr rp4.nd sr3)⟩
      · exact p3.elim
    right
    unfold setW at p3
    split at p3
    · rename_i n kk
      split at p3
      · rename_i ws hl
        split at p3
        · rename_i j hj
          cases r2 with
          | ref hn =>
            rename_i b
            cases q3 with
            | d q3 =>
              cases q3
              obtain ⟨zs, hH3, hv⟩ := rp3.obj _ b _ hn hl
              obtain ⟨rp4, st4⟩ := rp3.write hn hl hH3 (hv.set r1 j)
              refine ⟨b, zs, _, j, rfl, rfl, hH3, by rw [← ixn_eq, ← hv.length]; exact hj, ?_⟩
              exact p3 ⟨s3.r, s3.h.set _ (.lst (ws.set j v)), upd s3.H b (.lst (zs.set j y))⟩ τ rfl rp4 st4 (st4.sr rp4.nd sr3)
        · exact p3.elim
      · exact p3.elim
    · exact p3.elim
theorem is_iff {c : Expr} {a b : List Stmt} {mc : Sg → Hq → R Bool} {ma mb : Sg → Hq → RF} (hc : PT X c (tT G W mc)) (ha : PSs X a (tS G W ma)) (hb : PSs X b (tS G W mb)) :
    PS X (.If c a b pos) (tS G W fun σ h => (mc σ h).thn σ fun k h2 => if k then ma σ h2 else mb σ h2) :=
  (ps_if hc ha hb).imp fun D τ H ⟨Av, s, σ, hH, rp, sr, p⟩ => by
    subst hH
    refine sT_bind rp sr p fun k s1 rp1 st1 sr1 p1 => ?_
    cases k with
    | true => rw [if_pos rfl] at p1 ⊢; exact ⟨Av, s1, σ, rfl, rp1, sr1, p1⟩
    | false => rw [if_neg Bool.false_ne_true] at p1 ⊢; exact ⟨Av, s1, σ, rfl, rp1, sr1, p1⟩

/-! ### loops -/
theorem PoS.turn {r : RF} {f : Sg → Hq → RF} (p : PoS G W Av s (r.turn f) D) {N : L2.St → Hp → Prop}
    (hN : ∀ (s' : S3) (σ' : Sg) (τ' : L2.St), RepH G Av s' → Stp s s' → SR G Av s' σ' τ' → PoS G W Av s' (f σ' s'.h) D → N τ' s'.H) : PoS G W Av s r { D with nx := N, ct := N, bk := D.nx } := by
  cases r with
  | no => exact p
  | er e σ' h => exact p
  | ok fl h =>
    cases fl with
    | nx σ' =>
      intro s1 τ' e rp t sr
      subst e
      exact hN s1 σ' τ' rp t sr (PoS.step (r := f σ' s1.h) p t rp)
    | bk σ' => exact p
    | ct σ' =>
      intro s1 τ' e rp t sr
      subst e
      exact hN s1 σ' τ' rp t sr (PoS.step (r := f σ' s1.h) p t rp)
    | rt v => exact p
theorem is_whl {F : Nat} {c : Expr} {body : List Stmt} {mc : Sg → Hq → R Bool} {mb : Sg → Hq → RF} (hp : PassesOwn (model X.prog X.w) X.A X.env X.xe) (hc : PT X c (tT G W mc)) (hb : PSs X body (tS G W mb)) :
    PS X (.While c body [] pos) (tS G W fun σ h => whlN mc mb F σ h) :=
  (ps_while hp hc hb).imp fun D τ H ⟨Av, s, σ, hH, rp, sr, p⟩ => by
    subst hH
    refine ⟨fun m τ' H' => ∃ (s2 : S3) (σ2 : Sg), s2.H = H' ∧ RepH G Av s2 ∧ SR G Av s2 σ2 τ' ∧ PoS G W Av s2 (whlN mc mb m σ2 s2.h) D, ⟨F, s, σ, rfl, rp, sr, p⟩, ?_⟩
    rintro m τ2 H2 ⟨s2, σ2, rfl, rp2, sr2, p2⟩
    cases m with
    | zero => exact p2.elim
    | succ m =>
      unfold whlN at p2
      refine sT_bind rp2 sr2 p2 fun k s3 rp3 st3 sr3 p3 => ?_
      cases k with
      | false =>
        rw [if_neg Bool.false_ne_true] at p3 ⊢
        exact p3 s3 τ2 rfl rp3 (Stp.refl _) sr3
      | true =>
        rw [if_pos rfl] at p3 ⊢
        refine ⟨fun τ4 H4 => ∃ (s4 : S3) (σ4 : Sg), s4.H = H4 ∧ RepH G Av s4 ∧ SR G Av s4 σ4 τ4 ∧ PoS G W Av s4 (whlN mc mb m σ4 s4.h) D, fun τ4 H4 w => ⟨m, Nat.lt_succ_self m, w⟩, ?_⟩
        exact ⟨Av, s3, σ2, rfl, rp3, sr3, p3.turn fun s4 σ4 τ4 rp4 _ sr4 p4 => ⟨s4, σ4, rfl, rp4, sr4, p4⟩⟩
theorem is_for {F : Nat} {tg iter : Expr} {t : Tgt} {body : List Stmt} {mS : Sg → Hq → R Sv} {mb : Sg → Hq → RF} (hp : PassesOwn (model X.prog X.w) X.A X.env X.xe) (hcl : X.calm = true) (hi : PI X tg iter (tI G W mS)) (hg : PG X tg (tG G t)) (hb : PSs X body (tS G W mb))
    (hs : ∀ x, foldedSetIterable iter X.env x = pure x) :
    PS X (.For tg iter body [] pos) (tS G W fun σ h => (mS σ h).thn σ fun sv h1 => match sv with
    | .data vs => forL (turnV t mb) vs σ h1
    | .obj n => forO (turnV t mb) n F 0 σ h1) :=
  (ps_for hp hcl hi hg hb hs).imp fun D τ H ⟨Av, s, σ, hH, rp, sr, p⟩ => by
    subst hH
    refine ⟨Av, s, σ, rfl, rp, sr, (PoS.bind (Rl := SvR G Av) sr p).mono ?_⟩
    rintro J H1 ⟨sv, s1, rfl, rp1, st1, sr1, sv1, p1⟩
    cases sv with
    | data vs =>
      refine ⟨fun i m τ' H' => m = vs.length - i ∧ i ≤ vs.length ∧ ∃ (s2 : S3) (σ2 : Sg), s2.H = H' ∧ RepH G Av s2 ∧ Stp s1 s2 ∧ SR G Av s2 σ2 τ' ∧ PoS G W Av s2 (forL (turnV t mb) (vs.drop i) σ2 s2.h) D,
        ⟨vs.length, by simp, Nat.zero_le _, s1, σ, rfl, rp1, Stp.refl _, sr1, by rw [List.drop_zero]; exact p1⟩, ?_⟩
      rintro i m τ2 H2 ⟨rfl, hi2, s2, σ2, rfl, rp2, st2, sr2, p2⟩
      have srcAt := sv1 Av s2 rp2 st2 (fun a ha z => z) i
      cases hvi : vs[i]? with
      | none =>
        refine .inl ⟨srcAt.2 hvi, ?_⟩
        rw [List.drop_eq_nil_of_le (List.getElem?_eq_none_iff.mp hvi)] at p2
        exact p2 s2 τ2 rfl rp2 (Stp.refl _) sr2
      | some v =>
        have hlt : i < vs.length := lt_of_get hvi
        obtain ⟨hgo, hyl⟩ := srcAt.1 v hvi
        have hdrop : vs.drop i = v :: vs.drop (i + 1) := by
          rw [List.drop_eq_getElem_cons hlt]
          rw [List.getElem?_eq_getElem hlt] at hvi
          rw [Option.some.inj hvi]
        rw [hdrop] at p2
        unfold forL turnV at p2
        cases hb : bindT s2.h t v σ2 with
        | none => rw [hb] at p2; exact p2.elim
        | some σ3 =>
          rw [hb] at p2
          refine .inr ⟨hgo, fun τ4 H4 => ∃ (s4 : S3) (σ4 : Sg), s4.H = H4 ∧ RepH G Av s4 ∧ Stp s1 s4 ∧ SR G Av s4 σ4 τ4 ∧ PoS G W Av s4 (forL (turnV t mb) (vs.drop (i + 1)) σ4 s4.h) D, ?_, ?_⟩
          · rintro τ4 H4 w
            exact ⟨vs.length - (i + 1), by omega, rfl, hlt, w⟩
          · intro x H7 hy
            obtain ⟨s7, rfl, hh7, rp7, st7, q7⟩ := hyl x H7 hy
            refine ⟨Av, s7, σ2, σ3, v, rfl, rp7, st7.sr rp7.nd sr2, q7, by rw [hh7]; exact hb, fun τ' sr' _ => ⟨Av, s7, σ3, rfl, rp7, sr', ?_⟩⟩
            have p3 := PoS.step (r := (mb σ3 s2.h).turn fun σ' h1 => forL (turnV t mb) (vs.drop (i + 1)) σ' h1) p2 st7 rp7
            rw [← hh7] at p3
            have st27 := st2.trans st7 rp2.nd rp2.len
            exact p3.turn fun s4 σ4 τ4 rp4 st4 sr4 p4 => ⟨s4, σ4, rfl, rp4, st27.trans st4 rp7.nd rp7.len, sr4, p4⟩
    | obj n =>
      obtain ⟨a, ha, rfl⟩ := sv1
      refine ⟨fun i m τ' H' => ∃ (s2 : S3) (σ2 : Sg), s2.H = H' ∧ RepH G Av s2 ∧ Stp s1 s2 ∧ SR G Av s2 σ2 τ' ∧ PoS G W Av s2 (forO (turnV t mb) n m i σ2 s2.h) D, ⟨F, s1, σ, rfl, rp1, Stp.refl _, sr1, p1⟩, ?_⟩
      rintro i m τ2 H2 ⟨s2, σ2, rfl, rp2, st2, sr2, p2⟩
      cases m with
      | zero => exact p2.elim
      | succ m =>
        unfold forO at p2
        cases he : elsL s2.h (.ref n) with
        | none => rw [he] at p2; exact p2.elim
        | some vs =>
          rw [he] at p2
          have he2 : elsL s2.h (.ref n) = some vs := he
          obtain ⟨a', xs, ea, hq, hv⟩ := elsL_ok rp2 (.ref (pre_get st2.pre ha)) he2
          cases ea
          simp only at p2
          cases hvi : vs[i]? with
          | none =>
            rw [hvi] at p2
            refine .inl ⟨⟨xs, hq, ?_⟩, p2 s2 τ2 rfl rp2 (Stp.refl _) sr2⟩
            rw [← hv.length]; exact List.getElem?_eq_none_iff.mp hvi
          | some v =>
            rw [hvi] at p2
            unfold turnV at p2
            obtain ⟨x, hx, qx⟩ := hv.get hvi
            cases hb : bindT s2.h t v σ2 with
            | none => simp only [hb] at p2; exact p2.elim
            | some σ3 =>
              simp only [hb] at p2
              refine .inr ⟨⟨xs, x, hq, hx⟩, fun τ4 H4 => ∃ (s4 : S3) (σ4 : Sg), s4.H = H4 ∧ RepH G Av s4 ∧ Stp s1 s4 ∧ SR G Av s4 σ4 τ4 ∧ PoS G W Av s4 (forO (turnV t mb) n m (i + 1) σ4 s4.h) D, fun τ4 H4 w => ⟨m, Nat.lt_succ_self m, w⟩, ?_⟩
              intro y H7 hy
              obtain ⟨rfl, hy⟩ := hy
              have := hy xs hq
              rw [hx] at this
              cases this
              exact ⟨Av, s2, σ2, σ3, v, rfl, rp2, sr2, qx, hb, fun τ' sr' _ => ⟨Av, s2, σ3, rfl, rp2, sr', p2.turn fun s4 σ4 τ4 rp4 st4 sr4 p4 => ⟨s4, σ4, rfl, rp4, st2.trans st4 rp2.nd rp2.len, sr4, p4⟩⟩⟩
end
end Ip

set_option linter.all false
set_option Elab.async false
set_option autoImplicit false
set_option maxRecDepth 100000
/-! Defs: what they promise, where no list is being shown. -/
namespace Ip
open PySem L2 PyProof.Rows

structure RoomG (k : Nat) (A : Around) : Prop where
  rm : Room k A
  gd : A.guards = some []
theorem RoomG.mono {j k : Nat} {A : Around} (r : RoomG k A) (h : j ≤ k) : RoomG j A := ⟨r.rm.mono h, r.gd⟩
theorem RoomG.deeper {k : Nat} {A : Around} (r : RoomG (k + 1) A) (env : Env) : RoomG k (A.deeper env) := ⟨r.rm.deeper env, r.gd⟩
theorem RoomG.calm {k : Nat} {X : Cx} (r : RoomG k X.A) (h : X.calm = true) : Calm X := ⟨h, by have := r.rm.un; omega, r.gd⟩

structure FnG (P : Program) (w : World) (K : PySem.W.Frag) (mg : Str → Option Value) (base : Heap) (k : Nat) (f : Addr) (fd : FuncData) (ps : List Str) (sp : Sp) : Prop where
  len : ∀ vs H Q E, sp vs H Q E → vs.length = ps.length
  run : ∀ (A : Around) (outer : List Env) (s : Shared) (H : Hp) (args : Args) (us : List Value) (vs : List V) (Q : VK) (E : XK), RoomG k A → Env0 P w K mg base A outer s H → BindsTo s fd args (ps.zip us) → Vals vs us → sp vs H Q E →
    codeAny (model P w) A (.call (.ref f) args) (CR (L2N.CX P w) outer P w H s Q E) s

/-- a def by its body -/
theorem fnG_of {P : Program} {w : World} {K : PySem.W.Frag} {mg : Str → Option Value} {base : Heap} {k : Nat} {f : Addr} {name qual : Str} {params : Arguments} {body : List Stmt} {scope : Scope} {dV kV doc pm cdv ct oc : Value} {an od : Option Addr}
    {osl : Array (Option Value)} {N ps : List Str} {sp : Sp} (lk : K.lookup f = some ⟨oc, od, .func (PySem.W.fnOf name qual params body scope dV kV doc pm an cdv ct), osl⟩) (hcd : PySem.W.codeIn K cdv qual = true) (S : FnScope N ps scope)
    (len : ∀ vs H Q E, sp vs H Q E → vs.length = ps.length)
    (hbody : ∀ (A : Around) (outer : List Env) (s : Shared) (H : Hp) (vs : List V) (Q : VK) (E : XK), RoomG k (A.deeper (envOfC qual scope s.heap.objs.size f cdv)) → sp vs H Q E →
      ∃ t, PSs (cxOf (L2N.CX P w) P w K mg base N qual scope f cdv A outer s H E) body t ∧ t { nx := fun _ H' => Q .non H', rt := Q } (L2.start N vs) H) :
    FnG P w K mg base (k + 1) f (PySem.W.fnOf name qual params body scope dV kV doc pm an cdv ct) ps sp := by
  refine ⟨len, fun A outer s H args us vs Q E hr e0 hb r hsp => ?_⟩
  have KX : K.In s.heap := e0.mod.kin.keeps fun b o e => (e0.bs b o e).1
  have lim : s.heap.NoLimit := e0.mod.nolimit.keeps fun b o e => (e0.bs b o e).1
  refine codeAny_call_function hr.rm.depth (KX _ _ lk) rfl S.co S.gen rfl (PySem.W.codeRec_of KX hcd) (hb _ _ _ _ ?_)
  refine wpAny_newFunctionEnv_cells S.kind (fun y hy => ?_) fun env he s1 x => ?_
  · rcases S.par y.1 (List.of_mem_zip hy).1 with q | q
    · exact .inl q
    · exact .inr ⟨q, PySem.W.cellsFrom_some _ _ _ (.inl q)⟩
  subst he
  refine ⟨lim.keeps x.toInCall.keep, codeAny_func ?_⟩
  obtain ⟨t, ht, hq⟩ := hbody A outer s H vs Q E (hr.deeper _) hsp
  have I : Inv (cxOf (L2N.CX P w) P w K mg base N qual scope f cdv A outer s H E) [] (L2.start N vs) H s1 := inv_start S hr.rm.hd e0 (len _ _ _ _ hsp) r x
  refine wpAny_mono (ht.run [] s1 (L2.start N vs) H _ I hq) (fun fl s' hs => ?_) fun e s' hs => hs
  cases fl with
  | ret u => obtain ⟨v, σ', H', J, rv, q⟩ := hs; exact ⟨v, H', J.os, J.bare, J.base, J.hok, rv, q⟩
  | next => obtain ⟨σ', H', J, q⟩ := hs; exact ⟨V.non, H', J.os, J.bare, J.base, J.hok, rfl, q⟩
  | brk => obtain ⟨_, _, _, q⟩ := hs; exact q.elim
  | cont => obtain ⟨_, _, _, q⟩ := hs; exact q.elim

/-! ### a call of a def -/
/-- what a callee lets out is what is wished for -/
def Passing (X : Cx) (W : WX) : Prop := ∀ σ, PassesAt (L2N.CX X.prog X.w) X σ (WE W σ)
theorem Passing.of_takes {X : Cx} {W : WX} (tk : L2N.Takes X W) : Passing X W := fun σ => L2N.passAt tk σ
theorem Passing.never {X : Cx} : Passing X W0 := fun σ pins H s e s' I c => by
  obtain ⟨_, _, _, _, _, _, _, _, _, _, _, _, h⟩ := c
  exact h.elim
section
variable {X : Cx} {G : Gb} {W : WX} {k : Nat} {f : Addr} {fd : FuncData} {ps : List Str} {sp : Sp} {x : Str} {p pos : Pos} {e : Expr} {es : List Expr} {t : TA}
theorem run_fnG {pins : List (Addr × Obj)} {σ : L2.St} {H : Hp} {s : Shared} {Q : VK} {us : List Value} {vs : List V} (F : FnG X.prog X.w X.K X.mg X.base k f fd ps sp) (hr : RoomG k X.A) (hb : Binds X.K fd ps []) (hx : Passing X W)
    (I : Inv X pins σ H s) (r : Vals vs us) (h : sp vs H Q (WE W σ)) : wpAny (model X.prog X.w) X.A (call (.ref f) us) (EP X pins σ Q) X.xe s := by
  have hl : us.length = ps.length := by rw [← r.length]; exact F.len _ _ _ _ h
  have b := hb s us I.kIn (by rw [List.append_nil]; exact hl)
  rw [List.append_nil] at b
  refine wpAny_call (codeAny_mono (F.run X.A X.stack s H ⟨us, []⟩ us vs Q (WE W σ) hr I.env0 b r h) fun r s' hq => ?_)
  cases r with
  | error e => exact hx σ pins H s e s' I hq
  | ok fl =>
    cases fl with
    | ret u => exact I.after hq
    | next => exact False.elim hq
    | brk => exact False.elim hq
    | cont => exact False.elim hq
theorem pe_callG (F : FnG X.prog X.w X.K X.mg X.base k f fd ps sp) (hr : RoomG k X.A) (hg : Gl X x) (hm : X.mg x = some (.ref f)) (hk : PySem.W.keepIn X.K (.ref f) = true) (hb : Binds X.K fd ps []) (hx : Passing X W)
    (ha : PA X (e :: es) t) (hdb : (x == ("__debug__" : Str)) = false) (he : starEach (e :: es) X.env = (false, eval e X.env) :: starEach es X.env) (hpl : (backTo pos (starEach es X.env)).any (·.1) = false) :
    PE X (.Call (.Name x p) (e :: es) [] pos) (tCallS sp (WE W) t) := by
  refine ⟨fun pins s σ H Q I h => ?_⟩
  refine wpAny_Call_Name_kw (ld_glob I hg hm ?_ hdb)
  refine PySem.W.callWith_K (h₀ := X.base) I.ok.mod.kin hk (thn (ha.run pos pins s σ H _ I h) fun us s1 ⟨vs, H1, I1, r, q⟩ => ⟨I1.kIn, ?_⟩) he hpl
  exact run_fnG F hr hb hx I1 r q
theorem pe_callG0 (F : FnG X.prog X.w X.K X.mg X.base k f fd ps sp) (hr : RoomG k X.A) (hg : Gl X x) (hm : X.mg x = some (.ref f)) (hk : PySem.W.keepIn X.K (.ref f) = true) (hb : Binds X.K fd ps []) (hx : Passing X W)
    (hdb : (x == ("__debug__" : Str)) = false) : PE X (.Call (.Name x p) [] [] pos) (tCallS sp (WE W) tNil) := by
  refine ⟨fun pins s σ H Q I h => ?_⟩
  refine wpAny_Call_Name_kw (ld_glob I hg hm ?_ hdb)
  exact PySem.W.callWith_K0 I.kIn hk (run_fnG (us := []) F hr hb hx I .nil h)
/-- the evaluator's call -/
theorem call_imp {F : Nat} {C : List Orc} {fn : Fn} {ms : Sg → Hq → R (List Val)} {t : TA} (ht : ∀ τ H Q, tA G W ms τ H Q → t τ H Q) :
    ∀ τ H Q, tE G W (fun σ h => (ms σ h).bind fun vs h1 => callR F C fn vs h1) τ H Q → tCallS (spFn G F C fn) (WE W) t τ H Q := fun τ H Q ⟨Av, s, σ, hH, rp, sr, p⟩ => by
  subst hH
  exact ht _ _ _ (tA_bind rp sr p fun vs ys s1 rp1 st1 sr1 q1 p1 => call_ok rp1 q1 p1)
end

/-! ### a def of the table -/
theorem start_ok {G : Gb} {Av : Addr → Prop} {s : S3} : ∀ {args : List Val} {vs : List V} (n : Nat), VRs G Av s args vs → ∀ (i : Nat) (v : Val), (args.map some ++ List.replicate n none)[i]? = some (some v) → ∃ x, (vs.map some ++ List.replicate n none)[i]? = some (some x) ∧ VR G Av s v x
  | _, _, n, .nil, i, v, e => by
    have e : (List.replicate n none : List (Option Val))[i]? = some (some v) := e
    rw [List.getElem?_replicate] at e
    split at e <;> cases e
  | _, _, n, .cons q t, 0, v, e => by
    have e : some (some _) = some (some v) := e
    cases e
    exact ⟨_, rfl, q⟩
  | _, _, n, .cons q t, i + 1, v, e => start_ok n t i v e
theorem sp_body {G : Gb} {F : Nat} {C : List Orc} {fn : Fn} {N : List Str} {vs : List V} {H : Hp} {Q : VK} {E : XK} (hN : fn.ns = N.length) (h : spFn G F C fn vs H Q E) :
    tS G (fun c d _ H => E c d H) (fun σ h => exs F C fn.body σ h) { nx := fun _ H' => Q .non H', rt := Q } (L2.start N vs) H := by
  obtain ⟨Av, s, args, rfl, rp, q, hl, p⟩ := h
  refine ⟨Av, s, args.map some ++ List.replicate (fn.ns - fn.ps) none, rfl, rp, ⟨?_, ?_⟩, ?_⟩
  · unfold L2.start
    have := q.length
    simp only [List.length_append, List.length_map, List.length_replicate]
    omega
  · intro i v e
    unfold L2.start
    rw [← hN, ← q.length, hl]
    exact start_ok _ q i v e
  · unfold run at p
    revert p
    show _ → PoS G (fun c d _ H => E c d H) Av s (exs F C fn.body (args.map some ++ List.replicate (fn.ns - fn.ps) none) s.h) _
    cases exs F C fn.body (args.map some ++ List.replicate (fn.ns - fn.ps) none) s.h with
    | no => exact fun p => p
    | er e σ' h => exact fun p => fun s' c dx τ' e2 rp2 st2 _ x => p s' c dx e2 rp2 st2 x
    | ok fl h =>
      cases fl with
      | nx σ' => exact fun p => fun s' τ' e2 rp2 st2 _ => p s' .non e2 rp2 st2 (.d .non)
      | bk _ => exact fun p => p.elim
      | ct _ => exact fun p => p.elim
      | rt v => exact fun p => fun s' y e2 rp2 st2 q2 => p s' y e2 rp2 st2 q2
theorem sp_len {G : Gb} {F : Nat} {C : List Orc} {fn : Fn} {vs : List V} {H : Hp} {Q : VK} {E : XK} (h : spFn G F C fn vs H Q E) : vs.length = fn.ps := by
  obtain ⟨_, _, args, _, _, q, hl, _⟩ := h
  rw [← q.length, hl]
end Ip

set_option linter.all false
set_option Elab.async false
set_option autoImplicit false
set_option maxRecDepth 100000
/-! Lambdas: made, called; the def that calls one. -/
namespace Ip
open PySem PySem.Spec PyProof.Rows L2 LamX
section
variable {X : Cx} {pins : List (Addr × Obj)} {σ : L2.St} {H : Hp} {s : Shared}
theorem lam_makeD {T : List (Addr × Str)} {c P : Addr} {params : Arguments} {body : Expr} {scope : Scope} {pos p0 : Pos} {i : Int} {j : Nat} {E : Value → Shared → Prop} {Q : Value → Shared → Prop} (I : Inv X pins σ H s) (TB : TabB X.base X.mg c P) (hcode : X.env.code = .ref c)
    (hm : (P, X.env.qual ++ "<lambda>") ∈ T) (hu : ∀ p ∈ T, p.1 = P → p.2 = X.env.qual ++ "<lambda>") (hT : Tabs T H) (hd : params.defaults = [.Constant (.int i) j p0]) (hk : params.kw_defaults = []) (hfree : ∀ y ∈ scope.names, y.2 = .free → ∃ c, X.env.cells.lookup y.1 = some c)
    (h : ∀ (f c' T₀ : Addr) (t : Tok) (pm ctv doc : Value) (H1 : Hp) (s' : Shared), Inv X pins σ H1 s' → ExtN H H1 → (∀ b, H b ≠ none → H1 b ≠ none) → Tabs T H1 →
      s'.heap.get? f = some (PySem.W.kdv_obj "<lambda>" (X.env.qual ++ "<lambda>") params (.expr body) scope (cloFrom X.env.cells scope.names []) (.ref T₀) doc pm c' ctv) → H1 f = none → f ∉ frs X.stack →
      s'.heap.get? T₀ = some (PySem.W.kdv_tup [.int i t]) → H1 T₀ = none → T₀ ∉ frs X.stack → H1 c' = some (CodeO c' (X.env.qual ++ "<lambda>")) → Q (.ref f) s') :
    wpAny (model X.prog X.w) X.A (eval (.Lambda params body scope pos) X.env) Q E s := by
  obtain ⟨ps, hP, ht, ha⟩ := hT _ hm
  refine PySem.W.kdv_lam (by rw [hd]; rfl) hk ?_
  rw [hd]
  refine PySem.W.kdv_all1 (wpAny_Constant_int (PySem.W.kdv_all0 ?_))
  rw [makeFunction_eq]
  simp only [List.zip_nil_right, List.filterMap_nil, List.isEmpty_nil, if_true, pure_bind, List.isEmpty_cons, Bool.false_eq_true, if_false]
  refine wpAny_bind (wpAny_newTextTuple ?_)
  have nofr : ∀ f, s.heap.objs.size ≤ f → f ∉ frs X.stack := fun f hf z => by
    rcases List.mem_cons.mp (I.stkSub _ z) with e | e
    · have h1 := I.lt
      rw [← e] at h1
      exact Nat.lt_irrefl _ (Nat.lt_of_lt_of_le h1 hf)
    · exact I.nofs hf e
  generalize hs1 : ({ s with heap := s.heap.push (PySem.W.kdv_tup [.int i s.toks]), toks := s.toks + 1 } : Shared) = s1
  have I1 : Inv X pins σ H s1 := by
    rw [← hs1]
    exact I.kept fun b o e => Heap.get?_push_of_some _ e
  have hT0 : s1.heap.get? s.heap.objs.size = some (PySem.W.kdv_tup [.int i s.toks]) := by
    rw [← hs1]
    exact Heap.get?_push_size _ rfl
  have hsz1 : s1.heap.objs.size = s.heap.objs.size + 1 := by rw [← hs1]; exact Heap.size_push _ _
  generalize hT0e : s.heap.objs.size = T₀ at hT0 hsz1
  have nT0 : H T₀ = none := I.hok.fresh (Nat.le_of_eq hT0e)
  have fT0 : T₀ ∉ frs X.stack := nofr _ (Nat.le_of_eq hT0e)
  have bP : s1.heap.BuiltinsAt X.mg P := TB.bm.keeps I1.bk
  have hP' : s1.heap.get? P = some { cls := .none, data := .fields ps } := I1.hok P _ hP
  have neP : T₀ ≠ P := fun z => by
    subst z
    rw [nT0] at hP; cases hP
  have le1 : s.heap.objs.size ≤ s1.heap.objs.size := by omega
  show wpAny _ _ (PySem.makeTail "<lambda>" (X.env.qual ++ "<lambda>") params (.expr body) scope X.env (.ref T₀) .none none pos pos.line) Q E s1
  cases hc : codeAmong pos ps.toList with
  | none =>
    refine PySem.W.kdv_makeTail (mg := X.mg) (c := c) (P := P) (ps := ps) (closure_ok hfree) I1.ok.glob (I1.mod.glob.keeps I1.bk) hcode (TB.code.keeps I1.bk) hP' ht hc TB.gP bP fun c' ctv doc h' tk hx hge hlt hrec htb => ?_
    obtain ⟨c2, oc, vs, t, e2, hoc, hd2, hv⟩ := hrec
    cases e2
    have hsz : s1.heap.objs.size ≤ h'.objs.size := Nat.le_trans hge (Nat.le_of_lt hlt)
    have nC : H c' = none := I1.hok.fresh hge
    have J := inv_table (t' := tk) (more := #[rawInt pos.line, rawInt pos.col, .ref c']) (h' := h'.push (PySem.W.kdv_obj "<lambda>" (X.env.qual ++ "<lambda>") params (.expr body) scope (cloFrom X.env.cells scope.names []) (.ref T₀) doc ((X.mg "__name__").getD .none) c' ctv)) I1 hP
      (fun b o hb e => Heap.get?_push_of_some _ (hx b o hb e)) (Heap.get?_push_of_some _ htb) hge ⟨oc, vs, t, Heap.get?_push_of_some _ hoc, hd2, hv⟩
    generalize hH2 : upd (upd H P (.tbl (ps ++ #[rawInt pos.line, rawInt pos.col, .ref c']))) c' (CodeO c' (X.env.qual ++ "<lambda>")) = H2 at J
    have at2 : ∀ b, b ≠ P → b ≠ c' → H2 b = H b := fun b h1 h2 => by rw [← hH2, upd_ne h2, upd_ne h1]
    have hE : ExtN H H2 := fun b o e n => by
      rw [at2 b (fun z => n ps (Option.some.inj (e.symm.trans (by rw [z]; exact hP)))) (ne_of_none e nC)]
      exact e
    have hTh : ∀ b, H b ≠ none → H2 b ≠ none := fun b hb => by
      rw [← hH2]
      by_cases h1 : b = c'
      · rw [h1, upd_same]; exact fun z => by cases z
      · rw [upd_ne h1]
        by_cases h2 : b = P
        · rw [h2, upd_same]; exact fun z => by cases z
        · rw [upd_ne h2]; exact hb
    have h2c : H2 c' = some (CodeO c' (X.env.qual ++ "<lambda>")) := by rw [← hH2]; exact upd_same
    have h2P : H2 P = some (.tbl (ps ++ #[rawInt pos.line, rawInt pos.col, .ref c'])) := by rw [← hH2, upd_ne (ne_of_none hP nC), upd_same]
    have eL : (ps ++ #[rawInt pos.line, rawInt pos.col, .ref c']).toList = ps.toList ++ [rawInt pos.line, rawInt pos.col, .ref c'] := by simp
    have old : ∀ {p : Addr × Str} {c0 : Addr}, H c0 = some (CodeO c0 p.2) → H2 c0 = some (CodeO c0 p.2) := fun {p c0} e => hE _ _ e codeO_ne
    have T2 : Tabs T H2 := fun p hp => by
      by_cases hb : p.1 = P
      · rw [hu p hp hb, hb]
        refine ⟨_, h2P, by rw [eL]; exact PySem.TriplesOk_snoc _ _ _ _ ht, fun p' cv hcv => ?_⟩
        rw [eL] at hcv
        rcases among_app _ ht hcv with z | z
        · obtain ⟨c0, e1, e2⟩ := ha p' cv z
          exact ⟨c0, e1, hE _ _ e2 codeO_ne⟩
        · exact ⟨c', z, h2c⟩
      · obtain ⟨ps', a1, a2, a3⟩ := hT p hp
        exact ⟨ps', by rw [at2 _ hb (ne_of_none a1 nC)]; exact a1, a2, fun p' cv hcv => let ⟨c0, e1, e2⟩ := a3 p' cv hcv; ⟨c0, e1, hE _ _ e2 codeO_ne⟩⟩
    have n1 : h'.objs.size ≠ c' := Nat.ne_of_gt hlt
    have n2 : h'.objs.size ≠ P := Nat.ne_of_gt (Nat.lt_of_lt_of_le (Heap.lt_size hP') hsz)
    have n3 : T₀ ≠ c' := Nat.ne_of_lt (by omega)
    exact h h'.objs.size c' T₀ s.toks ((X.mg "__name__").getD .none) ctv doc H2 _ J hE hTh T2 (Heap.get?_push_size _ rfl) (by rw [at2 _ n2 n1]; exact I1.hok.fresh hsz) (nofr _ (Nat.le_trans le1 hsz))
      (Heap.get?_push_of_some _ (hx _ _ neP hT0)) (by rw [at2 _ neP n3]; exact nT0) fT0 h2c
  | some cv =>
    obtain ⟨c', e, hco⟩ := ha pos cv hc
    subst e
    refine PySem.W.kdv_makeTailHit (mg := X.mg) (c := c) (P := P) (ps := ps) (closure_ok hfree) I1.ok.glob (I1.mod.glob.keeps I1.bk) hcode (TB.code.keeps I1.bk) hP' ht hc bP fun ctv doc h' tk hx hsz => ?_
    have J : Inv X pins σ H { s1 with heap := h'.push (PySem.W.kdv_obj "<lambda>" (X.env.qual ++ "<lambda>") params (.expr body) scope (cloFrom X.env.cells scope.names []) (.ref T₀) doc ((X.mg "__name__").getD .none) c' ctv), toks := tk } := I1.kept fun b o e => Heap.get?_push_of_some _ (hx b o e)
    exact h h'.objs.size c' T₀ s.toks ((X.mg "__name__").getD .none) ctv doc H _ J (ExtN.refl H) (fun _ h => h) hT (Heap.get?_push_size _ rfl) (I1.hok.fresh hsz) (nofr _ (Nat.le_trans le1 hsz)) (Heap.get?_push_of_some _ (hx _ _ hT0)) nT0 fT0 hco
/-- the context of a lambda's body -/
abbrev lamC (X : Cx) (A : Around) (outer : List Env) (s : Shared) (H : Hp) (E : XK) (scope : Scope) (f c' : Addr) : Cx :=
  { lamCx X A outer s H E scope f c' with xe := fun e s' => wpAny (model X.prog X.w) (A.deeper (lamEnv X scope s.heap.objs.size f c')) (leaving (lamEnv X scope s.heap.objs.size f c') e) (fun _ s'' => L2N.CX X.prog X.w outer H s E e s'') (fun e' s'' => L2N.CX X.prog X.w outer H s E e' s'') s' }
/-- captured names, globals, own ones that bear no slot -/
structure LamN (N : List Str) (sc scope : Scope) : Prop where
  kind : scope.kind = .function
  co : scope.isCoroutine = false
  gen : scope.isGenerator = false
  nocell : ∀ y ∈ scope.names, y.2 ≠ .cell
  own : ∀ y ∈ scope.names, y.2 = .local → y.1 ∉ N
  free : ∀ y ∈ scope.names, y.2 = .free → sc.names.lookup y.1 = some .cell ∨ sc.names.lookup y.1 = some .free
theorem LamN.has {N : List Str} {scope : Scope} (L : LamN N X.env.scope scope) (ok : X.Ok) : ∀ y ∈ scope.names, y.2 = .free → ∃ c, X.env.cells.lookup y.1 = some c := fun y hy e =>
  (L.free y hy e).elim (fun k => ok.has _ (.inl k)) fun k => ok.has _ (.inr k)
/-- the lambda's body begins -/
theorem lam_startN {HZ : Hp} {s1 : Shared} {A : Around} {outer : List Env} {E : XK} {scope : Scope} {f c' : Addr} {h₁ : Heap} {tk : Nat} {m : Str → Option Value} (I : Inv X pins σ H s) (L : LamN X.N X.env.scope scope) (e0 : Env0 X.prog X.w X.K X.mg X.base A outer s1 HZ) (hd : A.handled = none)
    (un : Un (frs X.stack) [] H HZ s.heap s1.heap) (hns : h₁.Ns s1.heap.objs.size m) (kp : ∀ b o, s1.heap.get? b = some o → h₁.get? b = some o) : Inv (lamC X A outer s1 HZ E scope f c') [] σ HZ { s1 with heap := h₁, toks := tk } := by
  have hfree := L.has I.ok
  have cm : ∀ {y c}, (cloFrom X.env.cells scope.names []).lookup y = some c → X.env.cells.lookup y = some c := fun {y c} e => by
    rcases cloFrom_mem (PySem.mem_of_lookup e) with hm | ⟨h1, h2⟩
    · cases hm
    · obtain ⟨c1, hc⟩ := hfree _ h1 rfl
      have hc : X.env.cells.lookup y = some c1 := hc
      have e2 : c = c1 := by rw [h2, hc] <;> rfl
      rw [e2]; exact hc
  have look : ∀ {y}, scope.names.lookup y = some .free → ∃ c, (cloFrom X.env.cells scope.names []).lookup y = some c := fun {y} hl =>
    mem_lookup (cloFrom_has (cells := X.env.cells) (acc := []) (PySem.mem_of_lookup hl))
  have cellK : ∀ {c : Addr} {v : Option Value}, H c = none → s.heap.IsCell c v → h₁.IsCell c v := fun {c v} n ⟨o, ho, hd⟩ => by
    obtain ⟨sl, q⟩ := un.any ho n (by simp)
    exact ⟨_, kp _ _ q, hd⟩
  have noA : ∀ b : Addr, b ∉ (lamC X A outer s1 HZ E scope f c').ex := fun b z => by
    have z : b ∈ ([] : List Addr) := z
    cases z
  refine ⟨⟨e0.mod, L.kind, rfl, rfl, Nat.le_refl _, fun y z c e1 e2 => I.ok.inj y z c (cm e1) (cm e2), fun y hy => ?_, fun y c z _ => ?_, fun _ => hd, Around.frames_deeper e0.frames, .inr ⟨rfl, rfl⟩, fun b z => absurd z (noA b), e0.bs, e0.bsz, fun b _ _ => noA b,
      fun b z => absurd z (noA b), e0.funs, e0.frf⟩,
    rfl, e0.bare, Un.kept kp, ⟨_, hns, fun i y v e1 e2 e3 => ?_⟩, fun y c e => ?_, e0.hok.fresh (Nat.le_refl _), fun y c e => ?_, fun q hq => ?_, e0.hok.kept kp, I.len⟩
  · have hy : scope.names.lookup y = some .cell ∨ scope.names.lookup y = some .free := hy
    exact hy.elim (fun hy => absurd rfl (L.nocell _ (PySem.mem_of_lookup hy))) look
  · cases (show false = true from z)
  · have e3 : Vis scope y := e3
    rcases e3 with k | k | k
    · exact absurd (List.mem_of_getElem? e1) (L.own _ (PySem.mem_of_lookup k) rfl)
    · exact absurd rfl (L.nocell _ (PySem.mem_of_lookup k))
    · obtain ⟨m', hn, hl⟩ := I.loc
      have hvis : Vis X.env.scope y := (L.free _ (PySem.mem_of_lookup k) rfl).elim (fun k => .inr (.inl k)) (fun k => .inr (.inr k))
      obtain ⟨w', r, q⟩ := hl i y v e1 e2 hvis
      obtain ⟨c2, h2⟩ := look k
      refine ⟨w', r, .inr ⟨.inr k, c2, h2, ?_⟩⟩
      have c1 := cm h2
      rcases q with ⟨k', _⟩ | ⟨_, c3, e', z⟩
      · have k' : X.env.scope.names.lookup y = some .local := k'
        rcases L.free _ (PySem.mem_of_lookup k) rfl with k2 | k2 <;> rw [show X.env.scope.names.lookup y = _ from k2] at k' <;> cases k'
      · rw [c1] at e'
        cases e'
        exact cellK (I.freeC y _ c1) z
  · obtain ⟨w', z⟩ := I.cell y c (cm e)
    exact ⟨w', cellK (I.freeC y c (cm e)) z⟩
  · obtain ⟨v, o, ho, hd⟩ := I.cell y c (cm e)
    exact un.free c o ho (I.freeC y c (cm e)) (by simp)
  · have hq : q ∈ ([] : List (Addr × Obj)) := hq
    cases hq
/-- a made lambda -/
structure LamO (X : Cx) (s : Shared) (H : Hp) (body : Expr) (scope : Scope) (f c' : Addr) (fd : FuncData) (binds : List (Str × Value)) : Prop where
  at_ : s.heap.get? f = some { cls := .type "function", data := .func fd }
  hf : H f = none
  fr : f ∉ frs X.stack
  sc : fd.scope = scope
  bd : fd.body = .expr body
  cl : fd.closure = cloFrom X.env.cells scope.names []
  cd : fd.code = .ref c'
  qn : fd.qualname = X.env.qual ++ "<lambda>"
  gl : fd.globals = mainGlobals
  bl : fd.builtins = builtinsNs
  bind : ∀ s2 : Shared, (∀ b o, s.heap.get? b = some o → H b = none → b ∉ frs X.stack → s2.heap.get? b = some o) → BindsTo s2 fd ⟨[], []⟩ binds
  loc : ∀ y ∈ binds, scope.names.lookup y.1 = some .local
/-- x(), in the def that got the lambda, where no list is being shown -/
theorem pe_lamrun {Eg : XK} {Ng : List Str} {qg : Str} {sg : Scope} {g f c' : Addr} {cdg : Value} {body : Expr} {scope : Scope} {fd : FuncData} {binds : List (Str × Value)} {k i : Nat} {a : Str} {pn : List (Addr × Obj)} {xe : Value → Shared → Prop} {W : WX} {E : XK} {tb : TE} {p1 p2 : Pos}
    (I : Inv X pins σ H s) (L : LamN X.N X.env.scope scope) (lo : LamO X s H body scope f c' fd binds)
    (tk : L2N.Takes ((cxOf (L2N.CX X.prog X.w) X.prog X.w X.K X.mg X.base Ng qg sg g cdg X.A X.stack s H Eg).tr pn xe) W) (hW : ∀ cls d σ' H', E cls d H' → W cls d σ' H') (hr : RoomG (k + 1) (X.A.deeper (envOfC qg sg s.heap.objs.size g cdg)))
    (hbody : ∀ (e1 : Env) (outer : List Env) (s : Shared) (H : Hp), PE (lamC X (X.A.deeper e1) outer s H E scope f c') body tb)
    (hN : Ng[i]? = some a) (hv : Vis sg a) (hd : (a == ("__debug__" : Str)) = false) (hcd : (a == ("__classdict__" : Str)) = false) :
    PE ((cxOf (L2N.CX X.prog X.w) X.prog X.w X.K X.mg X.base Ng qg sg g cdg X.A X.stack s H Eg).tr pn xe) (.Call (.Name a p1) [] [] p2)
      (fun σZ HZ Q => σZ[i]? = some (some (.ref f)) ∧ HZ c' = some (CodeO c' (X.env.qual ++ "<lambda>")) ∧ tb σ HZ Q) := by
  refine ⟨fun pinsZ sZ σZ HZ Q IZ h => ?_⟩
  obtain ⟨hs, hc, ht⟩ := h
  refine wpAny_Call_Name_kw (thn ((pe_var (pos := p1) (i := i) hN hv hd hcd).run pinsZ sZ σZ HZ (fun v H1 => v = .ref f ∧ H1 = HZ) IZ ⟨.ref f, hs, rfl, rfl⟩) fun u s1 ⟨v, H1, I1, r1, ev, eH⟩ => ?_)
  subst ev
  rw [eH] at I1
  obtain rfl : u = Value.ref f := r1
  have un : Un (frs X.stack) [] H HZ s.heap s1.heap := I1.base
  have kept : ∀ b o, s.heap.get? b = some o → H b = none → b ∉ frs X.stack → s1.heap.get? b = some o := fun b o e n nf => un.keep b o e n nf (fun z => by cases z)
  have of1 := kept f _ lo.at_ lo.hf lo.fr
  refine PySem.W.callWith_F0 ⟨_, _, _, _, of1⟩ ?_
  obtain ⟨⟨oc, vs, t, hoc, hdc, hvc⟩, _, _⟩ := I1.hok c' _ hc
  have rc : codeAny (model X.prog X.w) (X.A.deeper (envOfC qg sg s.heap.objs.size g cdg)) (.call (.ref f) ⟨[], []⟩) (CR (L2N.CX X.prog X.w) (envOfC qg sg s.heap.objs.size g cdg :: X.stack) X.prog X.w HZ s1 Q E) s1 := by
    refine PySem.W.kla_callFunE hr.rm.depth of1 rfl (by rw [lo.sc]; exact L.co) (by rw [lo.sc]; exact L.gen) lo.bd (by rw [lo.cd, lo.qn]; exact ⟨c', oc, vs, t, rfl, hoc, hdc, hvc⟩) ?_
    refine lo.bind s1 kept _ _ _ _ ?_
    rw [lo.sc, lo.gl, lo.cl, lo.cd, lo.bl, lo.qn]
    refine wpAny_newFunctionEnv L.nocell lo.loc (fun h₁ hns hsb => ⟨I1.nolimit.fresh _ hsb, ?_⟩) L.kind
    show codeAny _ _ (.expr body (lamEnv X scope s1.heap.objs.size f c')) _ _
    have kp : ∀ b o, s1.heap.get? b = some o → h₁.get? b = some o := fun b o e => hsb.extBut b o (Nat.ne_of_lt (Heap.lt_size e)) (Heap.get?_push_of_some _ e)
    have J : Inv (lamC X (X.A.deeper (envOfC qg sg s.heap.objs.size g cdg)) (envOfC qg sg s.heap.objs.size g cdg :: X.stack) s1 HZ E scope f c') [] σ HZ { s1 with heap := h₁, toks := s1.toks + binds.length } :=
      lam_startN I L I1.env0 hr.rm.hd un hns kp
    refine PySem.W.kla_codeExpr (wpAny_mono ((hbody _ _ s1 HZ).run [] _ _ HZ Q J ht) (fun v s' hq => ?_) fun e s' hq => hq)
    obtain ⟨w', H', J', rv, q⟩ := hq
    exact ⟨w', H', J'.os, J'.bare, J'.base, J'.hok, rv, q⟩
  refine wpAny_call (codeAny_mono rc fun r s' hq => ?_)
  cases r with
  | error e => exact L2N.passes_call tk hW pinsZ σZ HZ s1 e s' I1 hq
  | ok fl =>
    cases fl with
    | ret u => exact I1.after hq
    | next => exact False.elim hq
    | brk => exact False.elim hq
    | cont => exact False.elim hq
/-- a lambda without a parameter, as lam_make2 makes it -/
theorem lamO_0 {body : Expr} {scope : Scope} {f c' : Addr} {pm ctv : Value} {params : Arguments} (h1 : s.heap.get? f = some (PySem.W.kla_obj "<lambda>" (X.env.qual ++ "<lambda>") params body scope (cloFrom X.env.cells scope.names []) pm c' ctv)) (h2 : H f = none) (h3 : f ∉ frs X.stack)
    (hb : bindArgs (PySem.W.kla_fn "<lambda>" (X.env.qual ++ "<lambda>") params body scope (cloFrom X.env.cells scope.names []) pm (.ref c') ctv) ⟨[], []⟩ = pure []) :
    LamO X s H body scope f c' (PySem.W.kla_fn "<lambda>" (X.env.qual ++ "<lambda>") params body scope (cloFrom X.env.cells scope.names []) pm (.ref c') ctv) [] :=
  ⟨h1, h2, h3, rfl, rfl, rfl, rfl, rfl, rfl, rfl, fun _ _ => .of_eq hb, fun y hy => by cases hy⟩
/-- a lambda with one parameter and its default, as lam_makeD makes it -/
theorem lamO_1 {body e : Expr} {scope : Scope} {f c' T₀ : Addr} {pm ctv doc : Value} {a : Str} {p : Pos} {an : Option Expr} {i : Int} {t : Tok}
    (h1 : s.heap.get? f = some (PySem.W.kdv_obj "<lambda>" (X.env.qual ++ "<lambda>") { posonlyargs := [], args := [{ arg := a, annotation := an, pos := p }], vararg := none, kwonlyargs := [], kw_defaults := [], kwarg := none, defaults := [e] } (.expr body) scope (cloFrom X.env.cells scope.names []) (.ref T₀) doc pm c' ctv)) (h2 : H f = none) (h3 : f ∉ frs X.stack)
    (h4 : s.heap.get? T₀ = some (PySem.W.kdv_tup [.int i t])) (h5 : H T₀ = none) (h6 : T₀ ∉ frs X.stack) (hl : scope.names.lookup a = some .local) :
    LamO X s H body scope f c' (PySem.W.kdv_fn "<lambda>" (X.env.qual ++ "<lambda>") { posonlyargs := [], args := [{ arg := a, annotation := an, pos := p }], vararg := none, kwonlyargs := [], kw_defaults := [], kwarg := none, defaults := [e] } (.expr body) scope (cloFrom X.env.cells scope.names []) (.ref T₀) doc pm (.ref c') ctv) [(a, .int i t)] := by
  refine ⟨h1, h2, h3, rfl, rfl, rfl, rfl, rfl, rfl, rfl, fun s2 k => BindsTo.of_defaults rfl (k T₀ _ h4 h5 h6) rfl rfl ?_, fun y hy => ?_⟩
  · have e : (a == a) = true := beq_self_eq_true a
    simp [List.lookup, e]
  · rw [List.mem_singleton.mp hy]; exact hl
end
end Ip

set_option linter.all false
set_option Elab.async false
set_option autoImplicit false
set_option maxRecDepth 100000
/-! The def that calls what it got, and tells how it ended. -/
namespace Ip
open PySem PySem.Spec PyProof.Rows L2 LamX
section
variable {X : Cx} {pins : List (Addr × Obj)} {σ : L2.St} {H : Hp} {s : Shared}
/-- a lambda without parameters is made -/
theorem lam_make0 {T : List (Addr × Str)} {c P : Addr} {params : Arguments} {body : Expr} {scope : Scope} {pos : Pos} {E : Value → Shared → Prop} {Q : Value → Shared → Prop} (I : Inv X pins σ H s) (TB : TabB X.base X.mg c P) (hcode : X.env.code = .ref c)
    (hm : (P, X.env.qual ++ "<lambda>") ∈ T) (hu : ∀ p ∈ T, p.1 = P → p.2 = X.env.qual ++ "<lambda>") (hT : Tabs T H) (hdef : defaultsOf params X.env = ([], [])) (hfree : ∀ y ∈ scope.names, y.2 = .free → ∃ c, X.env.cells.lookup y.1 = some c)
    (h : ∀ (f c' : Addr) (pm ctv : Value) (H1 : Hp) (s' : Shared), Inv X pins σ H1 s' → ExtN H H1 → (∀ b, H b ≠ none → H1 b ≠ none) → Tabs T H1 →
      s'.heap.get? f = some (PySem.W.kla_obj "<lambda>" (X.env.qual ++ "<lambda>") params body scope (cloFrom X.env.cells scope.names []) pm c' ctv) → H1 f = none → f ∉ frs X.stack → H1 c' = some (CodeO c' (X.env.qual ++ "<lambda>")) → Q (.ref f) s') :
    wpAny (model X.prog X.w) X.A (eval (.Lambda params body scope pos) X.env) Q E s := by
  obtain ⟨ps, hP, ht, ha⟩ := hT _ hm
  refine PySem.W.kla_eval hdef ?_
  have nofr : ∀ f, s.heap.objs.size ≤ f → f ∉ frs X.stack := fun f hf z => by
    rcases List.mem_cons.mp (I.stkSub _ z) with e | e
    · exact Nat.lt_irrefl _ (Nat.lt_of_lt_of_le (e ▸ I.lt) hf)
    · exact I.nofs hf e
  have bP : s.heap.BuiltinsAt X.mg P := TB.bm.keeps I.bk
  have hP' : s.heap.get? P = some { cls := .none, data := .fields ps } := I.hok P _ hP
  cases hc : codeAmong pos ps.toList with
  | none =>
    refine PySem.W.kla_makeFunction (mg := X.mg) (c := c) (P := P) (ps := ps) (closure_ok hfree) I.ok.glob (I.mod.glob.keeps I.bk) hcode (TB.code.keeps I.bk) hP' ht hc TB.gP bP fun c' ctv h' tk hx hge hlt hrec htb => ?_
    obtain ⟨c2, oc, vs, t, e2, hoc, hd2, hv⟩ := hrec
    cases e2
    have hsz : s.heap.objs.size ≤ h'.objs.size := Nat.le_trans hge (Nat.le_of_lt hlt)
    have nC : H c' = none := I.hok.fresh hge
    have J := inv_table (t' := tk) (more := #[rawInt pos.line, rawInt pos.col, .ref c']) (h' := h'.push (PySem.W.kla_obj "<lambda>" (X.env.qual ++ "<lambda>") params body scope (cloFrom X.env.cells scope.names []) ((X.mg "__name__").getD .none) c' ctv)) I hP
      (fun b o hb e => Heap.get?_push_of_some _ (hx b o hb e)) (Heap.get?_push_of_some _ htb) hge ⟨oc, vs, t, Heap.get?_push_of_some _ hoc, hd2, hv⟩
    generalize hH2 : upd (upd H P (.tbl (ps ++ #[rawInt pos.line, rawInt pos.col, .ref c']))) c' (CodeO c' (X.env.qual ++ "<lambda>")) = H2 at J
    have at2 : ∀ b, b ≠ P → b ≠ c' → H2 b = H b := fun b h1 h2 => by rw [← hH2, upd_ne h2, upd_ne h1]
    have h2c : H2 c' = some (CodeO c' (X.env.qual ++ "<lambda>")) := by rw [← hH2]; exact upd_same
    have h2P : H2 P = some (.tbl (ps ++ #[rawInt pos.line, rawInt pos.col, .ref c'])) := by rw [← hH2, upd_ne (ne_of_none hP nC), upd_same]
    have hE : ExtN H H2 := fun b o e n => by
      rw [at2 b (fun z => n ps (Option.some.inj (e.symm.trans (by rw [z]; exact hP)))) (ne_of_none e nC)]
      exact e
    have hTh : ∀ b, H b ≠ none → H2 b ≠ none := fun b hb => by
      by_cases h1 : b = c'
      · rw [h1, h2c]; exact fun z => by cases z
      · by_cases h2 : b = P
        · rw [h2, h2P]; exact fun z => by cases z
        · rw [at2 b h2 h1]; exact hb
    have eL : (ps ++ #[rawInt pos.line, rawInt pos.col, .ref c']).toList = ps.toList ++ [rawInt pos.line, rawInt pos.col, .ref c'] := by simp
    have T2 : Tabs T H2 := fun p hp => by
      by_cases hb : p.1 = P
      · rw [hu p hp hb, hb]
        refine ⟨_, h2P, by rw [eL]; exact PySem.TriplesOk_snoc _ _ _ _ ht, fun p' cv hcv => ?_⟩
        rw [eL] at hcv
        exact (among_app _ ht hcv).elim (fun z => let ⟨c0, e1, e2⟩ := ha p' cv z; ⟨c0, e1, hE _ _ e2 codeO_ne⟩) fun z => ⟨c', z, h2c⟩
      · obtain ⟨ps', a1, a2, a3⟩ := hT p hp
        exact ⟨ps', by rw [at2 _ hb (ne_of_none a1 nC)]; exact a1, a2, fun p' cv hcv => let ⟨c0, e1, e2⟩ := a3 p' cv hcv; ⟨c0, e1, hE _ _ e2 codeO_ne⟩⟩
    exact h h'.objs.size c' ((X.mg "__name__").getD .none) ctv H2 _ J hE hTh T2 (Heap.get?_push_size _ rfl)
      (by rw [at2 _ (Nat.ne_of_gt (Nat.lt_of_lt_of_le (Heap.lt_size hP') hsz)) (Nat.ne_of_gt hlt)]; exact I.hok.fresh hsz) (nofr _ hsz) h2c
  | some cv =>
    obtain ⟨c', e, hco⟩ := ha pos cv hc
    subst e
    refine PySem.W.kla_makeFunctionHit (mg := X.mg) (c := c) (P := P) (ps := ps) (closure_ok hfree) I.ok.glob (I.mod.glob.keeps I.bk) hcode (TB.code.keeps I.bk) hP' ht hc bP fun ctv h' tk hx hsz => ?_
    have J : Inv X pins σ H { s with heap := h'.push (PySem.W.kla_obj "<lambda>" (X.env.qual ++ "<lambda>") params body scope (cloFrom X.env.cells scope.names []) ((X.mg "__name__").getD .none) c' ctv), toks := tk } := I.kept fun b o e => Heap.get?_push_of_some _ (hx b o e)
    exact h h'.objs.size c' ((X.mg "__name__").getD .none) ctv H _ J (ExtN.refl H) (fun _ h => h) hT (Heap.get?_push_size _ rfl) (I.hok.fresh hsz) (nofr _ hsz) hco
/-- the parameters of a lambda: none, or one with an int as its default -/
def lamP (params : Arguments) (scope : Scope) : Bool := match params with
  | ⟨[], [], none, [], [], none, []⟩ => true
  | ⟨[], [⟨a, _, _⟩], none, [], [], none, [.Constant (.int _) _ _]⟩ => decide (scope.names.lookup a = some .local)
  | _ => false
theorem lam_made {T : List (Addr × Str)} {c P : Addr} {params : Arguments} {body : Expr} {scope : Scope} {pos : Pos} {E : Value → Shared → Prop} {Q : Value → Shared → Prop} (I : Inv X pins σ H s) (TB : TabB X.base X.mg c P) (hcode : X.env.code = .ref c)
    (hm : (P, X.env.qual ++ "<lambda>") ∈ T) (hu : ∀ p ∈ T, p.1 = P → p.2 = X.env.qual ++ "<lambda>") (hT : Tabs T H) (hp : lamP params scope = true) (L : LamN X.N X.env.scope scope)
    (h : ∀ (f c' : Addr) (fd : FuncData) (binds : List (Str × Value)) (H1 : Hp) (s' : Shared), Inv X pins σ H1 s' → ExtN H H1 → (∀ b, H b ≠ none → H1 b ≠ none) → Tabs T H1 → LamO X s' H1 body scope f c' fd binds → H1 c' = some (CodeO c' (X.env.qual ++ "<lambda>")) → Q (.ref f) s') :
    wpAny (model X.prog X.w) X.A (eval (.Lambda params body scope pos) X.env) Q E s := by
  unfold lamP at hp
  split at hp
  · exact lam_make0 I TB hcode hm hu hT rfl (L.has I.ok) fun f c' pm ctv H1 s' J e1 e2 t hf hn hfr hco => h f c' _ _ H1 s' J e1 e2 t (lamO_0 hf hn hfr rfl) hco
  · exact lam_makeD I TB hcode hm hu hT rfl rfl (L.has I.ok) fun f c' T₀ t pm ctv doc H1 s' J e1 e2 t' hf hn hfr h4 h5 h6 hco => h f c' _ _ H1 s' J e1 e2 t' (lamO_1 hf hn hfr h4 h5 h6 (of_decide_eq_true hp)) hco
  · cases hp
/-- what the def at g does with a lambda -/
def ToldOk (G : Gb) (P : Program) (w : World) (K : PySem.W.Frag) (mg : Str → Option Value) (base : Heap) (g : Addr) (ws : List Str) : Prop :=
  ∀ (X : Cx) (pins : List (Addr × Obj)) (τ : L2.St) (H : Hp) (s : Shared) (body : Expr) (scope : Scope) (f c' : Addr) (fd : FuncData) (binds : List (Str × Value)) (Av : Addr → Prop) (s3 : S3) (σ : Sg) (m : Sg → Hq → R Val) (Q : VK) (E : XK),
    X.prog = P → X.w = w → X.K = K → X.mg = mg → X.base = base → RoomG 3 X.A → Inv X pins τ H s → LamN X.N X.env.scope scope → LamO X s H body scope f c' fd binds → H c' = some (CodeO c' (X.env.qual ++ "<lambda>")) → s3.H = H → RepH G Av s3 → SR G Av s3 σ τ →
    (∀ (e1 : Env) (outer : List Env) (s : Shared) (H : Hp) (E : XK), PE (lamC X (X.A.deeper e1) outer s H E scope f c') body (tE G (fun c d _ H => E c d H) m)) →
    Post G E Av s3 (fun v y s' => VR G Av s' v y) (toldV ws (m σ s3.h)) Q →
    codeAny (model P w) X.A (.call (.ref g) ⟨[.ref f], []⟩) (CR (L2N.CX P w) X.stack P w H s Q E) s
theorem ext_step {G : Gb} {Av : Addr → Prop} {s : S3} {H1 : Hp} (rp : RepH G Av s) (e1 : ExtN s.H H1) (e2 : ∀ b, s.H b ≠ none → H1 b ≠ none) (ht : Tabs G.tb H1) : RepH G Av ⟨s.r, s.h, H1⟩ ∧ Stp s ⟨s.r, s.h, H1⟩ := by
  refine rp.grow ⟨fun a o h _ nt => e1 a o h nt, e2, fun a xs h => e1 _ _ h fun ps z => (by cases z), fun a ob w h => e1 _ _ h fun ps z => by cases z⟩ (fun n a e l => ?_) ht
  obtain ⟨u, hx, n1, _, _⟩ := rp.at_live e l
  rw [hx]
  exact e1 _ _ hx n1
/-- x(lambda: body) -/
theorem pe_told {G : Gb} {W : WX} {x : Str} {g c P : Addr} {ws : List Str} {params : Arguments} {body : Expr} {scope : Scope} {p lpos pos : Pos} {m : Sg → Hq → R Val} (hg : Gl X x) (hm : X.mg x = some (.ref g)) (hk : PySem.W.keepIn X.K (.ref g) = true) (T : ToldOk G X.prog X.w X.K X.mg X.base g ws) (hr : RoomG 3 X.A)
    (TB : TabB X.base X.mg c P) (hcode : X.env.code = .ref c) (hmT : (P, X.env.qual ++ "<lambda>") ∈ G.tb) (hu : ∀ p ∈ G.tb, p.1 = P → p.2 = X.env.qual ++ "<lambda>") (hp : lamP params scope = true) (L : LamN X.N X.env.scope scope) (pas : Passing X W)
    (hbody : ∀ (e1 : Env) (outer : List Env) (s : Shared) (H : Hp) (E : XK) (f c' : Addr), PE (lamC X (X.A.deeper e1) outer s H E scope f c') body (tE G (fun c d _ H => E c d H) m)) (hdb : (x == ("__debug__" : Str)) = false) :
    PE X (.Call (.Name x p) [.Lambda params body scope lpos] [] pos) (tE G W fun σ h => toldV ws (m σ h)) := by
  refine ⟨fun pins s τ H Q I ⟨Av, s3, σ, hH, rp, sr, po⟩ => ?_⟩
  subst hH
  refine wpAny_Call_Name_kw (ld_glob I hg hm ?_ hdb)
  refine PySem.W.callWith_K (h₀ := X.base) I.ok.mod.kin hk ?_ (by rfl) (by rfl)
  show wpAny _ _ (spliced ((false, eval (.Lambda params body scope lpos) X.env) :: backTo pos (starEach [] X.env))) _ _ s
  refine Calls.spliced_cons (lam_made I TB hcode hmT hu rp.tabs hp L fun f c' fd binds H1 s' I1 e1 e2 T1 lo hco => ?_)
  refine Calls.spliced_nil ⟨I1.kIn, ?_⟩
  obtain ⟨rp1, st1⟩ := ext_step rp e1 e2 T1
  have rc := T X pins τ H1 s' body scope f c' fd binds Av ⟨s3.r, s3.h, H1⟩ σ m Q (We W τ) rfl rfl rfl rfl rfl hr I1 L lo hco rfl rp1 (st1.sr rp1.nd sr) (fun e1 outer s H E => hbody e1 outer s H E f c') (Post.step (r := toldV ws (m σ s3.h)) po st1 rp1)
  refine wpAny_call (codeAny_mono rc fun r s2 hq => ?_)
  cases r with
  | error e => exact pas τ pins H1 s' e s2 I1 hq
  | ok fl =>
    cases fl with
    | ret u => exact I1.after hq
    | next => exact False.elim hq
    | brk => exact False.elim hq
    | cont => exact False.elim hq
end
end Ip

set_option linter.all false
set_option Elab.async false
set_option autoImplicit false
set_option maxRecDepth 100000
/-! More rules; facts about forms of expressions that hold in any environment. -/
namespace Ip
open PySem L2 PyProof.Rows

/-! ### forms -/
/-- neither starred, nor a set's display, nor a slice -/
def plainE : Expr → Bool
  | .Starred .. | .Set .. | .Slice .. => false
  | _ => true
/-- its truth is its value's -/
def plainT : Expr → Bool
  | .UnaryOp .. | .BoolOp .. | .IfExp .. | .Compare .. => false
  | _ => true
/-- no comprehension -/
def noComp : Expr → Bool
  | .ListComp .. | .SetComp .. | .DictComp .. => false
  | _ => true
def notCall : Expr → Bool
  | .Call (.Attribute _ _ _) _ _ _ => true
  | .Call .. => false
  | _ => true
def notTup : Expr → Bool
  | .Tuple .. => false
  | _ => true
theorem star_cons {e : Expr} (h : plainE e = true) (es : List Expr) (env : Env) : starEach (e :: es) env = (false, eval e env) :: starEach es env := by
  cases e <;> first | (cases h; done) | rfl
def plains : List Expr → Bool
  | [] => true
  | e :: es => plainE e && plains es
theorem back_plain (pos : Pos) (env : Env) : ∀ {es : List Expr}, plains es = true → (backTo pos (starEach es env)).any (·.1) = false
  | [], _ => rfl
  | e :: es, h => by
    simp only [plains, Bool.and_eq_true] at h
    rw [star_cons h.1]
    show (false || (backTo pos (starEach es env)).any (·.1)) = false
    rw [back_plain pos env h.2]; rfl
theorem isTrue_plain {e : Expr} (h : plainT e = true) (env : Env) : ∀ whole, isTrue e env whole = (do let v ← whole; standAt e.pos; holding [v] (truthy v)) := by
  cases e <;> first | (cases h; done) | (intro whole; rfl)
theorem plainIx_of {e : Expr} (h : plainE e = true) : PlainIx e := by
  cases e <;> first | (cases h; done) | (intro o i; rfl)
theorem base_of {e : Expr} (h : notCall e = true) (at_ : Str) (env : Env) (w : Sem Value) : attributeBase e at_ env w = w := by
  cases e with
  | Call f as ks p => cases f <;> first | (cases h; done) | rfl
  | _ => first | (cases h; done) | rfl
theorem swaps_no {e : Expr} (h : noComp e = true) (t : Option Expr) (l : Nat) (env : Env) : swapsWith e t l env = pure false := by
  cases e <;> first | (cases h; done) | rfl
theorem folded_of {e : Expr} (h : plainE e = true) (env : Env) (x : Value) : foldedSetIterable e env x = pure x := by
  cases e <;> first | (cases h; done) | rfl
theorem behind_of {e : Expr} (h : plainE e = true) (op : CmpOp) : behindInMarks op e = false := by
  cases e <;> first | (cases h; done) | rfl
theorem stores_no {t e : Expr} (h : notTup e = true) (env : Env) : swappedStores [t] e env = pure none := by
  cases e <;> first | (cases h; done) | (cases t <;> rfl)
theorem stores_no2 {t e : Expr} (h : (match t with | .Tuple .. => false | .List .. => false | _ => true) = true) (env : Env) : swappedStores [t] e env = pure none := by
  cases t <;> first | (cases h; done) | (cases e <;> rfl)
theorem sole_other {t e : Expr} (h : (match t with | .Name .. => false | _ => true) = true) (l : Nat) (env : Env) : swapsWithSole [t] e l env = pure false := by
  show swapsWith e (some t) l env = _
  cases t <;> first | (cases h; done) | (cases e <;> rfl)

section
variable {X : Cx} {G : Gb} {W : WX} {pos : Pos}
theorem ie_nev {e : Expr} : PE X e (tE G W fun _ _ => .no) := ⟨fun pins s τ H Q I ⟨Av, s3, σ, hH, rp, sr, p⟩ => p.elim⟩
theorem ip_frz {e : Expr} {m : Sg → Hq → R Val} (h : PE X e (tE G W m)) : PE X e (tE G W fun σ h => (m σ h).bind fun x h1 => (toD x h1).bind fun d h2 => .ok (.d d) h2) :=
  h.imp fun τ H Q ⟨Av, s, σ, hH, rp, sr, p⟩ => by
    subst hH
    refine ⟨Av, s, σ, rfl, rp, sr, ?_⟩
    revert p
    show Post G _ Av s _ ((m σ s.h).bind _) Q → _
    cases m σ s.h with
    | no => exact fun p => p
    | er e h => exact fun p => p
    | ok v h1 =>
      intro p s1 y e1 rp1 st1 q1
      subst e1
      have p : Post G (We W τ) Av s (fun v y s' => VR G Av s' v y) ((toD v s1.h).bind fun d h2 => .ok (.d d) h2) Q := p
      cases e : toD v s1.h with
      | no => rw [e] at p; exact p.elim
      | er x h => exact absurd e (toD_no_er _ _ _ _)
      | ok d h2 =>
        rw [e] at p
        obtain ⟨rp2, st2, d2⟩ := toD_ok rp1 q1 e
        exact p ⟨s1.r, h2, s1.H⟩ y rfl rp2 (st1.trans st2 rp1.nd rp1.len) (.d d2)
theorem ip_fmt {e : Expr} {m : Sg → Hq → R Val} (h : PE X e (tE G W m)) : PE X (.FormattedValue e (-1) none pos) (tE G W fun σ h => (m σ h).bind fun x h1 => match partS x with
    | some s => .ok (.d (.str s)) h1
    | none => .no) :=
  (pe_fmt h).imp fun τ H Q ⟨Av, s, σ, hH, rp, sr, p⟩ => by
    subst hH
    refine tE_bind rp sr p fun v y s1 rp1 st1 sr1 q1 p1 => ?_
    unfold partS at p1
    split at p1
    · rename_i z e
      split at e
      · rename_i z2
        split at e
        · rename_i hf
          cases e
          cases q1 with
          | d q1 =>
            cases q1
            exact .inl ⟨_, rfl, fits_line hf, p1.fin rp1 (.d (.str _))⟩
        · cases e
      · rename_i i
        split at e
        · rename_i hf
          cases e
          cases q1 with
          | d q1 =>
            cases q1
            exact .inr ⟨_, rfl, hf, p1.fin rp1 (.d (.str _))⟩
        · cases e
      · cases e
    · exact p1.elim
/-- parts -/
theorem jn_imp {F : Nat} {C : List Orc} {τ : L2.St} {σ : Sg} {Av : Addr → Prop} : ∀ (xs : List Ex) (acc : Str) (s : S3) (Q : Str → Hp → Prop), RepH G Av s → SR G Av s σ τ →
    Post G (We W τ) Av s (fun v y _ => v = y) (evJ F C xs acc σ s.h) Q → tJs (xs.map fun x => tE G W (ev F C x)) acc τ s.H Q
  | [], acc, s, Q, rp, sr, p => p s acc rfl rp (Stp.refl _) rfl
  | x :: xs, acc, s, Q, rp, sr, p => by
    show tE G W (ev F C x) τ s.H _
    unfold evJ at p
    refine tE_bind rp sr p fun v y s1 rp1 st1 sr1 q1 p1 => ?_
    split at p1
    · split at p1
      · rename_i z hf
        cases q1 with
        | d q1 =>
          cases q1
          exact ⟨z, rfl, fits_line hf, jn_imp xs _ s1 Q rp1 sr1 p1⟩
      · exact p1.elim
    · exact p1.elim
theorem ip_fst {F : Nat} {C : List Orc} {xs : List Ex} {v1 v2 : Expr} {rest : List Expr} (h : PJ X (v1 :: v2 :: rest) (xs.map fun x => tE G W (ev F C x))) :
    PE X (.JoinedStr (v1 :: v2 :: rest) pos) (tE G W fun σ h => (evJ F C xs Str.empty σ h).bind fun s h1 => .ok (.d (.str s)) h1) :=
  (pe_joined h).imp fun τ H Q ⟨Av, s, σ, hH, rp, sr, p⟩ => by
    subst hH
    refine jn_imp xs _ s _ rp sr ?_
    refine (p.bind (Rl := fun v y _ => v = y)).mono ?_
    rintro y H1 ⟨a, s1, rfl, rp1, st1, rfl, p1⟩
    exact p1.fin rp1 (.d (.str _))

/-! ### values and targets -/
theorem isn_nev {st : Stmt} : PS X st (tS G W fun _ _ => .no) := ⟨fun pins s τ H D I ⟨Av, s3, σ, hH, rp, sr, p⟩ => p.elim⟩
/-- a raised exception of a class of the text -/
structure ClsF (X : Cx) (G : Gb) (x : Str) (c : Nat) : Prop where
  ex : ∃ (C : Addr) (B newId initId : String) (bmB : List Value), G.ca[c]? = some C ∧ X.mg x = some (.ref C) ∧ ExcBaseFacts B newId initId bmB ∧ PySem.W.excIn X.K C bmB newId = true ∧ PySem.W.keepIn X.K (.ref C) = true ∧ Raises X (.ref C)
theorem is_rse {c : Nat} {x m : Str} {j : Nat} {p p2 p3 : Pos} (hc : X.calm = true) (tk : L2N.Takes X W) (f : ClsF X G x c) (hg : Gl X x) (hdb : (x == ("__debug__" : Str)) = false) :
    PS X (.Raise (some (.Call (.Name x p) [.Constant (.str m) j p2] [] p3)) none pos) (tS G W fun σ h => .er ⟨c, none⟩ σ h) := by
  obtain ⟨C, B, newId, initId, bmB, hC, hm, hF, hq, hk, hr⟩ := f.ex
  exact (L2N.ps_raise hc tk (L2N.pmk_own hF hq hm hk hr hg hdb)).imp fun D τ H ⟨Av, s, σ, hH, rp, sr, p⟩ => by
    subst hH
    exact p s (.ref C) none τ rfl rp (Stp.refl _) sr ⟨C, hC, rfl, fun _ => rfl⟩
/-- two names, two values -/
theorem swapped2 {env : Env} {x y : Str} {px py pt pt2 : Pos} {kt k2 : Nat} {a b : Expr} (hk : env.blockKind = .function) (hx : env.kindOf x = some .local) (hy : env.kindOf y = some .local) (hl : (py.line == px.line) = true) (hxy : (x == y) = false)
    (ha : plainE a = true) (hb : plainE b = true) (hf : (foldedForSure 8 a && foldedForSure 8 b) = false) (hcc : (constantsAlone 8 a && constantsAlone 8 b) = false) :
    swappedStores [.Tuple [.Name x px, .Name y py] kt pt] (.Tuple [a, b] k2 pt2) env = pure (some [x, y]) := by
  have s1 : ([a, b].any fun | .Starred .. => true | _ => false) = false := by
    cases a <;> first | (cases ha; done) | (cases b <;> first | (cases hb; done) | rfl)
  have hyx : (y == x) = false := by
    cases h : y == x with
    | false => rfl
    | true =>
      have := eq_of_beq h
      subst this
      simp at hxy
  unfold swappedStores
  have f1 : [a, b].all (foldedForSure 8) = false := by
    show (foldedForSure 8 a && (foldedForSure 8 b && true)) = false
    rw [Bool.and_true]; exact hf
  have f2 : [a, b].all (constantsAlone 8) = false := by
    show (constantsAlone 8 a && (constantsAlone 8 b && true)) = false
    rw [Bool.and_true]; exact hcc
  have l0 : (([Expr.Name x px, Expr.Name y py].head?.map (·.pos.line)).getD 0) = px.line := rfl
  have e2 : ([x, y].eraseDups.length != [x, y].length) = false := by
    simp [List.eraseDups_cons, hyx]
  simp only [l0, List.filterMap, hx, hy, hl, beq_self_eq_true, Bool.and_self, if_true, hk, bne_self_eq_false, Bool.or_false, s1, e2, f1, f2, Bool.false_eq_true, if_false]
  refine (if_neg (by simp)).trans ((if_neg fun z => ?_).trans (if_neg (by simp)))
  cases a <;> first | (cases ha; done) | (cases b <;> first | (cases hb; done) | (cases z; done))
end
end Ip

set_option linter.all false
set_option Elab.async false
set_option autoImplicit false
set_option maxRecDepth 100000
/-! The look at a text: that an expression of the evaluator is the text's. -/
namespace Ip
open PySem L2 PyProof.Rows

/-- the names around -/
structure Sc where
  N : List Str
  names : List (Str × NameKind)
  defs : List (Str × Nat)
  cls : List (Str × Nat)
  fn : Str → Bool
  hot : Bool
  lam : Bool
  told : Option (Str × List Str)
  gls : List (Str × Int)

section
variable (S : Sc)
def slotOk (i : Nat) (x : Str) : Bool := decide (S.N[i]? = some x)
def visOk (x : Str) : Bool := decide (S.names.lookup x = some .local) || decide (S.names.lookup x = some .cell) || decide (S.names.lookup x = some .free)
def glOk (x : Str) : Bool := decide (S.names.lookup x = some .globalImplicit)
def dbg (x : Str) : Bool := !(x == ("__debug__" : Str)) && !(x == ("__classdict__" : Str))
def kLit : D → Const → Bool
  | .none, .none => true
  | .bool a, .bool b => decide (a = b)
  | .int a, .int b => decide (a = b)
  | .str a, .str b => decide (a = b)
  | _, _ => false
def nmP : Prm → Str
  | .len => "len"
  | .abs => "abs"
  | .int => "int"
  | .str => "str"
  | .repr => "repr"
  | .sum => "sum"
  | .max1 => "max"
  | .min1 => "min"
  | .max2 => "max"
  | .min2 => "min"
  | .all => "all"
  | .any => "any"
/-- the built-ins' names that are used -/
def bltN : List Str := ["len", "abs", "int", "str", "repr", "sum", "max", "min", "all", "any", "range", "zip", "list", "tuple", "isinstance", "sorted", "set", "enumerate", "divmod"]
/-- a name that is stored -/
def stoOk (i : Nat) (x : Str) : Bool := slotOk S i x && (decide (S.names.lookup x = some .local) || (decide (S.names.lookup x = some .cell) && S.fn x))
def kNs : List Nat → List Expr → Bool
  | [], [] => true
  | i :: is, .Name x _ :: es => stoOk S i x && kNs is es
  | _, _ => false
def kG : Tgt → Expr → Bool
  | .nm i, .Name x _ => stoOk S i x
  | .tp is, .Tuple es _ _ => !S.hot && kNs S is es
  | _, _ => false
def ownN (own : List Nat) : List (Str × Nat) := own.map fun i => ((S.N[i]?).getD Str.empty, i)
def blkC (scope : Scope) (own : List Nat) : Bool :=
  decide (scope.kind = .function) && scope.names.all (fun y => decide (scope.names.lookup y.1 = some y.2)) && own.all (fun i => decide (i < S.N.length)) &&
    scope.names.all (fun y => !decide (y.2 = .free) || (decide (S.names.lookup y.1 = some .cell) || decide (S.names.lookup y.1 = some .free))) &&
    scope.names.all (fun y => !(decide (y.2 = .local) || decide (y.2 = .cell)) || (decide (y.1 ∈ (ownN S own).map (·.1)) || decide (y.1 ∉ S.N)))
/-- the names within a comprehension -/
def inN (scope : Scope) : Sc := { S with
  names := scope.names.map fun (n, k) => if (k == .free && S.names.lookup n == some .cell) then (n, .cell) else (n, k)
  fn := fun x => scope.names.lookup x == some .cell
  lam := false }
/-- the names within a lambda -/
def lamS (scope : Scope) : Sc := { S with names := scope.names, fn := fun _ => false, lam := false, hot := false }
def lamB (scope : Scope) : Bool :=
  decide (scope.kind = .function) && !scope.isCoroutine && !scope.isGenerator && scope.names.all (fun y => !decide (y.2 = .cell) && (!decide (y.2 = .local) || decide (y.1 ∉ S.N)) && (!decide (y.2 = .free) || (decide (S.names.lookup y.1 = some .cell) || decide (S.names.lookup y.1 = some .free))))
end
def isRng : Sx → Bool
  | .rng _ => true
  | _ => false

mutual
def kE : Nat → Sc → Ex → Expr → Bool
  | 0, _, _, _ => false
  | n + 1, S, x, e => match x, e with
    | .frz a, e => kE n S a e
    | .frzD a, e => kE n S a e
    | .nev, e => true
    | .ofL l, e => kL n S l e
    | .new l, e => kL n S l e
    | .lit x, .Constant c _ _ => kLit x c
    | .var i, .Name x _ => slotOk S i x && visOk S x && dbg x
    | .fnv f, .Name x _ => decide (S.defs.lookup x = some f) && glOk S x && dbg x
    | .bin o a b, .BinOp ea op eb _ => decide (op = opOf o) && kE n S a ea && kE n S b eb
    | .neg a, .UnaryOp .USub ea _ => kE n S a ea
    | .not_ a, .UnaryOp .Not ea _ => kE n S a ea
    | .cmp o a b, .Compare ea [op] [eb] _ => decide (op = copOf o) && kE n S a ea && kE n S b eb && plainE eb
    | .chn o o' a b c, .Compare ea [op, op'] [eb, ec] _ => decide (op = copOf o) && decide (op' = copOf o') && kE n S a ea && kE n S b eb && kE n S c ec && plainE ec
    | .and_ a b, .BoolOp .And es _ => kVa n S (.and_ a b) es
    | .or_ a b, .BoolOp .Or es _ => kVo n S (.or_ a b) es
    | .ife c a b, .IfExp ec ea eb _ => kT n S c ec && kE n S a ea && kE n S b eb
    | .tup xs, .Tuple es _ _ => kEs n S xs es && decide (xs.length ≤ 1000)
    | .rev a, .Subscript ea (.Slice none none (some (.UnaryOp .USub (.Constant (.int i) _ _) _)) _) _ => decide (i = 1) && kE n S a ea
    | .slc a lo hi, .Subscript ea (.Slice el eh none _) _ => kE n S a ea && kO n S lo el && kO n S hi eh
    | .ix a b, .Subscript ea eb _ => plainE eb && kE n S a ea && kE n S b eb
    | .call f xs, .Call (.Name x _) es [] _ => decide (S.defs.lookup x = some f) && glOk S x && dbg x && kEs n S xs es
    | .prm p (x :: xs), .Call (.Name nm _) (e :: es) [] _ => decide (nm = nmP p) && glOk S nm && (!S.hot || cool p) && kEs n S (x :: xs) (e :: es)
    | .app o a, .Call (.Attribute eo at_ ap) [ea] [] pos => decide (at_ = ("append" : Str)) && notCall eo && (ap.endLine == pos.line) && plainE ea && kE n S o eo && kE n S a ea
    | .fmt a, .FormattedValue ea c none _ => decide (c = -1) && kE n S a ea
    | .fmt a, .JoinedStr [.FormattedValue ea c none _] _ => decide (c = -1) && kE n S a ea
    | .fst xs, .JoinedStr (e1 :: e2 :: es) _ => kEs n S xs (e1 :: e2 :: es)
    | .tupO a, .Call (.Name x _) [ea] [] _ => decide (x = ("tuple" : Str)) && glOk S x && plainE ea && kE n S a ea
    | .pop o, .Call (.Attribute eo at_ ap) [] [] pos => decide (at_ = ("pop" : Str)) && notCall eo && (ap.endLine == pos.line) && kE n S o eo
    | .told ws a, .Call (.Name x _) [.Lambda params body scope _] [] _ => S.lam && !S.hot && decide (S.told = some (x, ws)) && glOk S x && dbg x && lamP params scope && lamB S scope && kE n (lamS S scope) a body
    | .ext o l, .Call (.Attribute eo at_ ap) [el] [] pos => decide (at_ = ("extend" : Str)) && notCall eo && (ap.endLine == pos.line) && plainE el && kE n S o eo && kL n S l el
    | .tix o a, .Call (.Attribute eo at_ ap) [ea] [] pos => decide (at_ = ("index" : Str)) && notCall eo && (ap.endLine == pos.line) && plainE ea && kE n S o eo && kE n S a ea
    | .lidx o a, .Call (.Attribute eo at_ ap) [ea] [] pos => decide (at_ = ("index" : Str)) && notCall eo && (ap.endLine == pos.line) && plainE ea && kE n S o eo && kE n S a ea
    | .dgt o k d, .Call (.Attribute eo at_ ap) [ek, ed] [] pos => decide (at_ = ("get" : Str)) && notCall eo && (ap.endLine == pos.line) && plainE ek && plainE ed && kE n S o eo && kE n S k ek && kE n S d ed
    | .sdf o k d, .Call (.Attribute eo at_ ap) [ek, ed] [] pos => decide (at_ = ("setdefault" : Str)) && notCall eo && (ap.endLine == pos.line) && plainE ek && plainE ed && kE n S o eo && kE n S k ek && kE n S d ed
    | .tupX xs, .Tuple es _ _ => kEs n S xs es && decide (xs.length ≤ 1000)
    | .repX a b, .BinOp ea .Mult eb _ => kE n S a ea && kE n S b eb
    | .tupL a, .Call (.Name x _) [ea] [] _ => decide (x = ("tuple" : Str)) && glOk S x && plainE ea && kE n S a ea
    | .dvm a b, .Call (.Name x _) [ea, eb] [] _ => decide (x = ("divmod" : Str)) && glOk S x && plainE ea && plainE eb && kE n S a ea && kE n S b eb
    | .lset a, .Call (.Name x _) [.Call (.Name y _) [ea] [] _] [] _ => decide (x = ("len" : Str)) && glOk S x && decide (y = ("set" : Str)) && glOk S y && !S.hot && plainE ea && kE n S a ea
    | .dnew _, .Dict [] [] _ => true
    | .ddsp t k v, .Dict [some ek] [ev] _ => t && kE n S k ek && kE n S v ev
    | .lit (.int i), .Name x _ => decide (S.gls.lookup x = some i) && glOk S x && dbg x
    | _, _ => false
/-- as a test -/
def kT : Nat → Sc → Ex → Expr → Bool
  | 0, _, _, _ => false
  | n + 1, S, x, e => match x, e with
    | .not_ a, .UnaryOp .Not ea _ => kT n S a ea
    | .cmp o a b, .Compare ea [op] [eb] _ => decide (op = copOf o) && kE n S a ea && kE n S b eb && plainE eb
    | .chn o o' a b c, .Compare ea [op, op'] [eb, ec] _ => decide (op = copOf o) && decide (op' = copOf o') && kE n S a ea && kE n S b eb && kE n S c ec && plainE ec
    | .and_ a b, .BoolOp .And es _ => kTa n S (.and_ a b) es
    | .or_ a b, .BoolOp .Or es _ => kTo n S (.or_ a b) es
    | .ife c a b, .IfExp ec ea eb _ => kT n S c ec && kT n S a ea && kT n S b eb
    | x, e => plainT e && kE n S x e
def kVa : Nat → Sc → Ex → List Expr → Bool
  | 0, _, _, _ => false
  | n + 1, S, x, es => match x, es with
    | .and_ a b, e :: e' :: r => kE n S a e && kVa n S b (e' :: r)
    | x, [e] => kE n S x e
    | _, _ => false
def kVo : Nat → Sc → Ex → List Expr → Bool
  | 0, _, _, _ => false
  | n + 1, S, x, es => match x, es with
    | .or_ a b, e :: e' :: r => kE n S a e && kVo n S b (e' :: r)
    | x, [e] => kE n S x e
    | _, _ => false
def kTa : Nat → Sc → Ex → List Expr → Bool
  | 0, _, _, _ => false
  | n + 1, S, x, es => match x, es with
    | .and_ a b, e :: e' :: r => kT n S a e && kTa n S b (e' :: r)
    | x, [e] => kT n S x e
    | _, _ => false
def kTo : Nat → Sc → Ex → List Expr → Bool
  | 0, _, _, _ => false
  | n + 1, S, x, es => match x, es with
    | .or_ a b, e :: e' :: r => kT n S a e && kTo n S b (e' :: r)
    | x, [e] => kT n S x e
    | _, _ => false
def kEs : Nat → Sc → List Ex → List Expr → Bool
  | 0, _, _, _ => false
  | n + 1, S, xs, es => match xs, es with
    | [], [] => true
    | x :: xs, e :: es => plainE e && kE n S x e && kEs n S xs es
    | _, _ => false
def kL : Nat → Sc → Lx → Expr → Bool
  | 0, _, _, _ => false
  | n + 1, S, l, e => match l, e with
    | .dsp xs, .List es _ => kEs n S xs es
    | .lst a, .Call (.Name x _) [ea] [] _ => decide (x = ("list" : Str)) && glOk S x && plainE ea && kE n S a ea
    | .cat a b, .BinOp ea .Add eb _ => kE n S a ea && kE n S b eb
    | .rep l b, .BinOp el .Mult eb _ => kL n S l el && kE n S b eb
    | .cmp own t s ifs x, .ListComp elt [⟨tg, iter, ifs', k⟩] scope _ => (!S.hot || isRng s) && decide (k = 0) && plainE iter && kS n S s tg iter && blkC S scope own && (tgs t).all (fun i => decide (i ∈ own)) && kG (inN S scope) t tg && kI n (inN S scope) ifs ifs' && kE n (inN S scope) x elt
    | _, _ => false
def kS : Nat → Sc → Sx → Expr → Expr → Bool
  | 0, _, _, _, _ => false
  | n + 1, S, s, tg, e => match s, tg, e with
    | .val a, _, e => kE n S a e
    | .rng a, _, .Call (.Name x _) [ea] [] _ => decide (x = ("range" : Str)) && glOk S x && plainE ea && kE n S a ea
    | .rng2 a b, _, .Call (.Name x _) [ea, eb] [] _ => decide (x = ("range" : Str)) && glOk S x && plainE ea && plainE eb && kE n S a ea && kE n S b eb
    | .rng3 a b c, _, .Call (.Name x _) [ea, eb, ec] [] _ => decide (x = ("range" : Str)) && glOk S x && plainE ea && plainE eb && plainE ec && kE n S a ea && kE n S b eb && kE n S c ec
    | .enm a, .Tuple _ _ _, .Call (.Name x _) [ea] [] _ => decide (x = ("enumerate" : Str)) && glOk S x && plainE ea && kE n S a ea
    | .keys a, _, e => kE n S a e
    | .vals a, _, .Call (.Attribute eo at_ ap) [] [] pos => decide (at_ = ("values" : Str)) && notCall eo && (ap.endLine == pos.line) && kE n S a eo
    | .zip a b, .Tuple _ _ _, .Call (.Name x _) [ea, eb] [] _ => decide (x = ("zip" : Str)) && glOk S x && plainE ea && plainE eb && kE n S a ea && kE n S b eb
    | _, _, _ => false
def kI : Nat → Sc → List Ex → List Expr → Bool
  | 0, _, _, _ => false
  | n + 1, S, xs, es => match xs, es with
    | [], [] => true
    | [c], [e] => kT n S c e
    | _, _ => false
def kO : Nat → Sc → Option Ex → Option Expr → Bool
  | 0, _, _, _ => false
  | n + 1, S, x, e => match x, e with
    | none, none => true
    | some x, some e => kE n S x e
    | _, _ => false
end

/-- what holds of a def that is called -/
def FnFact (T : List Fn) (F k d : Nat) (G : Gb) (X : Cx) (x : Str) (f : Nat) : Prop := ∃ (a : Addr) (fd : FuncData) (ps : List Str) (fn : Fn), X.mg x = some (.ref a) ∧ G.fa[f]? = some a ∧ PySem.W.keepIn X.K (.ref a) = true ∧ T[f]? = some fn ∧
  ∀ (j : Nat), k = j + 1 → Binds X.K fd ps [] ∧ ∃ q, RoomG (q + d) X.A ∧ FnG X.prog X.w X.K X.mg X.base q a fd ps (spFn G F (orcs T F j) fn)
theorem FnFact.mono {T : List Fn} {F k d d' : Nat} {G : Gb} {X Y : Cx} {x : Str} {f : Nat} (h : FnFact T F k d G X x f) (e1 : Y.prog = X.prog) (e2 : Y.w = X.w) (e3 : Y.K = X.K) (e4 : Y.mg = X.mg) (e5 : Y.base = X.base) (hr : ∀ q, RoomG (q + d) X.A → RoomG (q + d') Y.A) : FnFact T F k d' G Y x f := by
  obtain ⟨a, fd, ps, fn, h1, h2, h3, h4, h5⟩ := h
  refine ⟨a, fd, ps, fn, by rw [e4]; exact h1, h2, by rw [e3]; exact h3, h4, fun j hj => ?_⟩
  obtain ⟨b, q, r, g⟩ := h5 j hj
  refine ⟨by rw [e3]; exact b, q, hr q r, ?_⟩
  rw [e1, e2, e3, e4, e5]; exact g
/-- what lambdas and the def that calls them ask -/
structure LamF (G : Gb) (X : Cx) (told : Option (Str × List Str)) : Prop where
  tb : ∃ c P, LamX.TabB X.base X.mg c P ∧ X.env.code = .ref c ∧ (P, X.env.qual ++ "<lambda>") ∈ G.tb ∧ ∀ p ∈ G.tb, p.1 = P → p.2 = X.env.qual ++ "<lambda>"
  room : RoomG 3 X.A
  td : ∀ x ws, told = some (x, ws) → ∃ g, X.mg x = some (.ref g) ∧ PySem.W.keepIn X.K (.ref g) = true ∧ ToldOk G X.prog X.w X.K X.mg X.base g ws
def dp (S : Sc) : Nat := if S.lam then 2 else 0
/-- where an expression of the text stands -/
structure Cok (T : List Fn) (F k : Nat) (S : Sc) (G : Gb) (W : WX) (X : Cx) : Prop where
  hN : X.N = S.N
  nd : S.N.Nodup
  nm : X.env.scope.names = S.names
  kind : X.env.scope.kind = .function
  calm : S.hot = false → Calm X
  un : X.A.units + 100 < cLine
  hotc : S.hot = true → L2H.HotC X
  lamF : S.lam = true → LamF G X S.told
  hK : G.K = X.K
  hP : G.P = X.prog ∧ G.w = X.w
  gls : ∀ x i, S.gls.lookup x = some i → ∃ t, X.mg x = some (.int i t)
  blt : ∀ x ∈ bltN, X.mg x = none
  fns : ∀ x f, S.defs.lookup x = some f → FnFact T F k (dp S) G X x f
  pas : Passing X W
  hf : ∀ x, S.fn x = true → X.fn x = true

section
variable {T : List Fn} {F k : Nat} {S : Sc} {G : Gb} {W : WX} {X : Cx}
theorem Cok.gx (c : Cok T F k S G W X) : GX G X := ⟨c.hK, c.hP⟩
theorem Cok.gl (c : Cok T F k S G W X) {x : Str} (h : glOk S x = true) : Gl X x := by
  unfold glOk at h
  show X.env.scope.names.lookup x = _
  rw [c.nm]
  exact of_decide_eq_true h
theorem dbg1 {x : Str} (h : dbg x = true) : (x == ("__debug__" : Str)) = false := by
  unfold dbg at h
  simp only [Bool.and_eq_true, Bool.not_eq_true'] at h
  exact h.1
theorem dbg2 {x : Str} (h : dbg x = true) : (x == ("__classdict__" : Str)) = false := by
  unfold dbg at h
  simp only [Bool.and_eq_true, Bool.not_eq_true'] at h
  exact h.2
theorem Cok.vis (c : Cok T F k S G W X) {x : Str} (h : visOk S x = true) : Vis X.env.scope x := by
  unfold visOk at h
  unfold Vis
  rw [c.nm]
  simp only [Bool.or_eq_true, decide_eq_true_eq] at h
  rcases h with (h | h) | h
  · exact .inl h
  · exact .inr (.inl h)
  · exact .inr (.inr h)
theorem Cok.slot (c : Cok T F k S G W X) {i : Nat} {x : Str} (h : slotOk S i x = true) : X.N[i]? = some x := by
  rw [c.hN]; exact of_decide_eq_true h
theorem Cok.sto (c : Cok T F k S G W X) {i : Nat} {x : Str} {pos : Pos} (h : stoOk S i x = true) : PG X (.Name x pos) (gName i) := by
  unfold stoOk at h
  simp only [Bool.and_eq_true, Bool.or_eq_true, decide_eq_true_eq] at h
  refine pg_name (by rw [c.hN]; exact c.nd) (c.slot h.1) ?_ ?_
  · unfold L2.Loc
    rw [c.nm]
    rcases h.2 with q | q
    · exact .inl q
    · exact .inr q.1
  · rcases h.2 with q | q
    · right
      rw [c.nm]; exact q
    · exact .inl (c.hf x q.2)
theorem kNs_ok (c : Cok T F k S G W X) : ∀ {is : List Nat} {es : List Expr}, kNs S is es = true → PGs X es (gNames is) ∧ (assignEach es X.env).length = is.length ∧ (assignEach es X.env).findIdx? (·.1) = none
  | [], [], _ => ⟨pgs_nil, rfl, rfl⟩
  | i :: is, .Name x p :: es, h => by
    unfold kNs at h
    simp only [Bool.and_eq_true] at h
    obtain ⟨h1, h2, h3⟩ := kNs_ok c h.2
    have e : assignEach (.Name x p :: es) X.env = (false, assign (.Name x p) X.env) :: assignEach es X.env := rfl
    refine ⟨pgs_cons (c.sto h.1) h1 rfl, ?_, ?_⟩
    · rw [e, List.length_cons, h2]; rfl
    · rw [e, List.findIdx?_cons, h3]; rfl
  | [], _ :: _, h => by simp [kNs] at h
  | _ :: _, [], h => by simp [kNs] at h
theorem kG_ok (c : Cok T F k S G W X) {t : Tgt} {tg : Expr} (h : kG S t tg = true) : PG X tg (tG G t) := by
  unfold kG at h
  split at h
  · exact ig_nm (c.sto h)
  · simp only [Bool.and_eq_true, Bool.not_eq_true'] at h
    obtain ⟨h1, h2, h3⟩ := kNs_ok c h.2
    exact ig_tp c.hK (pg_tup (c.calm h.1).calm h1 h2 h3) (pg_unl (c.calm h.1).calm h1 h2 h3)
  · cases h
end
end Ip

set_option linter.all false
set_option Elab.async false
set_option autoImplicit false
set_option maxRecDepth 100000
/-! The look is right: expressions. -/
namespace Ip
open PySem L2 PyProof.Rows

section
variable {T : List Fn} {F k : Nat} {S : Sc} {G : Gb} {W : WX} {X : Cx}
theorem Cok.blk (c : Cok T F k S G W X) {scope : Scope} {own : List Nat} (hnh : S.hot = false) (hb : blkC S scope own = true) (s : Shared) (H : Hp) (C : Addr) (cl : List (Str × Addr)) (fp : List Addr) :
    Cok T F k (inN S scope) G W0 (X.blk s H scope (compEnvC scope cl C X.env) fp) := by
  unfold blkC at hb
  simp only [Bool.and_eq_true, decide_eq_true_eq] at hb
  refine ⟨c.hN, c.nd, ?_, hb.1.1.1.1, fun h => let z := c.calm h; ⟨z.calm, z.un, z.gd⟩, c.un, fun h => absurd (hnh.symm.trans h) Bool.false_ne_true, fun h => (by cases h), c.hK, c.hP, c.gls, c.blt, fun x f h => (c.fns x f h).mono rfl rfl rfl rfl rfl fun q r => r.mono (Nat.le_add_right _ _), Passing.never, fun x h => h⟩
  show (relabel scope X.env).names = (inN S scope).names
  unfold relabel inN
  have hk : (X.env.scope.kind == ScopeKind.function) = true := by rw [c.kind]; rfl
  have hn : ∀ n : Str, X.env.kindOf n = S.names.lookup n := fun n => by show X.env.scope.names.lookup n = _; rw [c.nm]
  simp only [hk, hn, Bool.and_true]
theorem Cok.blkH (c : Cok T F k S G W X) {scope : Scope} {own : List Nat} (hb : blkC S scope own = true) (s : Shared) (H : Hp) (C : Addr) (cl : List (Str × Addr)) (fp : List Addr) (p : Addr × Obj) (hp : L2H.Hot1 X.A p) :
    Cok T F k (inN S scope) G W0 (Ip.blkH X s H scope (compEnvC scope cl C X.env) fp p) := by
  unfold blkC at hb
  simp only [Bool.and_eq_true, decide_eq_true_eq] at hb
  refine ⟨c.hN, c.nd, ?_, hb.1.1.1.1, fun h => let z := c.calm h; ⟨z.calm, z.un, z.gd⟩, c.un, fun _ => ⟨p, hp, List.mem_singleton.mpr rfl⟩, fun h => (by cases h), c.hK, c.hP, c.gls, c.blt, fun x f h => (c.fns x f h).mono rfl rfl rfl rfl rfl fun q r => r.mono (Nat.le_add_right _ _), Passing.never, fun x h => h⟩
  show (relabel scope X.env).names = (inN S scope).names
  unfold relabel inN
  have hk : (X.env.scope.kind == ScopeKind.function) = true := by rw [c.kind]; rfl
  have hn : ∀ n : Str, X.env.kindOf n = S.names.lookup n := fun n => by show X.env.scope.names.lookup n = _; rw [c.nm]
  simp only [hk, hn, Bool.and_true]
theorem lam_ok (c : Cok T F k S G W X) {scope : Scope} (h : lamB S scope = true) : LamN X.N X.env.scope scope := by
  unfold lamB at h
  simp only [Bool.and_eq_true, decide_eq_true_eq, List.all_eq_true, Bool.or_eq_true, Bool.not_eq_true', decide_eq_false_iff_not] at h
  obtain ⟨⟨⟨h1, h2⟩, h3⟩, h4⟩ := h
  refine ⟨h1, h2, h3, fun y hy => (h4 y hy).1.1, fun y hy e => ?_, fun y hy e => ?_⟩
  · rw [c.hN]; exact (h4 y hy).1.2.resolve_left fun z => z e
  · rw [c.nm]; exact (h4 y hy).2.resolve_left fun z => z e
theorem Cok.lam (c : Cok T F k S G W X) {scope : Scope} (hl : S.lam = true) (h : lamB S scope = true) (e1 : Env) (outer : List Env) (s : Shared) (H : Hp) (E : XK) (f c' : Addr) :
    Cok T F k (lamS S scope) G (fun c d _ H => E c d H) (lamC X (X.A.deeper e1) outer s H E scope f c') := by
  have L := lam_ok c h
  have r1 : RoomG 1 (lamC X (X.A.deeper e1) outer s H E scope f c').A := ((c.lamF hl).room.deeper e1).deeper _
  have z := r1.calm (X := lamC X (X.A.deeper e1) outer s H E scope f c') rfl
  refine ⟨c.hN, c.nd, rfl, L.kind, fun _ => z, z.un, fun h => (by cases h), fun h => (by cases h), c.hK, c.hP, c.gls, c.blt, fun x f h => (c.fns x f h).mono rfl rfl rfl rfl rfl fun q r => ?_, Passing.of_takes (L2N.takes_of rfl rfl rfl rfl), fun x h => (by cases h)⟩
  have r : RoomG (q + 2) X.A := by unfold dp at r; rw [if_pos hl] at r; exact r
  exact (r.deeper e1).deeper _
theorem blk_ok (c : Cok T F k S G W X) {scope : Scope} {own : List Nat} (hb : blkC S scope own = true) : BlkOk X.N X.env.scope scope (ownN S own) := by
  unfold blkC at hb
  simp only [Bool.and_eq_true, decide_eq_true_eq, List.all_eq_true, Bool.or_eq_true, Bool.not_eq_true', decide_eq_false_iff_not, Bool.or_eq_false_iff] at hb
  obtain ⟨⟨⟨⟨h1, h2⟩, h3⟩, h4⟩, h5⟩ := hb
  refine ⟨h1, h2, fun p hp => ?_, fun y hy hf => ?_, fun y hy hl => ?_⟩
  · obtain ⟨i, hi, rfl⟩ := List.mem_map.mp hp
    rw [c.hN]
    have := List.getElem?_eq_getElem (h3 i hi)
    show S.N[i]? = some ((S.N[i]?).getD Str.empty)
    rw [this]; rfl
  · rw [c.nm]
    rcases h4 y hy with q | q
    · exact absurd hf q
    · exact q
  · rcases h5 y hy with q | q
    · exact absurd hl (by rcases hl with hl | hl <;> simp [hl] at q)
    · rw [c.hN]; exact q
theorem ownN_snd (own : List Nat) : (ownN S own).map (·.2) = own := by
  unfold ownN
  rw [List.map_map]
  exact List.map_id _

/-- what the look tells, at n steps -/
structure Snd (T : List Fn) (F k n : Nat) : Prop where
  e : ∀ {S : Sc} {G : Gb} {W : WX} {X : Cx} {x : Ex} {e : Expr}, Cok T F k S G W X → kE n S x e = true → PE X e (tE G W (ev F (orcs T F k) x))
  t : ∀ {S : Sc} {G : Gb} {W : WX} {X : Cx} {x : Ex} {e : Expr}, Cok T F k S G W X → kT n S x e = true → PT X e (tT G W (tst (ev F (orcs T F k) x)))
  va : ∀ {S : Sc} {G : Gb} {W : WX} {X : Cx} {x : Ex} {es : List Expr} {pos : Pos}, Cok T F k S G W X → kVa n S x es = true → PE X (.BoolOp .And es pos) (tE G W (ev F (orcs T F k) x))
  vo : ∀ {S : Sc} {G : Gb} {W : WX} {X : Cx} {x : Ex} {es : List Expr} {pos : Pos}, Cok T F k S G W X → kVo n S x es = true → PE X (.BoolOp .Or es pos) (tE G W (ev F (orcs T F k) x))
  ta : ∀ {S : Sc} {G : Gb} {W : WX} {X : Cx} {x : Ex} {es : List Expr} {pos : Pos}, Cok T F k S G W X → kTa n S x es = true → PW X (.BoolOp .And es pos) (tT G W (tst (ev F (orcs T F k) x)))
  to : ∀ {S : Sc} {G : Gb} {W : WX} {X : Cx} {x : Ex} {es : List Expr} {pos : Pos}, Cok T F k S G W X → kTo n S x es = true → PW X (.BoolOp .Or es pos) (tT G W (tst (ev F (orcs T F k) x)))
  es : ∀ {S : Sc} {G : Gb} {W : WX} {X : Cx} {xs : List Ex} {es : List Expr}, Cok T F k S G W X → kEs n S xs es = true → PA X es (tA G W (evs F (orcs T F k) xs)) ∧ plains es = true ∧ PJ X es (xs.map fun x => tE G W (ev F (orcs T F k) x)) ∧ xs.length = es.length
  l : ∀ {S : Sc} {G : Gb} {W : WX} {X : Cx} {x : Lx} {e : Expr}, Cok T F k S G W X → kL n S x e = true → PE X e (tL G W (evL F (orcs T F k) x))
  s : ∀ {S : Sc} {G : Gb} {W : WX} {X : Cx} {x : Sx} {tg e : Expr}, Cok T F k S G W X → kS n S x tg e = true → PI X tg e (tI G W (evS F (orcs T F k) x))
  i : ∀ {S : Sc} {G : Gb} {W : WX} {X : Cx} {xs : List Ex} {es : List Expr}, Cok T F k S G W X → kI n S xs es = true → PTs X es (tT G W (evI F (orcs T F k) xs))
  sh : ∀ {S : Sc} {G : Gb} {W : WX} {X : Cx} {x : Sx} {tg e : Expr}, Cok T F k S G W X → isRng x = true → kS n S x tg e = true → L2H.PIH X tg e (tI G W (evS F (orcs T F k) x))
  o : ∀ {S : Sc} {G : Gb} {W : WX} {X : Cx} {x : Option Ex} {e : Option Expr}, Cok T F k S G W X → kO n S x e = true → PO X e (tO G W (evO F (orcs T F k) x))
theorem evs_len (F : Nat) (C : List Orc) : ∀ (xs : List Ex) (σ : Sg) (h : Hq) (vs : List Val) (h' : Hq), evs F C xs σ h = .ok vs h' → vs.length = xs.length
  | [], σ, h, vs, h', e => by simp only [evs] at e; cases e; rfl
  | x :: xs, σ, h, vs, h', e => by
    simp only [evs] at e
    cases e1 : ev F C x σ h with
    | no => rw [e1] at e; cases e
    | er a b => rw [e1] at e; cases e
    | ok v h1 =>
      rw [e1] at e
      simp only [R.bind_ok] at e
      cases e2 : evs F C xs σ h1 with
      | no => rw [e2] at e; cases e
      | er a b => rw [e2] at e; cases e
      | ok ws h2 =>
        rw [e2] at e
        cases e
        rw [List.length_cons, List.length_cons, evs_len F C xs _ _ _ _ e2]
theorem kLit_ok {x : D} {c : Const} {j : Nat} {pos : Pos} (h : kLit x c = true) : PE X (.Constant c j pos) (tE G W fun _ h => .ok (.d x) h) := by
  unfold kLit at h
  split at h
  · exact ip_lit pe_non rfl
  · rw [of_decide_eq_true h]; exact ip_lit pe_bl rfl
  · rw [of_decide_eq_true h]; exact ip_lit pe_int rfl
  · rw [of_decide_eq_true h]; exact ip_lit pe_str rfl
  · cases h
theorem prm_ok (c : Cok T F k S G W X) {p : Prm} {e : Expr} {es : List Expr} {px pos : Pos} {ms : Sg → Hq → R (List Val)} (hc : (!S.hot || cool p) = true) (hg : glOk S (nmP p) = true) (ha : PA X (e :: es) (tA G W ms)) (hp : plains (e :: es) = true) :
    PE X (.Call (.Name (nmP p) px) (e :: es) [] pos) (tE G W fun σ h => (ms σ h).bind fun vs h1 => prmV p vs h1) := by
  have hg := c.gl hg
  simp only [plains, Bool.and_eq_true] at hp
  have st := star_cons hp.1 es X.env
  have bk := back_plain pos X.env hp.2
  have cm : cool p = false → Calm X := fun q => c.calm (by simp only [q, Bool.or_false, Bool.not_eq_true'] at hc; exact hc)
  have z : X.mg (nmP p) = none := c.blt _ (by cases p <;> decide)
  cases p
  · exact ip_prmB cm c.hK rfl hg z (by decide +kernel) ha (by decide) (by decide) st bk
  · exact ip_prmB cm c.hK rfl hg z (by decide +kernel) ha (by decide) (by decide) st bk
  · exact ip_prmT cm c.hK rfl hg z (by decide +kernel) ha (by decide) (by decide) st bk
  · exact ip_prmT cm c.hK rfl hg z (by decide +kernel) ha (by decide) (by decide) st bk
  · exact ip_prmB cm c.hK rfl hg z (by decide +kernel) ha (by decide) (by decide) st bk
  · exact ip_prmB cm c.hK rfl hg z (by decide +kernel) ha (by decide) (by decide) st bk
  · exact ip_prmB cm c.hK rfl hg z (by decide +kernel) ha (by decide) (by decide) st bk
  · exact ip_prmB cm c.hK rfl hg z (by decide +kernel) ha (by decide) (by decide) st bk
  · exact ip_prmB cm c.hK rfl hg z (by decide +kernel) ha (by decide) (by decide) st bk
  · exact ip_prmB cm c.hK rfl hg z (by decide +kernel) ha (by decide) (by decide) st bk
  · exact ip_prmB cm c.hK rfl hg z (by decide +kernel) ha (by decide) (by decide) st bk
  · exact ip_prmB cm c.hK rfl hg z (by decide +kernel) ha (by decide) (by decide) st bk
theorem call_ok' (c : Cok T F k S G W X) {f : Nat} {x : Str} {es : List Expr} {px pos : Pos} {xs : List Ex} (hd : S.defs.lookup x = some f) (hg : glOk S x = true) (hb : dbg x = true) (ha : PA X es (tA G W (evs F (orcs T F k) xs))) (hp : plains es = true) (hl : xs.length = es.length) :
    PE X (.Call (.Name x px) es [] pos) (tE G W (ev F (orcs T F k) (.call f xs))) := by
  obtain ⟨a, fd, ps, fn, hm, hfa, hk, hT, hF⟩ := c.fns x f hd
  cases k with
  | zero => exact ie_nev.cong fun σ h => by simp only [ev, orcs]
  | succ j =>
    obtain ⟨hB, q, hr, hG⟩ := hF j rfl
    have hr := hr.mono (Nat.le_add_right q _)
    have key : ∀ {t : TA}, (∀ τ H Q, tA G W (evs F (orcs T F (j + 1)) xs) τ H Q → t τ H Q) → ∀ τ H Q, tE G W (ev F (orcs T F (j + 1)) (.call f xs)) τ H Q → tCallS (spFn G F (orcs T F j) fn) (WE W) t τ H Q := fun {t} ht τ H Q h => by
      refine call_imp ht τ H Q ?_
      have e : (ev F (orcs T F (j + 1)) (.call f xs)) = fun σ h => (evs F (orcs T F (j + 1)) xs σ h).bind fun vs h1 => callR F (orcs T F j) fn vs h1 := by
        funext σ h
        have e2 : orcs T F (j + 1) = (fun f vs h => match T[f]? with
          | some fn => callR F (orcs T F j) fn vs h
          | none => .no) :: orcs T F j := rfl
        rw [e2]
        simp only [ev, hT]
      rw [← e]; exact h
    cases es with
    | nil =>
      cases xs with
      | cons _ _ => cases hl
      | nil =>
        refine (pe_callG0 hG hr (c.gl hg) hm hk hB c.pas (dbg1 hb)).imp (key fun τ H Q ⟨Av, s, σ, hH, rp, sr, p⟩ => ?_)
        subst hH
        simp only [evs] at p
        exact p s [] rfl rp (Stp.refl _) .nil
    | cons e es =>
      simp only [plains, Bool.and_eq_true] at hp
      exact (pe_callG hG hr (c.gl hg) hm hk hB c.pas ha (dbg1 hb) (star_cons hp.1 es X.env) (back_plain pos X.env hp.2)).imp (key fun _ _ _ h => h)
end
end Ip

set_option linter.all false
set_option Elab.async false
set_option autoImplicit false
set_option maxRecDepth 100000
/-! The look is right: the steps. -/
namespace Ip
open PySem L2 PyProof.Rows
section
variable {T : List Fn} {F k : Nat} {S : Sc} {G : Gb} {W : WX} {X : Cx}
theorem _root_.L2.PA.cong {a : List Expr} {m m' : Sg → Hq → R (List Val)} (h : PA X a (tA G W m)) (e : ∀ σ h, m σ h = m' σ h) : PA X a (tA G W m') := by
  have : m = m' := by funext σ h; exact e σ h
  rw [← this]; exact h
theorem _root_.L2.PO.cong {a : Option Expr} {m m' : Sg → Hq → R (Option Int)} (h : PO X a (tO G W m)) (e : ∀ σ h, m σ h = m' σ h) : PO X a (tO G W m') := by
  have : m = m' := by funext σ h; exact e σ h
  rw [← this]; exact h
theorem _root_.L2.PI.cong {tg a : Expr} {m m' : Sg → Hq → R Sv} (h : PI X tg a (tI G W m)) (e : ∀ σ h, m σ h = m' σ h) : PI X tg a (tI G W m') := by
  have : m = m' := by funext σ h; exact e σ h
  rw [← this]; exact h
theorem _root_.L2.PTs.cong {a : List Expr} {m m' : Sg → Hq → R Bool} (h : PTs X a (tT G W m)) (e : ∀ σ h, m σ h = m' σ h) : PTs X a (tT G W m') := by
  have : m = m' := by funext σ h; exact e σ h
  rw [← this]; exact h
theorem _root_.L2.PE.lcong {a : Expr} {m m' : Sg → Hq → R (List Val)} (h : PE X a (tL G W m)) (e : ∀ σ h, m σ h = m' σ h) : PE X a (tL G W m') := by
  have : m = m' := by funext σ h; exact e σ h
  rw [← this]; exact h
theorem snd_e {n : Nat} (ih : Snd T F k n) {x : Ex} {e : Expr} (c : Cok T F k S G W X) (h : kE (n + 1) S x e = true) : PE X e (tE G W (ev F (orcs T F k) x)) := by
  have hu : X.A.units + 100 < cLine := c.un
  rw [kE.eq_def] at h
  simp only at h
  split at h
  · exact (ip_frz (ih.e c h)).cong fun σ h => by simp only [ev]
  · exact (ip_frzD (ih.e c h)).cong fun σ h => by simp only [ev]
  · exact ie_nev.cong fun σ h => by simp only [ev]
  · exact (ip_ofL (ih.l c h)).cong fun σ h => by simp only [ev]
  · exact (ip_new (ih.l c h)).cong fun σ h => by simp only [ev]
  · exact (kLit_ok h).cong fun σ h => by simp only [ev]
  · simp only [Bool.and_eq_true] at h
    exact (ip_var (pe_var (c.slot h.1.1) (c.vis h.1.2) (dbg1 h.2) (dbg2 h.2))).cong fun σ h => by simp only [ev] <;> rfl
  · simp only [Bool.and_eq_true, decide_eq_true_eq] at h
    obtain ⟨a, fd, ps, fn, hm, hfa, _⟩ := c.fns _ _ h.1.1
    exact (ip_fnv (pe_glob (v := .ref a) (c.gl h.1.2) hm rfl (dbg1 h.2)) hfa).cong fun σ h => by simp only [ev]
  · simp only [Bool.and_eq_true, decide_eq_true_eq] at h
    rw [h.1.1]
    exact (ip_binA _ c.hK (ih.e c h.1.2) (ih.e c h.2)).cong fun σ h => by simp only [ev]
  · exact (ip_neg (ih.e c h)).cong fun σ h => by simp only [ev] <;> rfl
  · exact (ip_not c.hK (ih.e c h)).cong fun σ h => by simp only [ev]
  · simp only [Bool.and_eq_true, decide_eq_true_eq] at h
    rw [h.1.1.1]
    exact (ip_cmp _ c.gx hu (ih.e c h.1.1.2) (ih.e c h.1.2) (behind_of h.2 _)).cong fun σ h => by simp only [ev]
  · simp only [Bool.and_eq_true, decide_eq_true_eq] at h
    rw [h.1.1.1.1.1, h.1.1.1.1.2]
    exact (ip_chn _ _ c.gx hu (ih.e c h.1.1.1.2) (ih.e c h.1.1.2) (ih.e c h.1.2) (behind_of h.2 _)).cong fun σ h => by simp only [ev]
  · exact ih.va c h
  · exact ih.vo c h
  · simp only [Bool.and_eq_true, decide_eq_true_eq] at h
    exact (ip_ife (ih.t c h.1.1) (ih.e c h.1.2) (ih.e c h.2)).cong fun σ h => by simp only [ev]
  · simp only [Bool.and_eq_true, decide_eq_true_eq] at h
    refine (ip_tup (ih.es c h.1).1 fun σ h0 vs h' e => ?_).cong fun σ h => by simp only [ev]
    have := evs_len _ _ _ _ _ _ _ e
    have := h.2
    omega
  · simp only [Bool.and_eq_true, decide_eq_true_eq] at h
    rw [h.1]
    exact (ip_rev c.hK (ih.e c h.2)).cong fun σ h => by simp only [ev]
  · simp only [Bool.and_eq_true, decide_eq_true_eq] at h
    exact (ip_slc c.hK (ih.e c h.1.1) (ih.o c h.1.2) (ih.o c h.2)).cong fun σ h => by simp only [ev]
  · simp only [Bool.and_eq_true, decide_eq_true_eq] at h
    exact (ip_ix c.gx hu (ih.e c h.1.2) (ih.e c h.2) (plainIx_of h.1.1)).cong fun σ h => by simp only [ev]
  · simp only [Bool.and_eq_true, decide_eq_true_eq] at h
    obtain ⟨h1, h2, _, h3⟩ := ih.es c h.2
    exact call_ok' c h.1.1.1 h.1.1.2 h.1.2 h1 h2 h3
  · simp only [Bool.and_eq_true, decide_eq_true_eq] at h
    obtain ⟨h1, h2, _, h3⟩ := ih.es c h.2
    have hg := h.1.1.2
    rw [h.1.1.1] at hg ⊢
    exact (prm_ok c h.1.2 hg h1 h2).cong fun σ h => by simp only [ev]
  · simp only [Bool.and_eq_true, decide_eq_true_eq] at h
    rw [h.1.1.1.1.1]
    exact (ip_app c.hK (ih.e c h.1.2) (ih.e c h.2) (base_of h.1.1.1.1.2 _ _ _) (star_cons h.1.1.2 [] X.env) h.1.1.1.2).cong fun σ h => by simp only [ev]
  · simp only [Bool.and_eq_true, decide_eq_true_eq] at h
    rw [h.1]
    exact (ip_fmt (ih.e c h.2)).cong fun σ h => by simp only [ev] <;> rfl
  · simp only [Bool.and_eq_true, decide_eq_true_eq] at h
    rw [h.1]
    exact (pe_joined1 (ip_fmt (ih.e c h.2))).cong fun σ h => by simp only [ev] <;> rfl
  · exact (ip_fst (ih.es c h).2.2.1).cong fun σ h => by simp only [ev]
  · simp only [Bool.and_eq_true, decide_eq_true_eq] at h
    have hg := c.gl h.1.1.2
    rw [h.1.1.1] at hg ⊢
    exact (ip_tupO c.hK hg (c.blt _ (by decide)) (ih.e c h.2) (star_cons h.1.2 [] _)).cong fun σ h => by simp only [ev]
  · simp only [Bool.and_eq_true, decide_eq_true_eq] at h
    rw [h.1.1.1]
    exact (ip_pop c.hK (ih.e c h.2) (base_of h.1.1.2 _ _ _) h.1.2).cong fun σ h => by simp only [ev]
  · simp only [Bool.and_eq_true, decide_eq_true_eq, Bool.not_eq_true'] at h
    obtain ⟨⟨⟨⟨⟨⟨⟨h1, h2⟩, h3⟩, h4⟩, h5⟩, h6⟩, h7⟩, h8⟩ := h
    obtain ⟨⟨cc, P, TB, hcode, hmT, hu2⟩, room, td⟩ := c.lamF h1
    obtain ⟨g, hm, hk, tk⟩ := td _ _ h3
    exact (pe_told (c.gl h4) hm hk tk room TB hcode hmT hu2 h6 (lam_ok c h7) c.pas (fun e1 outer s H E f c' => ih.e (c.lam h1 h7 e1 outer s H E f c') h8) (dbg1 h5)).cong fun σ h => by simp only [ev]
  · simp only [Bool.and_eq_true, decide_eq_true_eq] at h
    rw [h.1.1.1.1.1]
    exact (ip_ext c.hK (ih.e c h.1.2) (ih.l c h.2) (base_of h.1.1.1.1.2 _ _ _) (star_cons h.1.1.2 [] X.env) h.1.1.1.2).cong fun σ h => by simp only [ev]
  · simp only [Bool.and_eq_true, decide_eq_true_eq] at h
    rw [h.1.1.1.1.1]
    exact (ip_tix c.hK (ih.e c h.1.2) (ih.e c h.2) (base_of h.1.1.1.1.2 _ _ _) (star_cons h.1.1.2 [] X.env) h.1.1.1.2).cong fun σ h => by simp only [ev]
  · simp only [Bool.and_eq_true, decide_eq_true_eq] at h
    rw [h.1.1.1.1.1]
    exact (ip_lidx c.hK (ih.e c h.1.2) (ih.e c h.2) (base_of h.1.1.1.1.2 _ _ _) (star_cons h.1.1.2 [] X.env) h.1.1.1.2).cong fun σ h => by simp only [ev]
  · simp only [Bool.and_eq_true, decide_eq_true_eq] at h
    rw [h.1.1.1.1.1.1.1]
    exact (ip_dgt hu (ih.e c h.1.1.2) (ih.e c h.1.2) (ih.e c h.2) (m2_of (base_of h.1.1.1.1.1.1.2 _ _ _) (star_cons h.1.1.1.1.2 _ X.env) (star_cons h.1.1.1.2 [] X.env) h.1.1.1.1.1.2)).cong fun σ h => by simp only [ev]
  · simp only [Bool.and_eq_true, decide_eq_true_eq] at h
    rw [h.1.1.1.1.1.1.1]
    exact (ip_sdf (ih.e c h.1.1.2) (ih.e c h.1.2) (ih.e c h.2) (m2_of (base_of h.1.1.1.1.1.1.2 _ _ _) (star_cons h.1.1.1.1.2 _ X.env) (star_cons h.1.1.1.2 [] X.env) h.1.1.1.1.1.2)).cong fun σ h => by simp only [ev]
  · simp only [Bool.and_eq_true, decide_eq_true_eq] at h
    refine (ip_tupX (ih.es c h.1).1 fun σ h0 vs h' e => ?_).cong fun σ h => by simp only [ev]
    have := evs_len _ _ _ _ _ _ _ e
    have := h.2
    omega
  · simp only [Bool.and_eq_true] at h
    exact (ip_repX c.hK (ih.e c h.1) (ih.e c h.2)).cong fun σ h => by simp only [ev]
  · simp only [Bool.and_eq_true, decide_eq_true_eq] at h
    have hg := c.gl h.1.1.2
    rw [h.1.1.1] at hg ⊢
    exact (ip_tupL c.hK hg (c.blt _ (by decide)) (ih.e c h.2) (star_cons h.1.2 [] _)).cong fun σ h => by simp only [ev] <;> rfl
  · simp only [Bool.and_eq_true, decide_eq_true_eq] at h
    have hg := c.gl h.1.1.1.1.2
    rw [h.1.1.1.1.1] at hg ⊢
    exact (ip_dvm hg (c.blt _ (by decide)) (ih.e c h.1.2) (ih.e c h.2) ((star_cons h.1.1.1.2 _ _).trans (by rw [star_cons h.1.1.2]; rfl)) (star_cons h.1.1.2 [] _)).cong fun σ h => by simp only [ev]
  · simp only [Bool.and_eq_true, decide_eq_true_eq, Bool.not_eq_true'] at h
    obtain ⟨⟨⟨⟨⟨⟨h1, h2⟩, h3⟩, h4⟩, h5⟩, h6⟩, h7⟩ := h
    have hg := c.gl h2
    have hg2 := c.gl h4
    rw [h1] at hg ⊢
    rw [h3] at hg2 ⊢
    exact (ip_lset c.hK hg (c.blt _ (by decide)) hg2 (c.blt _ (by decide)) (ih.e c h7) (c.calm h5).calm (star_cons h6 [] _)).cong fun σ h => by simp only [ev]
  · rename_i t _
    exact (ip_dnew c.gx t).cong fun σ h => by simp only [ev]
  · simp only [Bool.and_eq_true] at h
    obtain ⟨⟨h1, h2⟩, h3⟩ := h
    rw [h1]
    exact (ip_ddsp c.gx hu (ih.e c h2) (ih.e c h3)).cong fun σ h => by simp only [ev]
  · simp only [Bool.and_eq_true, decide_eq_true_eq] at h
    obtain ⟨t, ht⟩ := c.gls _ _ h.1.1
    rename_i i _ _
    exact (ip_lit (x := .int i) (pe_glob (v := .int _) (c.gl h.1.2) ht ⟨t, rfl⟩ (dbg1 h.2)) rfl).cong fun σ h => by simp only [ev]
  · cases h
theorem snd_t {n : Nat} (ih : Snd T F k n) {x : Ex} {e : Expr} (c : Cok T F k S G W X) (h : kT (n + 1) S x e = true) : PT X e (tT G W (tst (ev F (orcs T F k) x))) := by
  have hu : X.A.units + 100 < cLine := c.un
  rw [kT.eq_def] at h
  simp only at h
  split at h
  · exact (ip_notT (ih.t c h)).cong fun σ h => by simp only [tst, ev]
  · simp only [Bool.and_eq_true, decide_eq_true_eq] at h
    rw [h.1.1.1]
    exact (ip_cmpT' _ c.gx hu (ih.e c h.1.1.2) (ih.e c h.1.2) (behind_of h.2 _)).cong fun σ h => by simp only [tst, ev]
  · simp only [Bool.and_eq_true, decide_eq_true_eq] at h
    rw [h.1.1.1.1.1, h.1.1.1.1.2]
    exact (ip_chnT _ _ c.gx hu (ih.e c h.1.1.1.2) (ih.e c h.1.1.2) (ih.e c h.1.2) (behind_of h.2 _)).cong fun σ h => by simp only [tst, ev]
  · exact (ih.ta c h).pt
  · exact (ih.to c h).pt
  · simp only [Bool.and_eq_true, decide_eq_true_eq] at h
    exact (ip_ifeT (ih.t c h.1.1) (ih.t c h.1.2) (ih.t c h.2)).cong fun σ h => by simp only [tst, ev]
  · simp only [Bool.and_eq_true] at h
    exact ip_tst c.hK (ih.e c h.2) (isTrue_plain h.1 _)
theorem snd_va {n : Nat} (ih : Snd T F k n) {x : Ex} {es : List Expr} {pos : Pos} (c : Cok T F k S G W X) (h : kVa (n + 1) S x es = true) : PE X (.BoolOp .And es pos) (tE G W (ev F (orcs T F k) x)) := by
  rw [kVa.eq_def] at h
  simp only at h
  split at h
  · simp only [Bool.and_eq_true] at h
    exact (ip_and c.hK (ih.e c h.1) (ih.va c h.2)).cong fun σ h => by simp only [ev]
  · exact ip_and1 (ih.e c h)
  · cases h
theorem snd_vo {n : Nat} (ih : Snd T F k n) {x : Ex} {es : List Expr} {pos : Pos} (c : Cok T F k S G W X) (h : kVo (n + 1) S x es = true) : PE X (.BoolOp .Or es pos) (tE G W (ev F (orcs T F k) x)) := by
  rw [kVo.eq_def] at h
  simp only at h
  split at h
  · simp only [Bool.and_eq_true] at h
    exact (ip_or c.hK (ih.e c h.1) (ih.vo c h.2)).cong fun σ h => by simp only [ev]
  · exact ip_and1 (ih.e c h)
  · cases h
theorem snd_ta {n : Nat} (ih : Snd T F k n) {x : Ex} {es : List Expr} {pos : Pos} (c : Cok T F k S G W X) (h : kTa (n + 1) S x es = true) : PW X (.BoolOp .And es pos) (tT G W (tst (ev F (orcs T F k) x))) := by
  rw [kTa.eq_def] at h
  simp only at h
  split at h
  · simp only [Bool.and_eq_true] at h
    exact (ip_andT (ih.t c h.1) (ih.ta c h.2)).cong fun σ h => by simp only [tst, ev]
  · exact ip_andT1 (ih.t c h)
  · cases h
theorem snd_to {n : Nat} (ih : Snd T F k n) {x : Ex} {es : List Expr} {pos : Pos} (c : Cok T F k S G W X) (h : kTo (n + 1) S x es = true) : PW X (.BoolOp .Or es pos) (tT G W (tst (ev F (orcs T F k) x))) := by
  rw [kTo.eq_def] at h
  simp only at h
  split at h
  · simp only [Bool.and_eq_true] at h
    exact (ip_orT (ih.t c h.1) (ih.to c h.2)).cong fun σ h => by simp only [tst, ev]
  · exact ip_orT1 (ih.t c h)
  · cases h
theorem snd_es {n : Nat} (ih : Snd T F k n) {xs : List Ex} {es : List Expr} (c : Cok T F k S G W X) (h : kEs (n + 1) S xs es = true) :
    PA X es (tA G W (evs F (orcs T F k) xs)) ∧ plains es = true ∧ PJ X es (xs.map fun x => tE G W (ev F (orcs T F k) x)) ∧ xs.length = es.length := by
  rw [kEs.eq_def] at h
  simp only at h
  split at h
  · refine ⟨ia_nil.cong fun σ h => by simp only [evs], rfl, .nil, rfl⟩
  · simp only [Bool.and_eq_true] at h
    obtain ⟨h1, h2, h3, h4⟩ := ih.es c h.2
    refine ⟨(ia_cons (ih.e c h.1.2) h1 (star_cons h.1.1 _ _)).cong fun σ h => by simp only [evs], ?_, .cons (ih.e c h.1.2) h3, by rw [List.length_cons, List.length_cons, h4]⟩
    simp only [plains, Bool.and_eq_true]
    exact ⟨h.1.1, h2⟩
  · cases h
theorem snd_o {n : Nat} (ih : Snd T F k n) {x : Option Ex} {e : Option Expr} (c : Cok T F k S G W X) (h : kO (n + 1) S x e = true) : PO X e (tO G W (evO F (orcs T F k) x)) := by
  rw [kO.eq_def] at h
  simp only at h
  split at h
  · exact io_none.cong fun σ h => by simp only [evO]
  · exact (io_some (ih.e c h)).cong fun σ h => by simp only [evO] <;> rfl
  · cases h
theorem snd_i {n : Nat} (ih : Snd T F k n) {xs : List Ex} {es : List Expr} (c : Cok T F k S G W X) (h : kI (n + 1) S xs es = true) : PTs X es (tT G W (evI F (orcs T F k) xs)) := by
  rw [kI.eq_def] at h
  simp only at h
  split at h
  · exact it_nil.cong fun σ h => by simp only [evI]
  · exact (it_one (ih.t c h)).cong fun σ h => by simp only [evI]
  · cases h
theorem snd_s {n : Nat} (ih : Snd T F k n) {x : Sx} {tg e : Expr} (c : Cok T F k S G W X) (h : kS (n + 1) S x tg e = true) : PI X tg e (tI G W (evS F (orcs T F k) x)) := by
  rw [kS.eq_def] at h
  simp only at h
  split at h
  · exact (ii_val c.hK (ih.e c h)).cong fun σ h => by simp only [evS]
  · simp only [Bool.and_eq_true, decide_eq_true_eq] at h
    have hg := c.gl h.1.1.2
    rw [h.1.1.1] at hg ⊢
    exact (ii_rng hg (c.blt _ (by decide)) (ih.e c h.2) (star_cons h.1.2 [] _)).cong fun σ h => by simp only [evS] <;> rfl
  · simp only [Bool.and_eq_true, decide_eq_true_eq] at h
    have hg := c.gl h.1.1.1.1.2
    rw [h.1.1.1.1.1] at hg ⊢
    exact (ii_rng2 hg (c.blt _ (by decide)) (ih.e c h.1.2) (ih.e c h.2) ((star_cons h.1.1.1.2 _ _).trans (by rw [star_cons h.1.1.2]; rfl)) (star_cons h.1.1.2 [] _)).cong fun σ h => by simp only [evS] <;> rfl
  · simp only [Bool.and_eq_true, decide_eq_true_eq] at h
    have hg := c.gl h.1.1.1.1.1.1.2
    rw [h.1.1.1.1.1.1.1] at hg ⊢
    exact (ii_rng3 hg (c.blt _ (by decide)) (ih.e c h.1.1.2) (ih.e c h.1.2) (ih.e c h.2) (star_cons h.1.1.1.1.1.2 _ _) (star_cons h.1.1.1.1.2 _ _) (star_cons h.1.1.1.2 [] _)).cong fun σ h => by simp only [evS] <;> rfl
  · simp only [Bool.and_eq_true, decide_eq_true_eq] at h
    have hg := c.gl h.1.1.2
    rw [h.1.1.1] at hg ⊢
    exact (ii_enm c.hK hg (c.blt _ (by decide)) (ih.e c h.2) (star_cons h.1.2 [] _)).cong fun σ h => by simp only [evS] <;> rfl
  · exact (ii_keys (ih.e c h)).cong fun σ h => by simp only [evS]
  · simp only [Bool.and_eq_true, decide_eq_true_eq] at h
    rw [h.1.1.1]
    exact (ii_vals (ih.e c h.2) (base_of h.1.1.2 _ _ _) h.1.2).cong fun σ h => by simp only [evS]
  · simp only [Bool.and_eq_true, decide_eq_true_eq] at h
    have hg := c.gl h.1.1.1.1.2
    rw [h.1.1.1.1.1] at hg ⊢
    exact (ii_zip c.hK hg (c.blt _ (by decide)) (ih.e c h.1.2) (ih.e c h.2) ((star_cons h.1.1.1.2 _ _).trans (by rw [star_cons h.1.1.2]; rfl)) (star_cons h.1.1.2 [] _)).cong fun σ h => by simp only [evS] <;> rfl
  · cases h
theorem _root_.L2H.PIH.cong {tg a : Expr} {m m' : Sg → Hq → R Sv} (h : L2H.PIH X tg a (tI G W m)) (e : ∀ σ h, m σ h = m' σ h) : L2H.PIH X tg a (tI G W m') := by
  have : m = m' := by funext σ h; exact e σ h
  rw [← this]; exact h
theorem snd_sh {n : Nat} (ih : Snd T F k n) {x : Sx} {tg e : Expr} (c : Cok T F k S G W X) (hr : isRng x = true) (h : kS (n + 1) S x tg e = true) : L2H.PIH X tg e (tI G W (evS F (orcs T F k) x)) := by
  rw [kS.eq_def] at h
  simp only at h
  split at h
  · cases hr
  · simp only [Bool.and_eq_true, decide_eq_true_eq] at h
    have hg := c.gl h.1.1.2
    rw [h.1.1.1] at hg ⊢
    exact (ii_rngH hg (c.blt _ (by decide)) (ih.e c h.2) (star_cons h.1.2 [] _)).cong fun σ h => by simp only [evS] <;> rfl
  · cases hr
  · cases hr
  · cases hr
  · cases hr
  · cases hr
  · cases hr
  · cases h
theorem snd_l {n : Nat} (ih : Snd T F k n) {x : Lx} {e : Expr} (c : Cok T F k S G W X) (h : kL (n + 1) S x e = true) : PE X e (tL G W (evL F (orcs T F k) x)) := by
  rw [kL.eq_def] at h
  simp only at h
  split at h
  · exact (il_dsp (ih.es c h).1).imp fun τ H Q h => by simpa only [evL] using h
  · simp only [Bool.and_eq_true, decide_eq_true_eq] at h
    have hg := c.gl h.1.1.2
    rw [h.1.1.1] at hg ⊢
    exact (il_lst c.hK hg (c.blt _ (by decide)) (ih.e c h.2) (star_cons h.1.2 [] _)).lcong fun σ h => by simp only [evL] <;> rfl
  · simp only [Bool.and_eq_true] at h
    exact (il_cat c.hK (ih.e c h.1) (ih.e c h.2)).lcong fun σ h => by simp only [evL]
  · simp only [Bool.and_eq_true] at h
    exact (il_rep (ih.l c h.1) (ih.e c h.2)).lcong fun σ h => by simp only [evL]
  · rename_i own t s ifs x elt tg iter ifs' kk scope pos
    simp only [Bool.and_eq_true, decide_eq_true_eq, List.all_eq_true, Bool.or_eq_true, Bool.not_eq_true'] at h
    obtain ⟨⟨⟨⟨⟨⟨⟨⟨hh, h0⟩, h1⟩, h2⟩, h3⟩, h4⟩, h5⟩, h6⟩, h7⟩ := h
    subst h0
    have hN : X.N.Nodup := by rw [c.hN]; exact c.nd
    have key : PE X (.ListComp elt [⟨tg, iter, ifs', 0⟩] scope pos) (tL G W (cmpM t ((ownN S own).map (·.2)) (evS F (orcs T F k) s) (evI F (orcs T F k) ifs) (ev F (orcs T F k) x))) := by
      cases hc : S.hot with
      | false =>
        exact il_cmp (t := t) (own := ownN S own) (c.calm hc).calm hN (ih.s c h2) (blk_ok c h3) (fun i hi => by rw [ownN_snd]; exact h4 i hi) (fun s H C cl fp => kG_ok (c.blk hc h3 s H C cl fp) h5)
          (fun s H C cl fp => ih.i (c.blk hc h3 s H C cl fp) h6) (fun s H C cl fp => ih.e (c.blk hc h3 s H C cl fp) h7) (folded_of h1 _)
      | true =>
        rw [hc] at hh
        exact (pe_lcH (own := ownN S own) (c.hotc hc) hN (ih.sh c (hh.resolve_left (by decide)) h2) (blk_ok c h3) (fun s H C cl fp p hp => kG_ok (t := t) (c.blkH h3 s H C cl fp p hp) h5)
          (fun s H C cl fp p hp => ih.i (c.blkH h3 s H C cl fp p hp) h6) (fun s H C cl fp p hp => ih.e (c.blkH h3 s H C cl fp p hp) h7) (folded_of h1 _)).imp (cmp_imp fun i hi => by rw [ownN_snd]; exact h4 i hi)
    refine key.imp fun τ H Q h => ?_
    rw [ownN_snd]
    have e : evL F (orcs T F k) (.cmp own t s ifs x) = cmpM t own (evS F (orcs T F k) s) (evI F (orcs T F k) ifs) (ev F (orcs T F k) x) := by
      funext σ h
      simp only [evL] <;> rfl
    rw [← e]; exact h
  · cases h
theorem snd (T : List Fn) (F k : Nat) : ∀ n, Snd T F k n
  | 0 => ⟨fun _ h => by simp [kE] at h, fun _ h => by simp [kT] at h, fun _ h => by simp [kVa] at h, fun _ h => by simp [kVo] at h, fun _ h => by simp [kTa] at h, fun _ h => by simp [kTo] at h, fun _ h => by simp [kEs] at h, fun _ h => by simp [kL] at h, fun _ h => by simp [kS] at h, fun _ h => by simp [kI] at h, fun _ _ h => by simp [kS] at h, fun _ h => by simp [kO] at h⟩
  | n + 1 => ⟨snd_e (snd T F k n), snd_t (snd T F k n), snd_va (snd T F k n), snd_vo (snd T F k n), snd_ta (snd T F k n), snd_to (snd T F k n), snd_es (snd T F k n), snd_l (snd T F k n), snd_s (snd T F k n), snd_i (snd T F k n), snd_sh (snd T F k n), snd_o (snd T F k n)⟩
end
end Ip

set_option linter.all false
set_option Elab.async false
set_option autoImplicit false
set_option maxRecDepth 100000
/-! The look at a text: statements. -/
namespace Ip
open PySem L2 PyProof.Rows

/-- does a comprehension's value go into the name in its own way -/
def swpC (S : Sc) (y : Str) (py : Pos) : Expr → Bool
  | .ListComp elt gs scope pos => (S.names.lookup y == some .local) && (py.line == pos.line) && !(scope.names.any fun (n, k) => n == y && (k == .local || k == .cell))
  | _ => false
def isLC : Expr → Bool
  | .ListComp .. => true
  | _ => false
def madeL : Ex → Bool
  | .ofL _ => true
  | .new _ => true
  | _ => false
def isTup : Expr → Bool
  | .Tuple .. => true
  | _ => false

mutual
def kSt (m : Nat) : Nat → Sc → St → Stmt → Bool
  | 0, _, _, _ => false
  | n + 1, S, s, st => match s, st with
    | .nev, _ => true
    | .set i e, .Assign [.Name x px] v _ => stoOk S i x && kE m S e v && (noComp v || (isLC v && (!swpC S x px v || madeL e)))
    | .par i j a b, .Assign [.Tuple [.Name x px, .Name y py] _ _] (.Tuple [ea, eb] _ _) _ => !S.hot && slotOk S i x && slotOk S j y && decide (S.names.lookup x = some .local) && decide (S.names.lookup y = some .local) && !decide (i = j) && !(x == y) && (py.line == px.line) &&
        plainE ea && plainE eb && !(foldedForSure 8 ea && foldedForSure 8 eb) && !(constantsAlone 8 ea && constantsAlone 8 eb) && kE m S a ea && kE m S b eb
    | .asg t e, .Assign [tg] v _ => isTup tg && notTup v && kG S t tg && kE m S e v
    | .six o i e, .Assign [.Subscript eo ei _] v _ => plainE ei && kE m S o eo && kE m S i ei && kE m S e v
    | .exp e, .Expr v _ => noComp v && kE m S e v
    | .pas, .Expr (.Constant (.str _) _ _) _ => true
    | .pas, .Pass _ => true
    | .iff c a b, .If ec as bs _ => kT m S c ec && kSts m n S a as && kSts m n S b bs
    | .for_ t s b, .For tg iter body [] _ => !S.hot && plainE iter && kS m S s tg iter && kG S t tg && kSts m n S b body
    | .whl c b, .While ec body [] _ => kT m S c ec && kSts m n S b body
    | .ret e, .Return (some v) _ => kE m S e v
    | .retN, .Return none _ => true
    | .brk, .Break _ => true
    | .cnt, .Continue _ => true
    | .rse c, .Raise (some (.Call (.Name x _) [.Constant (.str _) _ _] [] _)) none _ => !S.hot && decide (S.cls.lookup x = some c) && glOk S x && dbg x
    | _, _ => false
def kSts (m : Nat) : Nat → Sc → List St → List Stmt → Bool
  | 0, _, _, _ => false
  | n + 1, S, ss, sts => match ss, sts with
    | [], [] => true
    | s :: ss, st :: sts => kSt m n S s st && kSts m n S ss sts
    | _, _ => false
end
/-- where a statement of the text stands -/
structure Sok (T : List Fn) (F k : Nat) (S : Sc) (G : Gb) (W : WX) (X : Cx) : Prop extends Cok T F k S G W X where
  own : PassesOwn (model X.prog X.w) X.A X.env X.xe
  tk : L2N.Takes X W
  cl : ∀ x c, S.cls.lookup x = some c → ClsF X G x c

section
variable {T : List Fn} {F k : Nat} {S : Sc} {G : Gb} {W : WX} {X : Cx} {pos : Pos}
theorem _root_.L2.PS.cong {a : Stmt} {m m' : Sg → Hq → RF} (h : PS X a (tS G W m)) (e : ∀ σ h, m σ h = m' σ h) : PS X a (tS G W m') := by
  have : m = m' := by funext σ h; exact e σ h
  rw [← this]; exact h
theorem _root_.L2.PSs.cong {a : List Stmt} {m m' : Sg → Hq → RF} (h : PSs X a (tS G W m)) (e : ∀ σ h, m σ h = m' σ h) : PSs X a (tS G W m') := by
  have : m = m' := by funext σ h; exact e σ h
  rw [← this]; exact h
theorem swp_ok (c : Cok T F k S G W X) {y : Str} {py : Pos} {v : Expr} (h : isLC v = true) (l : Nat) : swapsWith v (some (.Name y py)) l X.env = pure (swpC S y py v) := by
  cases v <;> first | (cases h; done) | skip
  rename_i elt gs scope p
  have hb : X.env.blockKind = .function := by
    unfold Env.blockKind
    rw [c.kind]; rfl
  have hk : (X.env.kindOf y == some NameKind.local) = (S.names.lookup y == some .local) := by
    show (X.env.scope.names.lookup y == some NameKind.local) = _
    rw [c.nm]
  show (pure (X.env.blockKind == .function && X.env.kindOf y == some .local && py.line == p.line && !(scope.names.any fun (n, k) => n == y && (k == .local || k == .cell))) : Sem Bool) = _
  rw [hb, hk]
  rfl
theorem setLc_ok (c : Cok T F k S G W X) {n i : Nat} {y : Str} {py : Pos} {l : Lx} {v : Expr} (hv : isLC v = true) (hs : stoOk S i y = true) (hw : swpC S y py v = true) (h : kL n S l v = true) :
    ∃ te, PS X (.Assign [.Name y py] v pos) (tAsg te (gName i)) ∧ ∀ τ H Q, tL G W (evL F (orcs T F k) l) τ H Q → te τ H Q := by
  cases n with
  | zero => simp [kL] at h
  | succ n =>
  have ih := snd T F k n
  have hsw := swp_ok c (y := y) (py := py) hv pos.line
  rw [hw] at hsw
  rw [kL.eq_def] at h
  simp only at h
  split at h
  · cases hv
  · cases hv
  · cases hv
  · cases hv
  · rename_i own t s ifs x elt tg iter ifs' kk scope p
    simp only [Bool.and_eq_true, decide_eq_true_eq, List.all_eq_true, Bool.or_eq_true, Bool.not_eq_true'] at h
    obtain ⟨⟨⟨⟨⟨⟨⟨⟨hh, h0⟩, h1⟩, h2⟩, h3⟩, h4⟩, h5⟩, h6⟩, h7⟩ := h
    subst h0
    have hN : X.N.Nodup := by rw [c.hN]; exact c.nd
    have hl : X.env.scope.names.lookup y = some .local := by
      rw [c.nm]
      simp only [swpC, Bool.and_eq_true, beq_iff_eq] at hw
      exact hw.1.1
    simp only [stoOk, Bool.and_eq_true] at hs
    have key : PS X (.Assign [.Name y py] (.ListComp elt [⟨tg, iter, ifs', 0⟩] scope p) pos) (tAsg (tLc (tI G W (evS F (orcs T F k) s)) (tG G t) (tT G Ip.W0 (evI F (orcs T F k) ifs)) (tE G Ip.W0 (ev F (orcs T F k) x)) ((ownN S own).map (·.2))) (gName i)) := by
      cases hc : S.hot with
      | false =>
        exact ps_setLc (own := ownN S own) (c.calm hc).calm hN (c.slot hs.1) hl hsw (ih.s c h2) (blk_ok c h3) (fun s H C cl fp => kG_ok (t := t) (c.blk hc h3 s H C cl fp) h5)
          (fun s H C cl fp => ih.i (c.blk hc h3 s H C cl fp) h6) (fun s H C cl fp => ih.e (c.blk hc h3 s H C cl fp) h7) (folded_of h1 _)
      | true =>
        rw [hc] at hh
        exact ps_setLcH (own := ownN S own) (c.slot hs.1) hl hsw (c.hotc hc) hN (ih.sh c (hh.resolve_left (by decide)) h2) (blk_ok c h3) (fun s H C cl fp p hp => kG_ok (t := t) (c.blkH h3 s H C cl fp p hp) h5)
          (fun s H C cl fp p hp => ih.i (c.blkH h3 s H C cl fp p hp) h6) (fun s H C cl fp p hp => ih.e (c.blkH h3 s H C cl fp p hp) h7) (folded_of h1 _)
    refine ⟨_, key, fun τ H Q h => ?_⟩
    refine cmp_imp (fun i hi => by rw [ownN_snd]; exact h4 i hi) τ H Q ?_
    rw [ownN_snd]
    have e : evL F (orcs T F k) (.cmp own t s ifs x) = cmpM t own (evS F (orcs T F k) s) (evI F (orcs T F k) ifs) (ev F (orcs T F k) x) := by
      funext σ h
      simp only [evL] <;> rfl
    rw [← e]; exact h
  · cases h
theorem set_ok (c : Cok T F k S G W X) {m i : Nat} {x : Str} {px : Pos} {e : Ex} {v : Expr} (h1 : stoOk S i x = true) (h2 : kE m S e v = true) (h3 : (noComp v || (isLC v && (!swpC S x px v || madeL e))) = true) :
    PS X (.Assign [.Name x px] v pos) (tS G W (fun σ h => (ev F (orcs T F k) e σ h).thn σ fun v h1 => .ok (.nx (σ.set i (some v))) h1)) := by
  have hN : X.N.Nodup := by rw [c.hN]; exact c.nd
  have simple : swapsWith v (some (.Name x px)) pos.line X.env = pure false → PS X (.Assign [.Name x px] v pos) (tS G W (fun σ h => (ev F (orcs T F k) e σ h).thn σ fun v h1 => .ok (.nx (σ.set i (some v))) h1)) := fun hs => by
    refine (ps_asg ((snd T F k m).e c h2) (c.sto h1) hs (stores_no2 rfl _) rfl).imp (set_imp fun _ _ _ h => h)
  by_cases hv : noComp v = true
  · exact simple (swaps_no hv _ _ _)
  · simp only [Bool.not_eq_true] at hv
    rw [hv, Bool.false_or] at h3
    simp only [Bool.and_eq_true, Bool.or_eq_true, Bool.not_eq_true'] at h3
    obtain ⟨h3, h4⟩ := h3
    cases hw : swpC S x px v with
    | false => exact simple ((swp_ok c h3 _).trans (by rw [hw]))
    | true =>
      rw [hw] at h4
      replace h4 : madeL e = true := h4.resolve_left (by decide)
      cases m with
      | zero => simp [kE] at h2
      | succ m =>
      cases e <;> first | (cases h4; done) | skip
      · rename_i l
        have hl : kL m S l v = true := by
          rw [kE.eq_def] at h2
          exact h2
        obtain ⟨te, p, q⟩ := setLc_ok (pos := pos) c h3 h1 hw hl
        exact p.imp (set_imp fun τ H Q h => q τ H Q (ofL_imp τ H Q (by
          have e : ev F (orcs T F k) (.ofL l) = fun σ h => (evL F (orcs T F k) l σ h).bind fun vs h1 => (toDs vs h1).bind fun ds h2 => .ok (.d (.list ds)) h2 := by
            funext σ h; simp only [ev]
          rw [← e]; exact h)))
      · rename_i l
        have hl : kL m S l v = true := by
          rw [kE.eq_def] at h2
          exact h2
        obtain ⟨te, p, q⟩ := setLc_ok (pos := pos) c h3 h1 hw hl
        exact p.imp (set_imp fun τ H Q h => q τ H Q (new_imp τ H Q (by
          have e : ev F (orcs T F k) (.new l) = fun σ h => (evL F (orcs T F k) l σ h).bind fun vs h1 => .ok (.ref h1.length) (h1 ++ [.lst vs]) := by
            funext σ h; simp only [ev]
          rw [← e]; exact h)))

theorem snd_st (m : Nat) : ∀ (n : Nat), (∀ {s : St} {st : Stmt}, Sok T F k S G W X → kSt m n S s st = true → PS X st (tS G W (ex F (orcs T F k) s))) ∧ ∀ {ss : List St} {sts : List Stmt}, Sok T F k S G W X → kSts m n S ss sts = true → PSs X sts (tS G W (exs F (orcs T F k) ss))
  | 0 => ⟨fun _ h => by simp [kSt] at h, fun _ h => by simp [kSts] at h⟩
  | n + 1 => by
    have ih := snd_st m n
    have ie := snd T F k m
    refine ⟨fun {s st} so h => ?_, fun {ss sts} so h => ?_⟩
    · have c := so.toCok
      have hN : X.N.Nodup := by rw [c.hN]; exact c.nd
      rw [kSt.eq_def] at h
      simp only at h
      split at h
      · exact isn_nev.cong fun σ h => by simp only [ex]
      · simp only [Bool.and_eq_true] at h
        exact (set_ok c h.1.1 h.1.2 h.2).cong fun σ h => by simp only [ex]
      · simp only [Bool.and_eq_true, decide_eq_true_eq, Bool.not_eq_true', decide_eq_false_iff_not] at h
        obtain ⟨⟨⟨⟨⟨⟨⟨⟨⟨⟨⟨⟨⟨h0, h1⟩, h2⟩, h3⟩, h4⟩, h5⟩, h6⟩, h7⟩, h8⟩, h9⟩, h10⟩, h11⟩, h12⟩, h13⟩ := h
        have lx : ∀ {z : Str}, S.names.lookup z = some .local → X.env.scope.names.lookup z = some .local := fun q => by rw [c.nm]; exact q
        refine ((ps_par (ta := _) (c.calm h0).calm hN (c.slot h1) (c.slot h2) h5 (lx h3) (lx h4) (ia_cons (G := G) (W := W) (ie.e c h12) (ia_cons (ie.e c h13) ia_nil (star_cons h9 _ _)) (star_cons h8 _ _))
          (swapped2 (by unfold Env.blockKind; rw [c.kind]; rfl) (lx h3) (lx h4) h7 h6 h8 h9 h10 h11) rfl).imp (par_imp fun _ _ _ h => h)).cong fun σ h => by simp only [ex]
      · simp only [Bool.and_eq_true] at h
        obtain ⟨⟨⟨h1, h2⟩, h3⟩, h4⟩ := h
        refine (is_asg (ie.e c h4) (kG_ok c h3) (sole_other ?_ _ _) (stores_no h2 _) ?_).cong fun σ h => by simp only [ex] <;> rfl
        · rename_i tg _ _
          cases tg <;> first | (cases h1; done) | rfl
        · rename_i tg _ _
          cases tg <;> first | (cases h1; done) | rfl
      · simp only [Bool.and_eq_true] at h
        obtain ⟨⟨⟨h1, h2⟩, h3⟩, h4⟩ := h
        refine (is_six c.gx c.un (ie.e c h4) (ie.e c h2) (ie.e c h3) (sole_other rfl _ _) (stores_no2 rfl _) rfl ?_).cong fun σ h => by simp only [ex]
        rename_i ei _ _ _
        intro v
        cases ei <;> first | (cases h1; done) | rfl
      · simp only [Bool.and_eq_true] at h
        exact (is_exp (ie.e c h.2) (swaps_no h.1 _ _ _)).cong fun σ h => by simp only [ex]
      · exact is_doc.cong fun σ h => by simp only [ex]
      · exact is_pas.cong fun σ h => by simp only [ex]
      · simp only [Bool.and_eq_true] at h
        exact (is_iff (ie.t c h.1.1) (ih.2 so h.1.2) (ih.2 so h.2)).cong fun σ h => by simp only [ex]
      · simp only [Bool.and_eq_true, Bool.not_eq_true'] at h
        exact (is_for (F := F) so.own (c.calm h.1.1.1.1).calm (ie.s c h.1.1.2) (kG_ok c h.1.2) (ih.2 so h.2) (folded_of h.1.1.1.2 _)).cong fun σ h => by simp only [ex] <;> rfl
      · simp only [Bool.and_eq_true] at h
        exact (is_whl (F := F) so.own (ie.t c h.1) (ih.2 so h.2)).cong fun σ h => by simp only [ex]
      · exact (is_ret (ie.e c h)).cong fun σ h => by simp only [ex]
      · exact is_retN.cong fun σ h => by simp only [ex]
      · exact is_brk.cong fun σ h => by simp only [ex]
      · exact is_cnt.cong fun σ h => by simp only [ex]
      · simp only [Bool.and_eq_true, decide_eq_true_eq, Bool.not_eq_true'] at h
        exact (is_rse (c.calm h.1.1.1).calm so.tk (so.cl _ _ h.1.1.2) (c.gl h.1.2) (dbg1 h.2)).cong fun σ h => by simp only [ex]
      · cases h
    · rw [kSts.eq_def] at h
      simp only at h
      split at h
      · exact is_nil.cong fun σ h => by simp only [exs]
      · simp only [Bool.and_eq_true] at h
        exact (is_cons (ih.1 so h.1) (ih.2 so h.2)).cong fun σ h => by simp only [exs]
      · cases h
end
end Ip

set_option linter.all false
set_option Elab.async false
set_option autoImplicit false
set_option maxRecDepth 100000
/-! The def that tells how a call ended. -/
namespace Ip
open PySem PySem.Spec L2 PyProof.Rows LamX

/-- a look at the names of a def's scope -/
def scK (N P : List Str) (sc : Scope) : Bool :=
  decide (sc.kind = .function) && !sc.isCoroutine && !sc.isGenerator && decide N.Nodup && decide (N.take P.length = P) && P.all (fun x => decide (sc.names.lookup x = some .local) || decide (sc.names.lookup x = some .cell)) && sc.names.all (fun y => !decide (y.2 = .free))
theorem scK_ok {N P : List Str} {sc : Scope} (h : scK N P sc = true) : FnScope N P sc := by
  unfold scK at h
  simp only [Bool.and_eq_true, Bool.not_eq_true', decide_eq_true_eq, List.all_eq_true, Bool.or_eq_true, decide_eq_false_iff_not] at h
  exact ⟨h.1.1.1.1.1.1, h.1.1.1.1.1.2, h.1.1.1.1.2, h.1.1.1.2, h.1.1.2, h.1.2, h.2⟩
/-- such a def: its statement, its slots, the class that it catches, the classes that it asks for, the slot of the answers, what follows, the word and the answers of each class -/
structure TRow where
  x : Str
  st : Stmt
  N : List Str
  exc : Str
  cs : List Str
  kk : Nat
  rest : List St
  ws : List Str
  bs : List (List Bool)
def scT (t : TRow) : Sc := ⟨t.N, (defScope t.st).names, [], [], fun _ => true, true, false, none, []⟩
def isAll (S : Sc) (en : Str) : List Str → List Expr → Bool
  | [], [] => true
  | c :: cs, .Call (.Name f _) [.Name e _, .Name c' _] [] _ :: es => decide (f = "isinstance") && glOk S f && decide (e = en) && visOk S e && dbg e && decide (c' = c) && glOk S c && dbg c && isAll S en cs es
  | _, _ => false
def kFst (S : Sc) (en : Str) (kk : Nat) (cs : List Str) : Stmt → Bool
  | .Assign [.Name kn _] (.List es _) _ => stoOk S kk kn && isAll S en cs es
  | _ => false
def toldB (m n : Nat) (t : TRow) (a en : Str) : List Stmt → Bool
  | [.Try [.Return (some (.Tuple [.Constant (.str z) _ _, .Call (.Name a' _) [] [] _] _ _)) _] [.ExceptHandler (some (.Name e _)) (some n') (b0 :: suite) _] [] [] _] =>
      decide (z = "told") && decide (a' = a) && dbg a && visOk (scT t) a && decide (n' = en) && decide ((defScope t.st).names.lookup en = some .local) && glOk (scT t) e && dbg e && decide (e = t.exc) && kFst (scT t) en t.kk t.cs b0 && kSts m n (scT t) t.rest suite
  | _ => false
def toldC (m n : Nat) (t : TRow) : Bool := match t.N with
  | a :: en :: _ => t.bs.all (fun b => decide (b.length ≤ 1000)) && scK t.N [a] (defScope t.st) && toldB m n t a en (defBody t.st)
  | _ => false
/-- what isinstance says of a class's instances -/
def IsK (K : PySem.W.Frag) (mg : Str → Option Value) (D : Addr) : List Str → List Bool → Prop
  | [], [] => True
  | x :: xs, b :: bs => (∃ C : Addr, mg x = some (.ref C) ∧ PySem.W.kitOne K (.ref D) (.ref C) = some b) ∧ IsK K mg D xs bs
  | _, _ => False
/-- what stands of the classes -/
structure TellK (K : PySem.W.Frag) (mg : Str → Option Value) (ca : List Addr) (t : TRow) : Prop where
  ex : ∃ CS : Addr, mg t.exc = some (.ref CS) ∧ ∀ (c : Nat) (w : Str) (D : Addr), t.ws[c]? = some w → ca[c]? = some D → ExcC K D ∧ PySem.W.exmOne K (.ref D) (.ref CS) = some true ∧ IsK K mg D t.cs (t.bs.getD c [])
/-- what the suite makes of the answers -/
def Tells (F : Nat) (t : TRow) : Prop := ∀ (c : Nat) (w : Str) (C : List Orc) (h : Hq), t.ws[c]? = some w → exs F C t.rest ((List.replicate t.N.length none).set t.kk (some (.d (.list ((t.bs.getD c []).map .bool))))) h = .ok (.rt (.d (.tuple [.str w]))) h

section
variable {X : Cx} {G : Gb} {a D : Addr} {oe : Obj} {pn : List (Addr × Obj)}
theorem glS {S : Sc} {x : Str} (hn : X.env.scope.names = S.names) (h : glOk S x = true) : Gl X x := by
  unfold glOk at h
  show X.env.scope.names.lookup x = _
  rw [hn]; exact of_decide_eq_true h
theorem visS {S : Sc} {x : Str} (hn : X.env.scope.names = S.names) (h : visOk S x = true) : Vis X.env.scope x := by
  unfold visOk at h
  unfold Vis
  rw [hn]
  simp only [Bool.or_eq_true, decide_eq_true_eq] at h
  rcases h with (h | h) | h
  · exact .inl h
  · exact .inr (.inl h)
  · exact .inr (.inr h)
theorem is_all {S : Sc} {en : Str} {i : Nat} (hn : X.env.scope.names = S.names) (hi : X.N[i]? = some en) (hb : X.mg "isinstance" = none) (hC : ExcC X.K D) (hz : Zc (.ref D) none oe) (hf : ∃ vs, oe.data = .fields vs) :
    ∀ {cs : List Str} {es : List Expr} {bs : List Bool}, isAll S en cs es = true → IsK X.K X.mg D cs bs → PA (X.suite a ((a, oe) :: pn)) es (fun τ H Q => τ[i]? = some (some (.ref a)) ∧ Q (bs.map V.bl) H)
  | [], [], [], _, _ => pa_nil.imp fun τ H Q h => h.2
  | [], [], _ :: _, _, h => h.elim
  | c :: cs, [], _, h, _ => by simp [isAll] at h
  | [], _ :: _, _, h, _ => by simp [isAll] at h
  | c :: cs, e :: es, [], _, h => h.elim
  | c :: cs, e :: es, b :: bs, h, hk => by
    unfold isAll at h
    split at h
    · rename_i heq _; cases heq
    · rename_i c1 cs1 f p1 e1 p2 c' p3 p4 es1 heq1 heq2
      cases heq1; cases heq2
      simp only [Bool.and_eq_true, decide_eq_true_eq] at h
      obtain ⟨⟨⟨⟨⟨⟨⟨⟨h1, h2⟩, h3⟩, h4⟩, h5⟩, h6⟩, h7⟩, h8⟩, h9⟩ := h
      obtain ⟨⟨C, hm, hkt⟩, hk2⟩ := hk
      subst h1 h3 h6
      have pv : PE (X.suite a ((a, oe) :: pn)) (.Name e1 p2) (tVar i) := pe_var hi (visS (X := X.suite a ((a, oe) :: pn)) hn h4) (dbg1 h5) (dbg2 h5)
      have pc : PE (X.suite a ((a, oe) :: pn)) (.Name c' p3) (tC (.ref C)) := pe_glob (glS (X := X.suite a ((a, oe) :: pn)) hn h7) hm rfl (dbg1 h8)
      have p1 := pe_callB (X := X.suite a ((a, oe) :: pn)) (pos := p4) (p := p1) (call_isE (pn := pn) hC hz hf) (glS (X := X.suite a ((a, oe) :: pn)) hn h2) hb (by decide +kernel) (pa_cons pv (pa_cons pc pa_nil)) (by decide) (by decide) (by rfl) (by rfl)
      refine (pa_cons p1 (is_all hn hi hb hC hz hf h9 hk2) (by rfl)).imp fun τ H Q ⟨q1, q2⟩ => ?_
      exact ⟨.ref a, q1, .ref C, .ref C, b, rfl, fun u r => r, hkt, q1, q2⟩
    · cases h
end
end Ip

set_option linter.all false
set_option Elab.async false
set_option autoImplicit false
set_option maxRecDepth 100000
/-! The def that tells how a call ended: its promise. -/
namespace Ip
open PySem PySem.Spec L2 PyProof.Rows LamX
theorem tE_mono {G : Gb} {W : WX} {m : Sg → Hq → R Val} {τ : L2.St} {H : Hp} {Q Q' : VK} (h : tE G W m τ H Q) (q : ∀ v H, Q v H → Q' v H) : tE G W m τ H Q' := by
  obtain ⟨Av, s, σ, e, rp, sr, p⟩ := h
  exact ⟨Av, s, σ, e, rp, sr, p.mono q⟩
section
variable {X : Cx} {G : Gb} {a D : Addr} {oe : Obj} {pn : List (Addr × Obj)} {m n F : Nat} {t : TRow} {en : Str}
theorem suite_cok {S : Sc} {F : Nat} (hS : S.defs = []) (hh : S.hot = true) (hlm : S.lam = false) (hN : X.N = S.N) (hnd : S.N.Nodup) (hnm : X.env.scope.names = S.names) (hkd : X.env.scope.kind = .function) (hun : X.A.units + 100 < cLine) (hfn : ∀ x, X.fn x = true) (hb : ∀ x ∈ bltN, X.mg x = none) (hK : G.K = X.K) (hP : G.P = X.prog ∧ G.w = X.w) (hgl : S.gls = [])
    (hz : L2N.Zn (.ref D) none oe) (hf : ∃ vs, oe.data = .fields vs) : Cok [] F 0 S G Ip.W0 (X.suite a ((a, oe) :: pn)) := by
  refine ⟨hN, hnd, hnm, hkd, fun h => absurd (hh.symm.trans h) (by decide), hun, fun _ => ?_, fun h => absurd (hlm.symm.trans h) (by decide), hK, hP, fun x i h => (by rw [hgl] at h; cases h), hb, fun x f h => ?_, Passing.never, fun x _ => hfn x⟩
  · obtain ⟨vs, e⟩ := hf
    exact ⟨(a, oe), ⟨rfl, vs, e, hz.2.2 vs e⟩, List.mem_cons_self⟩
  · rw [hS] at h; cases h
theorem suite_ok {b0 : Stmt} {suite : List Stmt} (hN : X.N = t.N) (hnd : t.N.Nodup) (hnm : X.env.scope.names = (defScope t.st).names) (hkd : X.env.scope.kind = .function) (hun : X.A.units + 100 < cLine) (hfn : ∀ x, X.fn x = true) (hb : ∀ x ∈ bltN, X.mg x = none) (hK : G.K = X.K) (hP : G.P = X.prog ∧ G.w = X.w)
    (hz : L2N.Zn (.ref D) none oe) (hf : ∃ vs, oe.data = .fields vs) (hC : ExcC X.K D) (h1N : t.N[1]? = some en) (h1 : kFst (scT t) en t.kk t.cs b0 = true) (h2 : kSts m n (scT t) t.rest suite = true) {bs : List Bool} (hk : IsK X.K X.mg D t.cs bs) :
    PSs (X.suite a ((a, oe) :: pn)) (b0 :: suite) (fun E τ H => τ[1]? = some (some (.ref a)) ∧ bs.length ≤ sizeLine ∧ ∀ p, H p = none → tS G Ip.W0 (exs F (orcs [] F 0) t.rest) E (τ.set t.kk (some (.ref p))) (upd H p (.lst (bs.map V.bl)))) := by
  have c : Cok [] F 0 (scT t) G Ip.W0 (X.suite a ((a, oe) :: pn)) := suite_cok rfl rfl rfl hN hnd hnm hkd hun hfn hb hK hP rfl hz hf
  have so : Sok [] F 0 (scT t) G Ip.W0 (X.suite a ((a, oe) :: pn)) := ⟨c, fun e s h => h.elim, fun u s' x => by obtain ⟨_, _, _, _, _, _, _, _, _, _, _, _, _, _, _, _, z⟩ := x; exact z.elim, fun x c h => by cases h⟩
  unfold kFst at h1
  split at h1
  · rename_i kn px es p1 p2
    simp only [Bool.and_eq_true] at h1
    have pa := is_all (a := a) (pn := pn) hnm (by rw [hN]; exact h1N) (hb _ (by decide)) hC hz.zc hf h1.2 hk
    refine (pss_cons (ps_asg (pe_lst pa) (c.sto h1.1) (by rfl) (stores_no2 rfl _) rfl) ((snd_st m n).2 so h2)).imp fun E τ H ⟨q1, q2, q3⟩ => ?_
    exact ⟨q1, by rw [List.length_map]; exact q2, fun p hp => q3 p hp⟩
  · cases h1
end
theorem told_ok {P : Program} {w : World} {K : PySem.W.Frag} {mg : Str → Option Value} {base : Heap} {G : Gb} {g : Addr} {fd : FuncData} {m n F : Nat} {t : TRow} (hc : toldC m n t = true) (hb : ∀ x ∈ bltN, mg x = none) (fn : L2.Fun K t.x t.x t.st g fd)
    (bd : ∀ a r, t.N = a :: r → Binds K fd [a] []) (tk : TellK K mg G.ca t) (hK : G.K = K) (hP : G.P = P ∧ G.w = w) (tl : Tells F t) : ToldOk G P w K mg base g t.ws := by
  unfold toldC at hc
  split at hc
  case h_2 => cases hc
  rename_i a en r hN
  simp only [Bool.and_eq_true] at hc
  obtain ⟨⟨hbl, hsc⟩, hc⟩ := hc
  have Sg := scK_ok hsc
  unfold toldB at hc
  split at hc
  case h_2 => cases hc
  rename_i z j1 p1 a' p2 p3 kk p4 p5 e p6 n' b0 suite p7 p8 hbody0
  simp only [Bool.and_eq_true, decide_eq_true_eq] at hc
  obtain ⟨⟨⟨⟨⟨⟨⟨⟨⟨⟨h1, h2⟩, h3⟩, h4⟩, h5⟩, h6⟩, h7⟩, h8⟩, h9⟩, h10⟩, h11⟩ := hc
  subst h1 h2 h5
  obtain ⟨CS, hme, tk⟩ := tk.ex
  rw [← h9] at hme
  obtain ⟨oc, od, kV, doc, pm, an, cdv, ct, osl, rfl, lk, hcd⟩ := fn.ex
  have hbd := bd _ _ hN
  intro X pins τ H s body scope f c' fdl binds Av s3 σ mm Q E hP hw hK2 hmg hbase hr I L lo hco hH rp sr hbody p
  subst hP hw hK2 hmg hbase hH
  have hl : ∀ f : Addr, (L2.start t.N [V.ref f])[0]? = some (some (V.ref f)) := fun f => rfl
  refine LamX.run_ofS (CX := L2N.CX X.prog X.w) (N := t.N) (ps := [a']) (us := [.ref f]) (vs := [.ref f]) (k := 2) lk hcd Sg hr.rm I.env0 (hbd s [.ref f] I.kIn rfl) (.cons rfl .nil) rfl fun _ => ?_
  rw [hbody0]
  have hr2 := hr.deeper (envOfC t.x (defScope t.st) s.heap.objs.size g cdv)
  generalize hZ : cxOf (L2N.CX X.prog X.w) X.prog X.w X.K X.mg X.base t.N t.x (defScope t.st) g cdv X.A X.stack s s3.H E = Z
  have hln : Z.env.kindOf n' = some .local := by subst hZ; exact h6
  have tkz : L2N.Takes Z (fun _ _ _ _ => False) := fun u s' x => by obtain ⟨_, _, _, _, _, _, _, _, _, _, _, _, _, _, _, _, z⟩ := x; exact z.elim
  have try_ := L2N.ps_try_as (X := Z) (i := 1) (n := n') (x := e) (c := .ref CS) (Wout := fun _ _ _ _ => False) (np := p6) (pos := p8) (pos' := p7) (b₀ := b0) (suite := suite)
    (body := [.Return (some (.Tuple [.Constant (.str "told") j1 p1, .Call (.Name a' p2) [] [] p3] kk p4)) p5])
    (tb := fun Wt D τz Hz => ∃ Ech : XK, (∀ cls d σ' H', Ech cls d H' → Wt cls d σ' H') ∧ τz[0]? = some (some (.ref f)) ∧ Hz c' = some (CodeO c' (X.env.qual ++ "<lambda>")) ∧
      tE G (fun c d _ H => Ech c d H) mm τ Hz (fun v H1 => ∀ q, H1 q = none → D.rt (.ref q) (upd H1 q (.tup [.str "told", v]))))
    (ts := fun ax cls d D τz Hz => τz.length = t.N.length → ∃ (c : Nat) (w : Str) (C : Addr), t.ws[c]? = some w ∧ G.ca[c]? = some C ∧ cls = .ref C ∧ d = none ∧ τz[1]? = some (some (.ref ax)) ∧ (t.bs.getD c []).length ≤ sizeLine ∧ ∀ p, Hz p = none → tS G Ip.W0 (exs F (orcs [] F 0) t.rest) D (τz.set t.kk (some (.ref p))) (upd Hz p (.lst ((t.bs.getD c []).map V.bl))))
    (by subst hZ; rfl) (by subst hZ; rfl) (by subst hZ; exact Sg.nd) (by subst hZ; show t.N[1]? = _; rw [hN]; rfl) hln ⟨by subst hZ; exact glS (S := scT t) rfl h7, dbg1 h8, .inl (by subst hZ; exact hme)⟩ tkz ?_ ?_
  · refine ⟨_, pss_one try_, ?_⟩
    -- the reading
    refine ⟨fun cls d H' => ∃ (s' : S3) (c : Nat) (w : Str) (C : Addr), s'.H = H' ∧ RepH G Av s' ∧ t.ws[c]? = some w ∧ G.ca[c]? = some C ∧ cls = .ref C ∧ d = none ∧ ∀ (s4 : S3) (y : V), s4.h = s'.h → RepH G Av s4 → Stp s' s4 → VR G Av s4 (.d (.tuple [.str w])) y → Q y s4.H, ?_, hl f, hco, ⟨Av, s3, σ, rfl, rp, sr, ?_⟩⟩
    · rintro cls d σ' H' ⟨s', c, w, C, rfl, rp', hw, hC, rfl, rfl, hq⟩
      obtain ⟨hx, hxm, hk⟩ := tk c w C hw hC
      refine ⟨true, by subst hZ; exact hxm, fun _ ax hax hlen => ⟨c, w, C, hw, hC, rfl, rfl, ?_, ?_, fun p hp => ?_⟩, fun h => by cases h⟩
      · rw [List.length_set] at hlen
        rw [List.getElem?_set_self (by rw [hlen, hN]; simp)]
      · rw [List.getD_eq_getElem?_getD]
        cases eb : t.bs[c]? with
        | none => exact Nat.zero_le _
        | some b =>
          have := of_decide_eq_true (List.all_eq_true.mp hbl b (List.mem_of_getElem? eb))
          rw [sizeLine_eq]
          show b.length ≤ _
          omega
      · have hlen : σ'.length = t.N.length := by rw [List.length_set] at hlen; exact hlen
        obtain ⟨rp4, st4⟩ := rp'.upd_new (o := .lst ((t.bs.getD c []).map V.bl)) hp
        have nb : ¬ Bad Av ⟨s'.r, s'.h, upd s'.H p (.lst ((t.bs.getD c []).map V.bl))⟩ p := fun z => by
          rcases z with z | ⟨n, z, _⟩
          · exact rp'.av p z hp
          · exact rp'.trk p (List.mem_of_getElem? z) hp
        have bls : ∀ (bs : List Bool) (B : Addr → Prop) (H : Hp), DRs G.K H B (bs.map V.bl) (bs.map PyData.bool) := fun bs B H => by
          induction bs with
          | nil => exact .nil
          | cons b bs ih => exact .cons (.bl b) ih
        refine ⟨Av, ⟨s'.r, s'.h, upd s'.H p (.lst ((t.bs.getD c []).map V.bl))⟩, (List.replicate t.N.length none).set t.kk (some (.d (.list ((t.bs.getD c []).map .bool)))), rfl, rp4, ⟨by simp [hlen], fun i v ei => ?_⟩, ?_⟩
        · by_cases hi : t.kk = i
          · subst hi
            by_cases hlt : t.kk < t.N.length
            · rw [List.getElem?_set_self (by simpa using hlt)] at ei
              cases ei
              exact ⟨.ref p, by rw [List.getElem?_set_self (by simpa [hlen] using hlt)], .d (.lst (.inl ⟨.inl upd_same, nb⟩) (bls _ _ _))⟩
            · rw [List.getElem?_eq_none (by simp; omega)] at ei; cases ei
          · rw [List.getElem?_set_ne hi, List.getElem?_replicate] at ei
            split at ei <;> cases ei
        · show PoS G Ip.W0 Av _ (exs F (orcs [] F 0) t.rest _ s'.h) _
          rw [tl c w _ s'.h hw]
          intro s5 y e5 rp5 st5 v5
          exact hq s5 y e5 rp5 (st4.trans st5 rp4.nd rp4.len) v5
    · revert p
      cases hm : mm σ s3.h with
      | no => exact fun p => p
      | er x h =>
        intro p s' c dx e' rp' st' xr
        obtain ⟨C, hC, rfl, hdx⟩ := xr
        have p : Post G E Av s3 (fun v y s' => VR G Av s' v y) (match t.ws[x.cls]?, x.arg with
          | some w, none => .ok (.d (.tuple [.str w])) h
          | _, _ => .no) Q := p
        cases hw : t.ws[x.cls]? with
        | none => rw [hw] at p; exact p.elim
        | some w =>
          cases ha : x.arg with
          | some _ => rw [hw, ha] at p; exact p.elim
          | none =>
            rw [hw, ha] at p
            exact ⟨s', x.cls, w, C, rfl, rp', hw, hC, rfl, hdx ha, fun s4 y e4 rp4 st4 v4 => p s4 y (e4.trans e') rp4 (st'.trans st4 rp'.nd rp'.len) v4⟩
      | ok v h =>
        intro p s' y e' rp' st' q' q hq
        have p : Post G E Av s3 (fun v y s' => VR G Av s' v y) ((toD v h).bind fun x h1 => .ok (.d (.tuple [.str "told", x])) h1) Q := p
        rw [← e'] at p
        cases e3 : toD v s'.h with
        | er x h => exact absurd e3 (toD_no_er _ _ _ _)
        | no => rw [e3] at p; exact p.elim
        | ok x h2 =>
          rw [e3] at p
          obtain ⟨rp4, st4, d4⟩ := toD_ok rp' q' e3
          obtain ⟨rp5, st5⟩ := rp4.upd_new (o := .tup [.str "told", y]) hq
          have d5 : DRs G.K _ (Bad Av ⟨s'.r, h2, upd s'.H q (.tup [.str "told", y])⟩) [.str "told", y] [.str "told", x] := .cons (.str _) (.cons (st5.dr rp5.nd d4) .nil)
          exact p ⟨s'.r, h2, upd s'.H q (.tup [.str "told", y])⟩ (.ref q) rfl rp5 ((st'.trans st4 rp'.nd rp'.len).trans st5 rp4.nd rp4.len) (.d (.tup (SqT.of upd_same) d5))
  · intro Wt pn xe tkw _
    subst hZ
    refine ⟨fun pins' s' τz Hz D J ⟨Ech, hW, q1, q2, q3⟩ => ?_⟩
    have pc := pe_lamrun (i := 0) (k := 1) (p1 := p2) (p2 := p3) I L lo tkw hW hr2 (fun e1 outer s H => hbody e1 outer s H Ech) (show t.N[0]? = some a' by rw [hN]; rfl) (visS (X := cxOf (L2N.CX X.prog X.w) X.prog X.w X.K X.mg X.base t.N t.x (defScope t.st) g cdv X.A X.stack s s3.H E) (S := scT t) rfl h4) (dbg1 h3) (dbg2 h3)
    refine (pss_one (ps_ret (pe_tup (pa_cons pe_str (pa_cons pc pa_nil (by rfl)) (by rfl))))).run pins' s' τz Hz D J ⟨q1, q2, tE_mono q3 fun v H1 hq => ⟨by show 2 ≤ sizeLine; decide, hq⟩⟩
  · intro ax oe cls d pn hz hf
    refine ⟨fun pins' s' τz Hz D J h => ?_⟩
    obtain ⟨c, w, C, hw, hC, rfl, rfl, q1, q2, q3⟩ := h (by have := J.len; subst hZ; exact this)
    obtain ⟨hx, _, hk⟩ := tk c w C hw hC
    subst hZ
    exact (suite_ok (X := cxOf (L2N.CX X.prog X.w) X.prog X.w X.K X.mg X.base t.N t.x (defScope t.st) g cdv X.A X.stack s s3.H E) (G := G) (F := F) (t := t) (en := n') rfl Sg.nd rfl Sg.kind (by have := hr2.rm.un; show (X.A.deeper (envOfC t.x (defScope t.st) s.heap.objs.size g cdv)).units + 100 < cLine; omega) (fun _ => rfl) hb hK hP hz hf hx (by rw [hN]; rfl) h10 h11 hk).run pins' s' τz Hz D J ⟨q1, q2, q3⟩
end Ip

set_option linter.all false
set_option Elab.async false
set_option autoImplicit false
set_option maxRecDepth 100000
/-! The table of a law's defs; the end of a law. -/
namespace Ip
open PySem L2 PyProof.Rows

/-- a def of the text: its name, how the evaluator has it, the statement, its slots, its parameters -/
structure Row where
  x : Str
  fn : Fn
  st : Stmt
  N : List Str
  ps : List Str
/-- what a law's texts ask beside the defs: the def that tells, the defs that hold lambdas -/
structure Ext where
  tl : Option TRow
  ls : List Str
  gl : List (Str × Int)
def scOf (x : Ext) (defs cls : List (Str × Nat)) (r : Row) : Sc := ⟨r.N, (defScope r.st).names, defs, cls, fun _ => true, false, decide (r.x ∈ x.ls), x.tl.map fun t => (t.x, t.ws), x.gl⟩
def lamQ (x : Str) : Str := x ++ ".<locals>." ++ "<lambda>"
def rowOk (x : Ext) (m n : Nat) (defs cls : List (Str × Nat)) (r : Row) : Bool :=
  scK r.N r.ps (defScope r.st) && decide (r.fn.ns = r.N.length) && decide (r.fn.ps = r.ps.length) && kSts m n (scOf x defs cls r) r.fn.body (defBody r.st)
def defsOk (rows : List Row) (defs : List (Str × Nat)) : Bool := defs.all fun p => decide ((rows[p.2]?).map (·.x) = some p.1)
def fnsOf (rows : List Row) : List Fn := rows.map (·.fn)

structure RowF (K : PySem.W.Frag) (mg : Str → Option Value) (r : Row) (a : Addr) : Prop where
  mg : mg r.x = some (.ref a)
  ex : ∃ fd, L2.Fun K r.x r.x r.st a fd ∧ Binds K fd r.ps []
def Facts (K : PySem.W.Frag) (mg : Str → Option Value) : List Row → List Addr → Prop
  | [], [] => True
  | r :: rs, a :: as => RowF K mg r a ∧ Facts K mg rs as
  | _, _ => False
theorem Facts.get {K : PySem.W.Frag} {mg : Str → Option Value} : ∀ {rows : List Row} {as : List Addr} {f : Nat} {r : Row}, Facts K mg rows as → rows[f]? = some r → ∃ a, as[f]? = some a ∧ RowF K mg r a
  | [], _, _, _, _, e => by simp at e
  | r :: rs, a :: as, 0, _, h, e => by
    have e : some r = some _ := e
    cases e
    exact ⟨a, rfl, h.1⟩
  | r :: rs, a :: as, f + 1, _, h, e => Facts.get (rows := rs) (f := f) h.2 e
  | _ :: _, [], _, _, h, _ => h.elim
/-- a class of the text whose instances may be raised -/
structure ClsK (K : PySem.W.Frag) (mg : Str → Option Value) (x : Str) (C : Addr) : Prop where
  mg : mg x = some (.ref C)
  ex : ∃ (B newId initId : String) (bmB : List Value), ExcBaseFacts B newId initId bmB ∧ PySem.W.excIn K C bmB newId = true
  kp : PySem.W.keepIn K (.ref C) = true
  sub : PySem.W.subIn K (.ref C) (.type "BaseException") = some true
  ty : PySem.W.typeIn K (.ref C) = some (.type "type")
def ClsFs (K : PySem.W.Frag) (mg : Str → Option Value) (cls : List (Str × Nat)) (ca : List Addr) : Prop := ∀ x c, cls.lookup x = some c → ∃ C, ca[c]? = some C ∧ ClsK K mg x C

section
variable {P : Program} {w : World} {K : PySem.W.Frag} {mg : Str → Option Value} {base : Heap}
theorem lookup_mem {α : Type} : ∀ {l : List (Str × α)} {x : Str} {v : α}, l.lookup x = some v → (x, v) ∈ l
  | [], _, _, h => by simp at h
  | (y, u) :: l, x, v, h => by
    rw [List.lookup_cons] at h
    split at h
    · rename_i e
      cases h
      rw [eq_of_beq e]
      exact List.mem_cons_self
    · exact List.mem_cons_of_mem _ (lookup_mem h)
/-- the tables of the defs with lambdas -/
def TabsK (K : PySem.W.Frag) (mg : Str → Option Value) (base : Heap) (tb : List (Addr × Str)) (ls : List Str) : Prop := ∀ x ∈ ls, ∀ (a : Addr) (st : Stmt) (fd : FuncData), mg x = some (.ref a) → L2.Fun K x x st a fd →
  ∃ c P, fd.code = .ref c ∧ LamX.TabB base mg c P ∧ (P, lamQ x) ∈ tb ∧ ∀ p ∈ tb, p.1 = P → p.2 = lamQ x
/-- EVERY DEF OF THE TABLE does what the evaluator says -/
theorem tab_ok {x : Ext} {m n F : Nat} {rows : List Row} {defs cls : List (Str × Nat)} {fa ca : List Addr} {tb : List (Addr × Str)} (hr : ∀ r ∈ rows, rowOk x m n defs cls r = true) (hd : defsOk rows defs = true) (hb : ∀ x ∈ bltN, mg x = none) (hF : Facts K mg rows fa) (hc : ClsFs K mg cls ca)
    (hls : TabsK K mg base tb x.ls) (htl : ∀ t, x.tl = some t → ∃ g, mg t.x = some (.ref g) ∧ PySem.W.keepIn K (.ref g) = true ∧ ToldOk ⟨K, fa, ca, tb, P, w⟩ P w K mg base g t.ws) (hgl : ∀ y i, x.gl.lookup y = some i → ∃ t, mg y = some (.int i t)) :
    ∀ (j f : Nat) (r : Row) (a : Addr) (fd : FuncData), rows[f]? = some r → fa[f]? = some a → L2.Fun K r.x r.x r.st a fd → FnG P w K mg base (3 * j + 4) a fd r.ps (spFn ⟨K, fa, ca, tb, P, w⟩ F (orcs (fnsOf rows) F j) r.fn)
  | j, f, r, a, fd, er, ea, fn => by
    have hrow := hr r (List.mem_of_getElem? er)
    unfold rowOk at hrow
    simp only [Bool.and_eq_true, decide_eq_true_eq] at hrow
    obtain ⟨⟨⟨h1, h2⟩, h3⟩, h4⟩ := hrow
    obtain ⟨oc, od, kV, doc, pm, an, cdv, ct, osl, rfl, lk, hcd⟩ := fn.ex
    have S := scK_ok h1
    refine fnG_of (k := 3 * j + 3) lk hcd S (fun vs H Q E h => by rw [sp_len h, h3]) fun A outer s H vs Q E hroom hsp => ?_
    refine ⟨_, ?_, sp_body h2 hsp⟩
    have key := fun so => (snd_st (T := fnsOf rows) (F := F) (k := j) (S := scOf x defs cls r) (G := ⟨K, fa, ca, tb, P, w⟩) (W := fun c d _ H => E c d H) (X := cxOf (L2N.CX P w) P w K mg base r.N r.x (defScope r.st) a cdv A outer s H E) m n).2 so h4
    have zc := hroom.calm (X := cxOf (L2N.CX P w) P w K mg base r.N r.x (defScope r.st) a cdv A outer s H E) rfl
    refine key ⟨⟨rfl, S.nd, rfl, S.kind, fun _ => zc, zc.un, fun h => (by cases h), fun hl => ?_, rfl, ⟨rfl, rfl⟩, hgl, hb, fun x g hx => ?_, ?_, fun _ _ => rfl⟩, passes_of rfl, L2N.takes_of rfl rfl rfl rfl, fun x c hx => ?_⟩
    · have hl : decide (r.x ∈ x.ls) = true := hl
      obtain ⟨a', ea', rf⟩ := hF.get er
      rw [ea] at ea'
      cases ea'
      obtain ⟨c, Q, e1, e2, e3, e4⟩ := hls r.x (of_decide_eq_true hl) a r.st _ rf.mg fn
      refine ⟨⟨c, Q, e2, e1, e3, e4⟩, hroom.mono (by omega), fun y ws hy => ?_⟩
      have hy : x.tl.map (fun t => (t.x, t.ws)) = some (y, ws) := hy
      cases ht : x.tl with
      | none => rw [ht] at hy; cases hy
      | some t =>
        rw [ht] at hy
        cases hy
        exact htl t ht
    · have hm := lookup_mem hx
      unfold defsOk at hd
      have := List.all_eq_true.mp hd _ hm
      have := of_decide_eq_true this
      cases e : rows[g]? with
      | none => rw [e] at this; cases this
      | some r' =>
        rw [e] at this
        have hx' : r'.x = x := Option.some.inj this
        obtain ⟨a', ea', rf⟩ := hF.get e
        obtain ⟨fd', fn', bd'⟩ := rf.ex
        refine ⟨a', fd', r'.ps, r'.fn, by rw [← hx']; exact rf.mg, ea', fn'.kp, by unfold fnsOf; rw [List.getElem?_map, e]; rfl, fun j' hj => ⟨bd', 3 * j' + 4, hroom.mono (by rw [hj]; unfold dp; split <;> omega), ?_⟩⟩
        subst hj
        exact tab_ok hr hd hb hF hc hls htl hgl j' g r' a' fd' e ea' fn'
    · exact Passing.of_takes (L2N.takes_of rfl rfl rfl rfl)
    · obtain ⟨C, hC, ck⟩ := hc x c hx
      obtain ⟨B, newId, initId, bmB, e1, e2⟩ := ck.ex
      exact ⟨C, B, newId, initId, bmB, hC, ck.mg, e1, e2, ck.kp, raises_own ck.sub ck.ty⟩
end

/-! ### the end of a law -/
/-- what stands at the law's beginning: the script's object; the tables of code objects, all empty -/
structure Beg (cs : List (Addr × Addr)) (H : Hp) : Prop where
  tab : ∀ p ∈ cs, H p.2 = some (.tbl #[])
/-- the law's own def, called with the script: by what the evaluator says of it -/
theorem callG_law {P : Program} {w : World} {K : PySem.W.Frag} {mg mb : Str → Option Value} {k : Nat} {fa a : Addr} {cs : List (Addr × Addr)} {fd : FuncData} {x : Str} {sp : Sp} {s₁ : Shared} {vs : List Value} {ns : List Int}
    (KX : K.In s₁.heap) (hns : s₁.heap.Ns mainGlobals mg) (hb : s₁.heap.Ns builtinsNs mb) (hbb : ∀ x : Str, x ≠ "__name__" → mb x = bootBuiltins x) (hlim : s₁.heap.NoLimit) (hg : s₁.gens = #[])
    (hT : ∀ p ∈ cs, s₁.heap.get? p.2 = some { cls := .none, data := .fields #[] }) (nT : ∀ p ∈ cs, K.lookup p.2 = none) (C : ∀ p ∈ cs, PySem.W.CodeHd s₁.heap p.1 p.2)
    (hbm : ∃ (bm : Addr) (ob : Obj), mg "__builtins__" = some (.ref bm) ∧ bm ≠ builtinsNs ∧ s₁.heap.get? bm = some ob ∧ ob.cls = .type "module" ∧ ob.dict = some builtinsNs ∧ ob.data = .plain)
    (ha : s₁.heap.get? a = some { cls := .type "list", data := .seq vs.toArray }) (hi : IntsAre vs ns) (hl : ns.length ≤ sizeLine) (hr : RoomG k callerA)
    (F : ∀ base : Heap, K.In base → base.Ns mainGlobals mg → (∀ p ∈ cs, LamX.TabB base mg p.1 p.2) → FnG P w K mg base k fa fd [x] sp) (hbind : ∀ (s : Shared) (u : Value), BindsTo s fd ⟨[u], []⟩ [(x, u)])
    (hsp : ∀ H : Hp, Beg cs H → SqL K H a (ns.map V.int) → sp [.ref a] H (fun v _ => v = .bl true) fun _ _ _ => False) :
    codeAny (model P w) callerA (.call (.ref fa) ⟨[.ref a], []⟩) (fun r s' => r = .ok (.ret (.bool true)) ∧ OldK s₁.heap s'.heap ∧ s'.os = s₁.os ∧ AllBare s'.gens) s₁ := by
  have rv := vals_ints hi
  have isT : ∀ b ∈ cs.map (·.2), s₁.heap.get? b = some { cls := .none, data := .fields #[] } := fun b hb => by
    obtain ⟨p, hp, rfl⟩ := List.mem_map.mp hb
    exact hT p hp
  have mem2 : ∀ p ∈ cs, p.2 ∈ cs.map (·.2) := fun p hp => List.mem_map.mpr ⟨p, hp, rfl⟩
  have aT : a ∉ cs.map (·.2) := fun z => by
    have q := isT a z
    rw [ha] at q
    cases q
  obtain ⟨H, hH, hS, hok, hO, hK⟩ : ∃ H : Hp, Beg cs H ∧ SqL K H a (ns.map V.int) ∧ HOk P w H s₁.heap ∧ (∀ b, H b = none ∨ b ∈ cs.map (·.2) ∨ (b = a ∧ ∃ o xs, H b = some (.frz o (.lst xs)))) ∧ (H a ≠ none → K.lookup a = none) := by
    have okT : ∀ (H : Hp) b, b ∈ cs.map (·.2) → ObjOk P w H s₁.heap b (.tbl #[]) := fun H b hb => isT b hb
    cases hk : K.lookup a with
    | some o =>
      have e := KX a o hk
      rw [ha] at e
      cases e
      refine ⟨fun b => if b ∈ cs.map (·.2) then some (.tbl #[]) else none, ⟨fun p hp => if_pos (mem2 p hp)⟩, .inr ⟨_, vs.toArray, _, hk, rfl, rfl, rfl, by rw [List.size_toArray, hi.length]; exact hl, by simpa using rv⟩, fun b u z => ?_, fun b => ?_, fun z => absurd (if_neg aT) z⟩
      · by_cases h : b ∈ cs.map (·.2)
        · cases (if_pos h).symm.trans z; exact okT _ b h
        · cases (if_neg h).symm.trans z
      · by_cases h : b ∈ cs.map (·.2)
        · exact .inr (.inl h)
        · exact .inl (if_neg h)
    | none =>
      refine ⟨fun b => if b = a then some (.frz { cls := .type "list", data := .seq vs.toArray } (.lst (ns.map V.int))) else if b ∈ cs.map (·.2) then some (.tbl #[]) else none,
        ⟨fun p hp => (if_neg fun z : p.2 = a => aT (z ▸ mem2 p hp)).trans (if_pos (mem2 p hp))⟩, .inl (.inr ⟨_, if_pos rfl⟩), fun b u z => ?_, fun b => ?_, fun _ => rfl⟩
      · by_cases h : b = a
        · subst h
          cases (if_pos rfl).symm.trans z
          exact ⟨ha, by rw [List.length_map]; exact hl, vs, _, rv, ha⟩
        · have z := (if_neg h).symm.trans z
          by_cases h2 : b ∈ cs.map (·.2)
          · cases (if_pos h2).symm.trans z; exact okT _ b h2
          · cases (if_neg h2).symm.trans z
      · by_cases h : b = a
        · exact .inr (.inr ⟨h, _, _, if_pos h⟩)
        · by_cases h2 : b ∈ cs.map (·.2)
          · exact .inr (.inl h2)
          · exact .inl ((if_neg h).trans (if_neg h2))
  have free : ∀ {b : Addr} {o : Obj}, s₁.heap.get? b = some o → (∀ vs, o.data ≠ .seq vs 0) → o.data ≠ .fields #[] → H b = none := fun {b o} e h1 h2 => by
    rcases hO b with z | z | ⟨rfl, _⟩
    · exact z
    · rw [isT b z] at e; cases e; exact absurd rfl h2
    · rw [ha] at e; cases e; exact absurd rfl (h1 _)
  have nsK : ∀ {b : Addr} {m : Str → Option Value}, s₁.heap.Ns b m → (hidT s₁.heap H).Ns b m := fun {b m} ⟨o, es, ep, e, d, r⟩ => ⟨o, es, ep, hidT_get e (free e (fun vs z => by rw [d] at z; cases z) fun z => by rw [d] at z; cases z), d, r⟩
  have hKb : K.In (hidT s₁.heap H) := fun b o e => hidT_get (KX b o e) (by
    rcases hO b with z | z | ⟨rfl, x, xs, z⟩
    · exact z
    · obtain ⟨p, hp, rfl⟩ := List.mem_map.mp z
      rw [nT p hp] at e; cases e
    · rw [hK (by rw [z]; exact fun q => by cases q)] at e; cases e)
  have hM : L2.Mod K mg (hidT s₁.heap H) := ⟨hKb, nsK hns, ⟨mb, nsK hb, hbb⟩, let ⟨mc, h1, h2⟩ := hlim; ⟨mc, nsK h1, h2⟩⟩
  have TB : ∀ p ∈ cs, LamX.TabB (hidT s₁.heap H) mg p.1 p.2 := fun p hp => by
    refine ⟨?_, ?_, fun z => ?_⟩
    · obtain ⟨o, us, file, tf, flags, tg, inF, text, tt, e1, r1, r2, r3, rest⟩ := C p hp
      exact ⟨o, us, file, tf, flags, tg, inF, text, tt, hidT_get e1 (free e1 (fun vs z => by rw [r2] at z; cases z) fun z => by rw [r2] at z; cases z; simp at r3), r1, r2, r3, rest⟩
    · obtain ⟨bm, ob, b1, b2, b3, b4, b5, b6⟩ := hbm
      refine ⟨bm, ob, b1, b2, fun q => ?_, fun q => ?_, hidT_get b3 (free b3 (fun vs z => by rw [b6] at z; cases z) fun z => by rw [b6] at z; cases z), b4, b5, b6⟩
      · obtain ⟨o, es, ep, e, hd, _⟩ := hns
        rw [q, e] at b3; cases b3
        rw [hd] at b6; cases b6
      · rw [q, hT p hp] at b3; cases b3; cases b6
    · obtain ⟨o, es, ep, e, hd, _⟩ := hns
      rw [z, hT p hp] at e; cases e; cases hd
  have e0 : Env0 P w K mg (hidT s₁.heap H) callerA [] s₁ H := ⟨rfl, hM, fun b o e => of_hidT e, Nat.le_of_eq (hidT_size _ _), trivial, fun b hb => (by cases hb), hok, .of_eq hg⟩
  refine codeAny_mono ((F _ hKb (nsK hns) TB).run callerA [] s₁ H ⟨[.ref a], []⟩ [.ref a] [.ref a] _ _ hr e0 (hbind s₁ (.ref a)) (.cons rfl .nil) (hsp H hH hS)) fun r s' h => ?_
  cases r with
  | error e => obtain ⟨_, _, _, _, _, _, _, _, _, _, _, _, q⟩ := h; exact q.elim
  | ok fl =>
    cases fl with
    | next => exact False.elim h
    | brk => exact False.elim h
    | cont => exact False.elim h
    | ret u =>
      obtain ⟨v, H', os, bare, un, hok', r', rfl⟩ := h
      obtain rfl : u = Value.bool true := r'
      have key : ∀ b o, b ∉ cs.map (·.2) → s₁.heap.get? b = some o → s'.heap.get? b = some o := fun b o nb e => by
        rcases hO b with z | z | ⟨rfl, x, xs, z⟩
        · exact un.keep b o e z (fun z => by cases z) (by simp)
        · exact absurd z nb
        · obtain ⟨e1, _⟩ := hok b _ z
          obtain ⟨e2, _⟩ := hok' b _ (un.frzs b x _ z)
          rw [e] at e1; cases e1
          exact e2
      have grown : ∀ p ∈ cs, ∃ more : Array Value, s'.heap.get? p.2 = some { cls := .none, data := .fields more } := fun p hp =>
        let ⟨more, z⟩ := un.tbls p.2 #[] (hH.tab p hp)
        ⟨_, hok' p.2 _ z⟩
      refine ⟨rfl, ⟨fun b o e => ?_, fun b o e => ?_⟩, os, bare⟩
      · by_cases hb : b ∈ cs.map (·.2)
        · obtain ⟨p, hp, rfl⟩ := List.mem_map.mp hb
          obtain ⟨more, hm⟩ := grown p hp
          rw [hT p hp] at e
          cases e
          exact .inr (.inl ⟨((C p hp).tab (hT p hp)).isCodeTable, rfl, #[], more, rfl, by rw [Array.empty_append]; exact hm⟩)
        · exact .inl (key b o hb e)
      · by_cases hb : b ∈ cs.map (·.2)
        · obtain ⟨p, hp, rfl⟩ := List.mem_map.mp hb
          obtain ⟨more, hm⟩ := grown p hp
          exact ⟨_, hm⟩
        · exact ⟨o, key b o hb e⟩
/-- what is known at the law's call, and what its def then does -/
def AtLaw (q : Program) (l : PySem.W.OpenLaw) (w : World) (K : PySem.W.Frag) (n : Nat) (x : Str) (mg : Str → Option Value) (fa : Addr) : Prop :=
  ∃ (fd : FuncData) (cs : List (Addr × Addr)) (k : Nat) (sp : Sp), RoomG k callerA ∧ (∀ p ∈ cs, K.lookup p.2 = none) ∧ (∀ p ∈ cs, ∃ y d, (recsOf q).find? (fun e => e.name == y) = some d ∧ PySem.W.tabIn K y = some p) ∧ (∀ (s : Shared) (u : Value), BindsTo s fd ⟨[u], []⟩ [(x, u)]) ∧
    (∀ (H : Hp) (a : Addr) (ns : List Int), ns.length ≤ n → Beg cs H → SqL K H a (ns.map V.int) → sp [.ref a] H (fun v _ => v = .bl true) fun _ _ _ => False) ∧
    ∀ base : Heap, K.In base → base.Ns mainGlobals mg → (∀ p ∈ cs, LamX.TabB base mg p.1 p.2) → FnG l.prog w K mg base k fa fd [x] sp
theorem walk_G {l : PySem.W.OpenLaw} {n : Nat} {q : Program} {loose : List Str} {XP : (Str → Option Value) → Heap → Prop} {YP : World → Heap → Prop} {d : DefRec} {K : Params → PySem.W.Frag} {x : Str}
    (hn : l.most = some n) (hn2 : n ≤ sizeLine) (hdf : d.params.defaults = []) (hY : ∀ (w : World) (h : Heap), YP w h → (K w.params).In h)
    (F : ∀ (w : World) (mg : Str → Option Value) (fa : Addr) (h : Heap), (K w.params).In h → h.Ns mainGlobals mg → mg d.name = some (.ref fa) → AtLaw q l w (K w.params) n x mg fa) :
    PySem.W.WalkO q loose XP YP l.row.toRowW d [] (fun f vs => PySem.call f vs) := by
  refine Att.attach_call hn hdf fun w s₀ s₁ mg mb fa o pm cd doc a vs ns hG hY' ho hd hcd hmg hobj hints hlen hg => ?_
  have KX := hY w _ hY'
  obtain ⟨fd, cs, k, sp, hr, nT, hC, hb, hsp, hF⟩ := F w mg fa _ KX hG.T.g hmg
  have tabs : ∀ p ∈ cs, PySem.W.CodeHd s₁.heap p.1 p.2 ∧ s₁.heap.get? p.2 = some { cls := .none, data := .fields #[] } := fun p hp => by
    obtain ⟨y, d, e1, e2⟩ := hC p hp
    exact PySem.W.tab_of hG.T KX e1 e2
  exact callG_law KX hG.T.g hG.T.b hG.T.builtins hG.T.nolimit hg (fun p hp => (tabs p hp).2) nT (fun p hp => (tabs p hp).1) hG.T.bmain hobj hints (Nat.le_trans hlen hn2) hr hF hb (fun H hO hS => hsp H a ns hlen hO hS)
end Ip

set_option linter.all false
set_option Elab.async false
set_option autoImplicit false
set_option maxRecDepth 100000
/-! What the top has written; a law by its evaluation. -/
namespace Ip
open PySem L2 PyProof.Rows

/-- a def as the top leaves it -/
def DefK (K : PySem.W.Frag) (x : Str) (st : Stmt) (ps : List Str) : Prop := ∃ (f : Addr) (fd : FuncData), PySem.W.nsIn K mainGlobals x = some (some (.ref f)) ∧ L2.Fun K x x st f fd ∧ Binds K fd ps []
theorem dk_mk {K : PySem.W.Frag} {x : Str} {st : Stmt} {ps : List Str} {f : Addr} {oc : Value} {od an : Option Addr} {osl : Array (Option Value)} {kV doc pm cdv ct : Value} (a : PySem.W.nsIn K mainGlobals x = some (some (.ref f)))
    (l : K.lookup f = some ⟨oc, od, .func (PySem.W.fnOf x x (defArgs st) (defBody st) (defScope st) .none kV doc pm an cdv ct), osl⟩) (c : PySem.W.codeIn K cdv x = true) (k : PySem.W.keepIn K (.ref f) = true)
    (b : ∀ (kV doc pm : Value) (an : Option Addr) (cdv ct : Value) (us : List Value), us.length = ps.length → bindArgs (PySem.W.fnOf x x (defArgs st) (defBody st) (defScope st) .none kV doc pm an cdv ct) ⟨us, []⟩ = pure (ps.zip us)) : DefK K x st ps :=
  ⟨f, _, a, fun_mk l c k, (fun_mk l c k).binds b⟩
/-- all of them -/
def DefsK (K : PySem.W.Frag) : List Row → Prop
  | [] => True
  | r :: rs => DefK K r.x r.st r.ps ∧ DefsK K rs
theorem facts_of {K : PySem.W.Frag} {h : Heap} {mg : Str → Option Value} (X : K.In h) (G : h.Ns mainGlobals mg) : ∀ {rows : List Row}, DefsK K rows → ∃ as, Facts K mg rows as
  | [], _ => ⟨[], trivial⟩
  | r :: rs, hd => by
    obtain ⟨f, fd, a, F, b⟩ := hd.1
    obtain ⟨as, q⟩ := facts_of X G hd.2
    exact ⟨f :: as, ⟨PySem.W.mg_of X G a, fd, F, b⟩, q⟩
/-- the built-ins stand -/
def BltK (K : PySem.W.Frag) : List Str → Prop
  | [] => True
  | x :: xs => PySem.W.nsIn K mainGlobals x = some none ∧ BltK K xs
theorem blt_of {K : PySem.W.Frag} {h : Heap} {mg : Str → Option Value} (X : K.In h) (G : h.Ns mainGlobals mg) : ∀ {xs : List Str}, BltK K xs → ∀ x ∈ xs, mg x = none
  | [], _, _, hx => by cases hx
  | y :: ys, hb, x, hx => by
    rcases List.mem_cons.mp hx with rfl | hx
    · exact PySem.W.mg_none_of X G hb.1
    · exact blt_of X G hb.2 x hx
/-- a class as the top leaves it -/
def CK (K : PySem.W.Frag) (x : Str) : Prop := ∃ C : Addr, PySem.W.nsIn K mainGlobals x = some (some (.ref C)) ∧ (∃ (B newId initId : String) (bmB : List Value), ExcBaseFacts B newId initId bmB ∧ PySem.W.excIn K C bmB newId = true) ∧ PySem.W.keepIn K (.ref C) = true ∧
  PySem.W.subIn K (.ref C) (.type "BaseException") = some true ∧ PySem.W.typeIn K (.ref C) = some (.type "type")
def CKs (K : PySem.W.Frag) : List Str → Prop
  | [] => True
  | x :: xs => CK K x ∧ CKs K xs
theorem cks_of {K : PySem.W.Frag} {h : Heap} {mg : Str → Option Value} (X : K.In h) (G : h.Ns mainGlobals mg) : ∀ {xs : List Str}, CKs K xs → ∃ ca : List Addr, ∀ (c : Nat) (x : Str), xs[c]? = some x → ∃ C, ca[c]? = some C ∧ ClsK K mg x C
  | [], _ => ⟨[], fun c x e => by simp at e⟩
  | y :: ys, hc => by
    obtain ⟨C, a, e, k, s, t⟩ := hc.1
    obtain ⟨ca, q⟩ := cks_of X G hc.2
    refine ⟨C :: ca, fun c x ex => ?_⟩
    cases c with
    | zero =>
      have ex : some y = some x := ex
      cases ex
      exact ⟨C, rfl, PySem.W.mg_of X G a, e, k, s, t⟩
    | succ c => exact q c x ex

/-- what is asked of the law's def -/
def spLaw (rows : List Row) (F J : Nat) (law : Fn) (K : PySem.W.Frag) (as ca : List Addr) (tb : List (Addr × Str)) (P : Program) (w : World) : Sp := spFn ⟨K, as, ca, tb, P, w⟩ F (orcs (fnsOf rows) F J) law
theorem ints_dr {K : PySem.W.Frag} {H : Hp} {B : Addr → Prop} : ∀ ns : List Int, DRs K H B (ns.map V.int) (ns.map PyData.int)
  | [] => .nil
  | n :: ns => .cons (.int n) (ints_dr ns)
theorem sp_law {rows : List Row} {F J : Nat} {law : Fn} {K : PySem.W.Frag} {as ca : List Addr} {tb : List (Addr × Str)} {P : Program} {w : World} {H : Hp} {a : Addr} {ns : List Int} (hp : law.ps = 1) (hS : SqL K H a (ns.map V.int)) (hT : LamX.Tabs tb H)
    (plain : ∃ h, run F (orcs (fnsOf rows) F J) law [.d (.list (ns.map .int))] [] = .ok (.d (.bool true)) h) : spLaw rows F J law K as ca tb P w [.ref a] H (fun v _ => v = .bl true) fun _ _ _ => False := by
  obtain ⟨h, e⟩ := plain
  refine ⟨fun _ => False, ⟨[], [], H⟩, [.d (.list (ns.map .int))], rfl, rep_nil (fun a z => z.elim) hT, .cons (.d (.lst ?_ (ints_dr ns))) .nil, hp.symm, ?_⟩
  · rcases hS with q | q
    · exact .inl ⟨q, fun z => (bad_nil.mp z).elim⟩
    · exact .inr (.inr q)
  · show Post _ _ _ _ _ (run F (orcs (fnsOf rows) F J) law [.d (.list (ns.map .int))] []) _
    rw [e]
    intro s' y _ _ _ q
    cases q with
    | d q => cases q; rfl
theorem tabs_beg {cs : List (Addr × Addr)} {tb : List (Addr × Str)} {H : Hp} (h : Beg cs H) (e : ∀ p ∈ tb, p.1 ∈ cs.map (·.2)) : LamX.Tabs tb H := fun p hp => by
  obtain ⟨q, hq, e2⟩ := List.mem_map.mp (e p hp)
  exact LamX.TabS.nil (e2 ▸ h.tab q hq)
/-! ### classes that are told of -/
theorem ck_mk {K : PySem.W.Frag} {x : Str} {C : Addr} (a : PySem.W.nsIn K mainGlobals x = some (some (.ref C))) (e : PySem.W.excIn K C [.type "ValueError", .type "Exception", .type "BaseException", .type "object"] "ValueError.__new__" = true) (k : PySem.W.keepIn K (.ref C) = true)
    (s : PySem.W.subIn K (.ref C) (.type "BaseException") = some true) (t : PySem.W.typeIn K (.ref C) = some (.type "type")) : CK K x := ⟨C, a, ⟨_, _, _, _, PySem.F.excBase_ValueError, e⟩, k, s, t⟩
def IsN (K : PySem.W.Frag) (C : Addr) : List Str → List Bool → Prop
  | [], [] => True
  | x :: xs, b :: bs => (∃ D : Addr, PySem.W.nsIn K mainGlobals x = some (some (.ref D)) ∧ PySem.W.kitOne K (.ref C) (.ref D) = some b) ∧ IsN K C xs bs
  | _, _ => False
def TellL (K : PySem.W.Frag) (CS : Addr) (cs : List Str) : List Str → List Str → List (List Bool) → Prop
  | [], _, _ => True
  | _ :: ws, y :: ys, b :: bs => (∃ C : Addr, PySem.W.nsIn K mainGlobals y = some (some (.ref C)) ∧ ExcC K C ∧ PySem.W.exmOne K (.ref C) (.ref CS) = some true ∧ IsN K C cs b) ∧ TellL K CS cs ws ys bs
  | _, _, _ => False
def TellN (K : PySem.W.Frag) (t : TRow) (xs : List Str) : Prop := ∃ CS : Addr, PySem.W.nsIn K mainGlobals t.exc = some (some (.ref CS)) ∧ TellL K CS t.cs t.ws xs t.bs
theorem isN_mk {K : PySem.W.Frag} {C D : Addr} {x : Str} {xs : List Str} {b : Bool} {bs : List Bool} (a : PySem.W.nsIn K mainGlobals x = some (some (.ref D))) (k : PySem.W.kitOne K (.ref C) (.ref D) = some b) (r : IsN K C xs bs) : IsN K C (x :: xs) (b :: bs) := ⟨⟨D, a, k⟩, r⟩
theorem tellL_mk {K : PySem.W.Frag} {CS C : Addr} {cs : List Str} {w y : Str} {ws ys : List Str} {b : List Bool} {bs : List (List Bool)} (a : PySem.W.nsIn K mainGlobals y = some (some (.ref C)))
    (hg : PySem.W.findIn K (.ref C) "__getattribute__" = some (some (.builtin "BaseException.__getattribute__"))) (hk : PySem.W.findIn K (.ref C) "__getattr__" = some none) (hs : PySem.W.subIn K (.ref C) (.type "BaseException") = some true) (hd : PySem.W.hasDictIn K C = true)
    (ha : PySem.W.findIn K (.ref C) "__class__" = some (some (.builtin "object.__class__"))) (hn : PySem.W.specialIn K (.builtin "object.__class__") "__get__" = some (some (.builtin "getset_descriptor.__get__"))) (ht : PySem.W.takesIn K (.builtin "object.__class__") = some true) (hm : PySem.W.mroIn K C (.type "object") = some true)
    (x1 : PySem.W.subIn K (.ref CS) (.type "BaseException") = some true) (x2 : PySem.W.hasDictIn K CS = true) (x3 : PySem.W.typeIn K (.ref CS) = some (.type "type")) (x4 : PySem.W.subIn K (.ref C) (.ref CS) = some true)
    (i : IsN K C cs b) (r : TellL K CS cs ws ys bs) : TellL K CS cs (w :: ws) (y :: ys) (b :: bs) := ⟨⟨C, a, ⟨hg, hk, hs, hd, ha, hn, ht, hm⟩, PySem.W.exm_ref x1 x2 x3 x4, i⟩, r⟩
theorem tellN_mk {K : PySem.W.Frag} {t : TRow} {xs : List Str} {CS : Addr} (a : PySem.W.nsIn K mainGlobals t.exc = some (some (.ref CS))) (l : TellL K CS t.cs t.ws xs t.bs) : TellN K t xs := ⟨CS, a, l⟩
theorem isK_of {K : PySem.W.Frag} {h : Heap} {mg : Str → Option Value} {C : Addr} (X : K.In h) (G : h.Ns mainGlobals mg) : ∀ {xs : List Str} {bs : List Bool}, IsN K C xs bs → IsK K mg C xs bs
  | [], [], _ => trivial
  | x :: xs, b :: bs, ⟨⟨D, a, k⟩, r⟩ => ⟨⟨D, PySem.W.mg_of X G a, k⟩, isK_of X G r⟩
  | [], _ :: _, h => h.elim
  | _ :: _, [], h => h.elim
theorem tellL_of {K : PySem.W.Frag} {h : Heap} {mg : Str → Option Value} {CS : Addr} {cs : List Str} (X : K.In h) (G : h.Ns mainGlobals mg) : ∀ {ws ys : List Str} {bs : List (List Bool)} {ca : List Addr}, TellL K CS cs ws ys bs → (∀ (c : Nat) (x : Str), ys[c]? = some x → ∃ C, ca[c]? = some C ∧ mg x = some (.ref C)) →
    ∀ (c : Nat) (w : Str) (D : Addr), ws[c]? = some w → ca[c]? = some D → ExcC K D ∧ PySem.W.exmOne K (.ref D) (.ref CS) = some true ∧ IsK K mg D cs (bs.getD c [])
  | [], _, _, _, _, _, c, w, D, hw, _ => by simp at hw
  | _ :: ws, y :: ys, b :: bs, ca, ⟨⟨C, a, e, x, i⟩, r⟩, hc, 0, w, D, hw, hD => by
    obtain ⟨C2, h1, h2⟩ := hc 0 y rfl
    rw [PySem.W.mg_of X G a] at h2
    cases h2
    rw [hD] at h1
    cases h1
    exact ⟨e, x, isK_of X G i⟩
  | _ :: ws, y :: ys, b :: bs, [], ⟨_, r⟩, hc, c + 1, w, D, hw, hD => by simp at hD
  | _ :: ws, y :: ys, b :: bs, _ :: ca, ⟨_, r⟩, hc, c + 1, w, D, hw, hD => tellL_of X G (bs := bs) (ca := ca) r (fun c x e => hc (c + 1) x e) c w D hw hD
  | _ :: _, [], _, _, h, _, _, _, _, _, _ => h.elim
  | _ :: _, _ :: _, [], _, h, _, _, _, _, _, _ => h.elim
/-! ### tables of the defs with lambdas -/
def LamsK (q : Program) (K : PySem.W.Frag) : List Str → List (Addr × Addr) → Prop
  | [], [] => True
  | y :: ys, p :: ps => (PySem.W.tabIn K y = some p ∧ K.lookup p.2 = none ∧ ∃ d, (recsOf q).find? (fun e => e.name == y) = some d) ∧ LamsK q K ys ps
  | _, _ => False
theorem lamsK_mk {q : Program} {K : PySem.W.Frag} {y : Str} {ys : List Str} {c P : Addr} {ps : List (Addr × Addr)} {d : DefRec} (t : PySem.W.tabIn K y = some (c, P)) (n : K.lookup P = none) (f : (recsOf q).find? (fun e => e.name == y) = some d) (r : LamsK q K ys ps) : LamsK q K (y :: ys) ((c, P) :: ps) := ⟨⟨t, n, d, f⟩, r⟩
theorem tabIn_mk {K : PySem.W.Frag} {x : Str} {f c P : Addr} {oc o1 : Value} {od o2 : Option Addr} {osl o3 : Array (Option Value)} {fd : FuncData} {vs : Array Value} (a : PySem.W.nsIn K mainGlobals x = some (some (.ref f))) (l : K.lookup f = some ⟨oc, od, .func fd, osl⟩) (hc : fd.code = .ref c)
    (l2 : K.lookup c = some ⟨o1, o2, .fields vs, o3⟩) (hv : (vs[11]? : Option Value) = some (.ref P)) : PySem.W.tabIn K x = some (c, P) := by
  unfold PySem.W.tabIn
  rw [a]; simp only; rw [l]; simp only; rw [hc]; simp only; rw [l2]; simp only; rw [hv]
theorem lamsK_nil {q : Program} {K : PySem.W.Frag} : LamsK q K [] [] := trivial
def tbOf : List Str → List (Addr × Addr) → List (Addr × Str)
  | y :: ys, p :: ps => (p.2, lamQ y) :: tbOf ys ps
  | _, _ => []
theorem tbOf_mem : ∀ {ys : List Str} {ps : List (Addr × Addr)} {e : Addr × Str}, e ∈ tbOf ys ps → e.1 ∈ ps.map (·.2)
  | [], _, _, h => by simp [tbOf] at h
  | _ :: _, [], _, h => by simp [tbOf] at h
  | y :: ys, p :: ps, e, h => by
    rcases List.mem_cons.mp h with rfl | h
    · exact List.mem_cons_self
    · exact List.mem_cons_of_mem _ (tbOf_mem h)
theorem lams_mem {q : Program} {K : PySem.W.Frag} : ∀ {ys : List Str} {ps : List (Addr × Addr)}, LamsK q K ys ps → ∀ p ∈ ps, K.lookup p.2 = none ∧ ∃ y d, (recsOf q).find? (fun e => e.name == y) = some d ∧ PySem.W.tabIn K y = some p
  | [], [], _, p, hp => by cases hp
  | y :: ys, p :: ps, ⟨⟨t, n, d, f⟩, r⟩, p', hp => by
    rcases List.mem_cons.mp hp with rfl | hp
    · exact ⟨n, y, d, f, t⟩
    · exact lams_mem r p' hp
  | [], _ :: _, h, _, _ => h.elim
  | _ :: _, [], h, _, _ => h.elim
theorem lams_at {q : Program} {K : PySem.W.Frag} : ∀ {ys : List Str} {ps : List (Addr × Addr)}, LamsK q K ys ps → (ps.map (·.2)).Nodup → ∀ y ∈ ys, ∃ p ∈ ps, PySem.W.tabIn K y = some p ∧ (p.2, lamQ y) ∈ tbOf ys ps ∧ ∀ e ∈ tbOf ys ps, e.1 = p.2 → e.2 = lamQ y
  | [], [], _, _, y, hy => by cases hy
  | z :: ys, p :: ps, ⟨⟨t, _⟩, r⟩, nd, y, hy => by
    rw [List.map_cons, List.nodup_cons] at nd
    by_cases hz : y = z
    · subst hz
      refine ⟨p, List.mem_cons_self, t, List.mem_cons_self, fun e he h => ?_⟩
      rcases List.mem_cons.mp he with rfl | he
      · rfl
      · exact absurd (h ▸ tbOf_mem he) nd.1
    · obtain ⟨p', h1, h2, h3, h4⟩ := lams_at r nd.2 y ((List.mem_cons.mp hy).resolve_left hz)
      refine ⟨p', List.mem_cons_of_mem _ h1, h2, List.mem_cons_of_mem _ h3, fun e he h => ?_⟩
      rcases List.mem_cons.mp he with rfl | he
      · exact absurd (List.mem_map.mpr ⟨p', h1, h.symm⟩) nd.1
      · exact h4 e he h
  | [], _ :: _, h, _, _, _ => h.elim
  | _ :: _, [], h, _, _, _ => h.elim
theorem tabs_of {q : Program} {K : PySem.W.Frag} {h base : Heap} {mg : Str → Option Value} {ls : List Str} {cs : List (Addr × Addr)} (X : K.In h) (G : h.Ns mainGlobals mg) (L : LamsK q K ls cs) (nd : (cs.map (·.2)).Nodup) (hB : ∀ p ∈ cs, LamX.TabB base mg p.1 p.2) : TabsK K mg base (tbOf ls cs) ls := fun y hy a st fd hm F => by
  obtain ⟨⟨c, P⟩, h1, h2, h3, h4⟩ := lams_at L nd y hy
  refine ⟨c, P, ?_, hB _ h1, h3, h4⟩
  obtain ⟨oc, od, kV, doc, pm, an, cdv, ct, osl, rfl, lk, hcd⟩ := F.ex
  unfold PySem.W.tabIn at h2
  split at h2
  · rename_i f hf
    have e1 := PySem.W.mg_of X G hf
    rw [hm] at e1
    cases e1
    rw [lk] at h2
    simp only at h2
    split at h2
    · split at h2
      · split at h2
        · cases h2; first | rfl | assumption
        · cases h2
      · cases h2
    · cases h2
  · cases h2
/-- what the def that tells asks of the top -/
structure TellT (K : PySem.W.Frag) (m n F : Nat) (x : Ext) (xs : List Str) : Prop where
  ok : ∀ t, x.tl = some t → toldC m n t = true ∧ (∃ a r, t.N = a :: r ∧ DefK K t.x t.st [a]) ∧ TellN K t xs ∧ Tells F t
theorem tellT_none {K : PySem.W.Frag} {m n F : Nat} {ls xs : List Str} {gl : List (Str × Int)} : TellT K m n F ⟨none, ls, gl⟩ xs := ⟨fun t h => by cases h⟩
theorem tellT_some {K : PySem.W.Frag} {m n F : Nat} {ls xs : List Str} {t : TRow} {a : Str} {r : List Str} (h1 : toldC m n t = true) (h2 : t.N = a :: r) (h3 : DefK K t.x t.st [a]) (h4 : TellN K t xs) (h5 : Tells F t) {gl : List (Str × Int)} : TellT K m n F ⟨some t, ls, gl⟩ xs :=
  ⟨fun t' h => by cases h; exact ⟨h1, ⟨a, r, h2, h3⟩, h4, h5⟩⟩
/-- the ints that the top writes -/
def GlsK (K : PySem.W.Frag) : List (Str × Int) → Prop
  | [] => True
  | p :: ps => (∃ t, PySem.W.nsIn K mainGlobals p.1 = some (some (.int p.2 t))) ∧ GlsK K ps
theorem gls_mk {K : PySem.W.Frag} {x : Str} {i : Int} {t : Tok} {ps : List (Str × Int)} (a : PySem.W.nsIn K mainGlobals x = some (some (.int i t))) (r : GlsK K ps) : GlsK K ((x, i) :: ps) := ⟨⟨t, a⟩, r⟩
theorem gls_of {K : PySem.W.Frag} {h : Heap} {mg : Str → Option Value} (X : K.In h) (G : h.Ns mainGlobals mg) : ∀ {xs : List (Str × Int)}, GlsK K xs → ∀ y i, xs.lookup y = some i → ∃ t, mg y = some (.int i t)
  | [], _, y, i, e => by simp at e
  | (x, j) :: xs, ⟨⟨t, a⟩, r⟩, y, i, e => by
    rw [List.lookup_cons] at e
    split at e
    · rename_i hb
      cases e
      rw [eq_of_beq hb]
      exact ⟨t, PySem.W.mg_of X G a⟩
    · exact gls_of X G r y i e
/-- all that the top must have left, and the law's def does what the evaluator says -/
theorem all_mk {ex : Ext} {q : Program} {l : PySem.W.OpenLaw} {w : World} {K : PySem.W.Frag} {h : Heap} {mg : Str → Option Value} {fa : Addr} {rows : List Row} {defs cls : List (Str × Nat)} {m n F J f N : Nat} {r : Row} {x : Str} {xs : List Str} {cs : List (Addr × Addr)} (hr : ∀ r ∈ rows, rowOk ex m n defs cls r = true) (hd : defsOk rows defs = true)
    (hroom : RoomG (3 * J + 4) callerA) (hf : rows[f]? = some r) (hx : r.x = "law") (hps : r.ps = [x]) (hfp : r.fn.ps = 1) (hcl : cls.all (fun p => decide (xs[p.2]? = some p.1)) = true)
    (hbind : ∀ (kV doc pm : Value) (an : Option Addr) (cdv ct : Value) (s : Shared) (v : Value), BindsTo s (PySem.W.fnOf r.x r.x (defArgs r.st) (defBody r.st) (defScope r.st) .none kV doc pm an cdv ct) ⟨[v], []⟩ [(x, v)])
    (plain : ∀ ns : List Int, ns.length ≤ N → ∃ h, run F (orcs (fnsOf rows) F J) r.fn [.d (.list (ns.map .int))] [] = .ok (.d (.bool true)) h)
    (X : K.In h) (G : h.Ns mainGlobals mg) (hfa : mg "law" = some (.ref fa)) (dk : DefsK K rows) (bk : BltK K bltN) (ck : CKs K xs) (lk : LamsK q K ex.ls cs) (nd : (cs.map (·.2)).Nodup) (tt : TellT K m n F ex xs) (gk : GlsK K ex.gl) : AtLaw q l w K N x mg fa := by
  obtain ⟨as, hF⟩ := facts_of X G dk
  obtain ⟨ca, hC⟩ := cks_of X G ck
  obtain ⟨a, ea, rf⟩ := hF.get hf
  obtain ⟨fd, fn, bd⟩ := rf.ex
  have e : fa = a := by
    have := rf.mg
    rw [hx, hfa] at this
    cases this; rfl
  subst e
  refine ⟨fd, cs, 3 * J + 4, spLaw rows F J r.fn K as ca (tbOf ex.ls cs) l.prog w, hroom, fun p hp => (lams_mem lk p hp).1, fun p hp => (lams_mem lk p hp).2, ?_, fun H a ns hl hB hS => sp_law hfp hS (tabs_beg hB fun p hp => tbOf_mem hp) (plain ns hl), fun base KB GB TB => ?_⟩
  · obtain ⟨oc, od, kV, doc, pm, an, cdv, ct, osl, rfl, lk, hcd⟩ := fn.ex
    exact hbind kV doc pm an cdv ct
  · have hcls : ClsFs K mg cls ca := fun y c hy => by
      have := List.all_eq_true.mp hcl _ (lookup_mem hy)
      exact hC c y (of_decide_eq_true this)
    have t := tab_ok (x := ex) (P := l.prog) (w := w) (base := base) (F := F) (tb := tbOf ex.ls cs) hr hd (blt_of X G bk) hF hcls (tabs_of X G lk nd TB) (fun t ht => by
      obtain ⟨h1, ⟨a0, r0, h2, f0, fd0, a1, F0, b0⟩, ⟨CS, aS, h4⟩, h5⟩ := tt.ok t ht
      refine ⟨f0, PySem.W.mg_of X G a1, F0.kp, told_ok (F := F) h1 (blt_of X G bk) F0 (fun a r e => ?_) ⟨CS, PySem.W.mg_of X G aS, tellL_of X G h4 fun c y e => ?_⟩ rfl ⟨rfl, rfl⟩ h5⟩
      · rw [h2] at e; cases e; exact b0
      · obtain ⟨C, e1, e2⟩ := hC c y e
        exact ⟨C, e1, e2.mg⟩) (gls_of X G gk) J f r fa fd hf ea fn
    rw [hps] at t
    exact t
end Ip

set_option linter.all false
set_option Elab.async false
set_option autoImplicit false
set_option maxRecDepth 100000
/-! Running the evaluator in a proof. -/
namespace Ip
open PySem

section
variable {h : Hq} {σ : Sg} {W j : Nat} {C : List Orc} {T : List Fn}
@[simp] theorem peek_d (x : D) : peek h (.d x) = some x := rfl
@[simp] theorem binV_d (o : Bop) (x y : D) : binV o (.d x) (.d y) h = match binD o x y with
    | some c => .ok (.d c) h
    | none => .no := rfl
@[simp] theorem cmpV_d (o : Cop) (x y : D) : cmpV o (.d x) (.d y) h = match cmpD o x y with
    | some c => .ok c h
    | none => .no := rfl
@[simp] theorem binA_i (o : Bop) (i k : Int) : binA o (.d (.int i)) (.d (.int k)) h = binV o (.d (.int i)) (.d (.int k)) h := by
  unfold binA
  cases e : binV o (.d (.int i)) (.d (.int k)) h with
  | ok _ _ => rfl
  | er _ _ => rfl
  | no => cases o <;> rfl
@[simp] theorem binA_s (o : Bop) (i k : Str) : binA o (.d (.str i)) (.d (.str k)) h = binV o (.d (.str i)) (.d (.str k)) h := by
  unfold binA
  cases e : binV o (.d (.str i)) (.d (.str k)) h with
  | ok _ _ => rfl
  | er _ _ => rfl
  | no => cases o <;> rfl
@[simp] theorem binD_add (i k : Int) : binD .add (.int i) (.int k) = some (.int (i + k)) := rfl
@[simp] theorem binD_sub (i k : Int) : binD .sub (.int i) (.int k) = some (.int (i - k)) := rfl
@[simp] theorem binD_mul (i k : Int) : binD .mul (.int i) (.int k) = if okMul i k then some (.int (i * k)) else none := rfl
@[simp] theorem binD_fdiv (i k : Int) : binD .fdiv (.int i) (.int k) = if okDiv k then some (.int (i.fdiv k)) else none := rfl
@[simp] theorem binD_mod (i k : Int) : binD .mod (.int i) (.int k) = if k = 0 then none else some (.int (i.fmod k)) := rfl
@[simp] theorem cmpD_lt (i k : Int) : cmpD .lt (.int i) (.int k) = some (decide (i < k)) := rfl
@[simp] theorem cmpD_le (i k : Int) : cmpD .le (.int i) (.int k) = some (decide (i ≤ k)) := rfl
@[simp] theorem cmpD_gt (i k : Int) : cmpD .gt (.int i) (.int k) = some (decide (k < i)) := rfl
@[simp] theorem cmpD_ge (i k : Int) : cmpD .ge (.int i) (.int k) = some (decide (k ≤ i)) := rfl
@[simp] theorem cmpD_eqi (i k : Int) : cmpD .eq (.int i) (.int k) = some (decide (i = k)) := rfl
@[simp] theorem cmpD_nei (i k : Int) : cmpD .ne (.int i) (.int k) = some (!decide (i = k)) := rfl
@[simp] theorem cmpD_eqs (i k : Str) : cmpD .eq (.str i) (.str k) = some (decide (i = k)) := rfl
@[simp] theorem cmpD_nes (i k : Str) : cmpD .ne (.str i) (.str k) = some (!decide (i = k)) := rfl
@[simp] theorem tru_b (b : Bool) : tru (.d (.bool b)) h = .ok b h := rfl
@[simp] theorem tru_i (i : Int) : tru (.d (.int i)) h = .ok (i != 0) h := rfl
@[simp] theorem intV_i (i : Int) : intV (.d (.int i)) = some i := rfl
@[simp] theorem prmV_1 (p : Prm) (x : D) : prmV p [.d x] h = match prmD p [x] with
    | some c => .ok (.d c) h
    | none => .no := rfl
@[simp] theorem prmV_2 (p : Prm) (x y : D) : prmV p [.d x, .d y] h = match prmD p [x, y] with
    | some c => .ok (.d c) h
    | none => .no := rfl
@[simp] theorem prm_abs (i : Int) : prmD .abs [.int i] = some (.int (if i < 0 then -i else i)) := rfl
@[simp] theorem prm_int (i : Int) : prmD .int [.int i] = some (.int i) := rfl
@[simp] theorem prm_intb (b : Bool) : prmD .int [.bool b] = some (.int (if b then 1 else 0)) := rfl
@[simp] theorem prm_lenl (xs : List D) : prmD .len [.list xs] = some (.int xs.length) := rfl
@[simp] theorem prm_lent (xs : List D) : prmD .len [.tuple xs] = some (.int xs.length) := rfl
@[simp] theorem prm_max2 (i k : Int) : prmD .max2 [.int i, .int k] = some (.int (if k > i then k else i)) := rfl
@[simp] theorem prm_min2 (i k : Int) : prmD .min2 [.int i, .int k] = some (.int (if k < i then k else i)) := rfl
@[simp] theorem toD_d (x : D) : toD (.d x) h = .ok x h := rfl
@[simp] theorem toDs_nil : toDs [] h = .ok [] h := rfl
@[simp] theorem toDs_cons (v : Val) (vs : List Val) : toDs (v :: vs) h = (toD v h).bind fun x h1 => (toDs vs h1).bind fun xs h2 => .ok (x :: xs) h2 := rfl
theorem toDs_map (xs : List D) : toDs (xs.map .d) h = .ok xs h := by
  induction xs with
  | nil => rfl
  | cons x xs ih => simp only [List.map_cons, toDs_cons, toD_d, R.bind_ok, ih]
/-- a text's items by a known place -/
theorem ixV_at {x : Val} {vs : List Val} {v : Val} {i : Int} (e : els h x = some vs) (q : atD vs i = some v) : ixV x (.d (.int i)) h = .ok v h := by
  have hd : dctR h x = none := by
    cases x with
    | d _ => rfl
    | fn _ => rfl
    | ref n =>
      unfold els at e
      simp only at e
      unfold dctR
      simp only
      split at e <;> rename_i e1 <;> first | (rw [e1]; done) | (cases e; done) | skip
      all_goals first | rfl | (simp only [e1]) | skip
  unfold ixV ixW
  simp only [hd, e, q]
@[simp] theorem ixV_t (xs : List D) (i : Int) : ixV (.d (.tuple xs)) (.d (.int i)) h = match atD (xs.map .d) i with
    | some v => .ok v h
    | none => .no := rfl
@[simp] theorem ixV_l (xs : List D) (i : Int) : ixV (.d (.list xs)) (.d (.int i)) h = match atD (xs.map .d) i with
    | some v => .ok v h
    | none => .no := rfl
@[simp] theorem atD_0 (v : Val) (vs : List Val) : atD (v :: vs) 0 = some v := by
  unfold atD ixn
  simp
@[simp] theorem atD_1 (v w : Val) (vs : List Val) : atD (v :: w :: vs) 1 = some w := by
  have : (1 : Int) < ((v :: w :: vs).length : Nat) := by simp only [List.length_cons]; omega
  unfold atD ixn
  rw [if_pos (by decide), if_pos this]
  rfl
theorem atD_nat {vs : List Val} {n : Nat} (hn : n < vs.length) : atD vs (n : Int) = some vs[n] := by
  unfold atD ixn
  rw [if_pos (by omega), if_pos (by omega)]
  simp [hn]
/-- a loop's test, a loop's body, a comprehension's item -/
def cnd (W : Nat) (C : List Orc) (c : Ex) (σ : Sg) (h : Hq) : R Bool := tst (ev W C c) σ h
def bdy (W : Nat) (C : List Orc) (b : List St) (σ : Sg) (h : Hq) : RF := exs W C b σ h
def itm (W : Nat) (C : List Orc) (own : List Nat) (t : Tgt) (ifs : List Ex) (e : Ex) (σ : Sg) (v : Val) (h : Hq) : R (List Val) := match bindT h t v (wipe σ own) with
  | none => .no
  | some σ' => ((evI W C ifs σ' h).bind fun k h2 => if k then (ev W C e σ' h2).bind fun x h3 => .ok [x] h3 else .ok [] h2).quiet
@[simp] theorem e_lit (x : D) : ev W C (.lit x) σ h = .ok (.d x) h := by simp only [ev] <;> rfl
@[simp] theorem e_var (i : Nat) : ev W C (.var i) σ h = match σ[i]? with
    | some (some v) => .ok v h
    | _ => .no := by simp only [ev] <;> rfl
@[simp] theorem e_fnv (f : Nat) : ev W C (.fnv f) σ h = .ok (.fn f) h := by simp only [ev] <;> rfl
@[simp] theorem e_bin (o : Bop) (a b : Ex) : ev W C (.bin o a b) σ h = (ev W C a σ h).bind fun x h1 => (ev W C b σ h1).bind fun y h2 => binA o x y h2 := by simp only [ev] <;> rfl
@[simp] theorem e_neg (a : Ex) : ev W C (.neg a) σ h = (ev W C a σ h).bind fun x h1 => match intV x with
    | some i => .ok (.d (.int (-i))) h1
    | none => .no := by simp only [ev] <;> rfl
@[simp] theorem e_cmp (o : Cop) (a b : Ex) : ev W C (.cmp o a b) σ h = (ev W C a σ h).bind fun x h1 => (ev W C b σ h1).bind fun y h2 => (cmpV o x y h2).bind fun c h3 => .ok (.d (.bool c)) h3 := by simp only [ev] <;> rfl
@[simp] theorem e_chn (o o' : Cop) (a b c : Ex) : ev W C (.chn o o' a b c) σ h = (ev W C a σ h).bind fun x h1 => (ev W C b σ h1).bind fun y h2 => (cmpV o x y h2).bind fun k h3 =>
      if k then (ev W C c σ h3).bind fun z h4 => (cmpV o' y z h4).bind fun k' h5 => .ok (.d (.bool k')) h5 else .ok (.d (.bool false)) h3 := by simp only [ev] <;> rfl
@[simp] theorem e_and (a b : Ex) : ev W C (.and_ a b) σ h = (ev W C a σ h).bind fun x h1 => (tru x h1).bind fun k h2 => if k then ev W C b σ h2 else .ok x h2 := by simp only [ev] <;> rfl
@[simp] theorem e_or (a b : Ex) : ev W C (.or_ a b) σ h = (ev W C a σ h).bind fun x h1 => (tru x h1).bind fun k h2 => if k then .ok x h2 else ev W C b σ h2 := by simp only [ev] <;> rfl
@[simp] theorem e_not (a : Ex) : ev W C (.not_ a) σ h = (ev W C a σ h).bind fun x h1 => (tru x h1).bind fun k h2 => .ok (.d (.bool (!k))) h2 := by simp only [ev] <;> rfl
@[simp] theorem e_ife (c a b : Ex) : ev W C (.ife c a b) σ h = (ev W C c σ h).bind fun x h1 => (tru x h1).bind fun k h2 => if k then ev W C a σ h2 else ev W C b σ h2 := by simp only [ev] <;> rfl
@[simp] theorem e_tup (xs : List Ex) : ev W C (.tup xs) σ h = (evs W C xs σ h).bind fun vs h1 => (toDs vs h1).bind fun ds h2 => .ok (.d (.tuple ds)) h2 := by simp only [ev] <;> rfl
@[simp] theorem e_ofL (l : Lx) : ev W C (.ofL l) σ h = (evL W C l σ h).bind fun vs h1 => (toDs vs h1).bind fun ds h2 => .ok (.d (.list ds)) h2 := by simp only [ev] <;> rfl
@[simp] theorem e_new (l : Lx) : ev W C (.new l) σ h = (evL W C l σ h).bind fun vs h1 => .ok (.ref h1.length) (h1 ++ [.lst vs]) := by simp only [ev] <;> rfl
@[simp] theorem e_ix (a b : Ex) : ev W C (.ix a b) σ h = (ev W C a σ h).bind fun x h1 => (ev W C b σ h1).bind fun y h2 => ixV x y h2 := by simp only [ev] <;> rfl
@[simp] theorem e_slc (a : Ex) (lo hi : Option Ex) : ev W C (.slc a lo hi) σ h = (ev W C a σ h).bind fun x h1 => (evO W C lo σ h1).bind fun l h2 => (evO W C hi σ h2).bind fun u h3 => slcV x l u h3 := by simp only [ev] <;> rfl
@[simp] theorem e_prm (p : Prm) (xs : List Ex) : ev W C (.prm p xs) σ h = (evs W C xs σ h).bind fun vs h1 => prmV p vs h1 := by simp only [ev] <;> rfl
@[simp] theorem e_app (o a : Ex) : ev W C (.app o a) σ h = (ev W C o σ h).bind fun x h1 => (lstV x h1).bind fun _ h1 => (ev W C a σ h1).bind fun y h2 => appV x y h2 := by simp only [ev] <;> rfl
@[simp] theorem e_fmt (a : Ex) : ev W C (.fmt a) σ h = (ev W C a σ h).bind fun x h1 => match partS x with
    | some s => .ok (.d (.str s)) h1
    | none => .no := by simp only [ev] <;> rfl
@[simp] theorem e_fst (xs : List Ex) : ev W C (.fst xs) σ h = (evJ W C xs Str.empty σ h).bind fun s h1 => .ok (.d (.str s)) h1 := by simp only [ev] <;> rfl
@[simp] theorem e_frz (a : Ex) : ev W C (.frz a) σ h = (ev W C a σ h).bind fun x h1 => (toD x h1).bind fun d h2 => .ok (.d d) h2 := by simp only [ev] <;> rfl
@[simp] theorem e_tupO (a : Ex) : ev W C (.tupO a) σ h = (ev W C a σ h).bind fun x h1 => tupV x h1 := by simp only [ev] <;> rfl
@[simp] theorem e_pop (o : Ex) : ev W C (.pop o) σ h = (ev W C o σ h).bind fun x h1 => popV x h1 := by simp only [ev] <;> rfl
@[simp] theorem el_lst (a : Ex) : evL W C (.lst a) σ h = (ev W C a σ h).bind fun x h1 => match els h1 x with
    | some vs => .ok vs h1
    | none => .no := by simp only [evL] <;> rfl
@[simp] theorem e_told (ws : List Str) (a : Ex) : ev W C (.told ws a) σ h = toldV ws (ev W C a σ h) := by simp only [ev] <;> rfl
@[simp] theorem e_ext (o : Ex) (l : Lx) : ev W C (.ext o l) σ h = (ev W C o σ h).bind fun x h1 => (lstV x h1).bind fun _ h1 => (evL W C l σ h1).bind fun vs h2 => extV x vs h2 := by simp only [ev] <;> rfl
@[simp] theorem e_tix (o a : Ex) : ev W C (.tix o a) σ h = (ev W C o σ h).bind fun x h1 => (txV x h1).bind fun ds h1 => (ev W C a σ h1).bind fun y h2 => tixV ds y h2 := by simp only [ev] <;> rfl
@[simp] theorem e_tupX (xs : List Ex) : ev W C (.tupX xs) σ h = (evs W C xs σ h).bind fun vs h1 => (toDs vs h1).bind fun ds h2 => .ok (.ref h2.length) (h2 ++ [.tx ds]) := by simp only [ev] <;> rfl
@[simp] theorem e_repX (a b : Ex) : ev W C (.repX a b) σ h = (ev W C a σ h).bind fun x h1 => (txV x h1).bind fun ds h1 => (ev W C b σ h1).bind fun y h2 => repX x ds y h2 := by simp only [ev] <;> rfl
@[simp] theorem e_tupL (a : Ex) : ev W C (.tupL a) σ h = (ev W C a σ h).bind fun x h1 => match elsL h1 x with
    | some vs => (toDs vs h1).bind fun ds h2 => .ok (.ref h2.length) (h2 ++ [.tx ds])
    | none => .no := by simp only [ev] <;> rfl
@[simp] theorem e_dvm (a b : Ex) : ev W C (.dvm a b) σ h = (ev W C a σ h).bind fun x h1 => (ev W C b σ h1).bind fun y h2 => dvmV x y h2 := by simp only [ev] <;> rfl
@[simp] theorem e_lset (a : Ex) : ev W C (.lset a) σ h = (ev W C a σ h).bind fun x h1 => lsetV x h1 := by simp only [ev] <;> rfl
@[simp] theorem e_dnew (t : Bool) : ev W C (.dnew t) σ h = .ok (.ref h.length) (h ++ [.dct (if t then .t [] else .k [])]) := by simp only [ev] <;> rfl
@[simp] theorem e_ddsp (t : Bool) (k v : Ex) : ev W C (.ddsp t k v) σ h = (ev W C k σ h).bind fun x h1 => (ev W C v σ h1).bind fun y h2 => dspV t x y h2 := by simp only [ev] <;> rfl
@[simp] theorem el_cat (a b : Ex) : evL W C (.cat a b) σ h = (ev W C a σ h).bind fun x h1 => (ev W C b σ h1).bind fun y h2 => catL x y h2 := by simp only [evL] <;> rfl
@[simp] theorem el_rep (l : Lx) (b : Ex) : evL W C (.rep l b) σ h = (evL W C l σ h).bind fun vs h1 => (ev W C b σ h1).bind fun y h2 => repL vs y h2 := by simp only [evL] <;> rfl
@[simp] theorem es_nil : evs W C [] σ h = .ok [] h := by simp only [evs] <;> rfl
@[simp] theorem es_cons (e : Ex) (es : List Ex) : evs W C (e :: es) σ h = (ev W C e σ h).bind fun v h1 => (evs W C es σ h1).bind fun vs h2 => .ok (v :: vs) h2 := by simp only [evs] <;> rfl
@[simp] theorem eo_none : evO W C none σ h = .ok none h := by simp only [evO] <;> rfl
@[simp] theorem eo_some (e : Ex) : evO W C (some e) σ h = (ev W C e σ h).bind fun x h1 => match intV x with
    | some i => .ok (some i) h1
    | none => .no := by simp only [evO] <;> rfl
@[simp] theorem ei_nil : evI W C [] σ h = .ok true h := by simp only [evI] <;> rfl
@[simp] theorem ei_cons (e : Ex) (es : List Ex) : evI W C (e :: es) σ h = (ev W C e σ h).bind fun x h1 => (tru x h1).bind fun k h2 => if k then evI W C es σ h2 else .ok false h2 := by simp only [evI] <;> rfl
@[simp] theorem ej_nil (acc : Str) : evJ W C [] acc σ h = .ok acc h := by simp only [evJ] <;> rfl
@[simp] theorem ej_cons (e : Ex) (es : List Ex) (acc : Str) : evJ W C (e :: es) acc σ h = (ev W C e σ h).bind fun v h1 => match v with
    | .d (.str y) => if fits (acc ++ y).length then evJ W C es (acc ++ y) σ h1 else .no
    | _ => .no := by simp only [evJ] <;> rfl
@[simp] theorem el_dsp (xs : List Ex) : evL W C (.dsp xs) σ h = (evs W C xs σ h).bind fun vs h1 => if fits vs.length then .ok vs h1 else .no := by simp only [evL] <;> rfl
@[simp] theorem el_cmp (own : List Nat) (t : Tgt) (s : Sx) (ifs : List Ex) (e : Ex) : evL W C (.cmp own t s ifs e) σ h = (evS W C s σ h).bind fun sv h1 => match sv with
    | .data vs => if fits vs.length then cmpL (itm W C own t ifs e σ) vs h1 else .no
    | .obj _ => .no := by simp only [evL] <;> rfl
@[simp] theorem e_lidx (o a : Ex) : ev W C (.lidx o a) σ h = (ev W C o σ h).bind fun x h1 => (R.of (elsL h1 x) h1).bind fun _ h1 => (ev W C a σ h1).bind fun y h2 => lidxV x y h2 := by simp only [ev] <;> rfl
@[simp] theorem e_dgt (o k d : Ex) : ev W C (.dgt o k d) σ h = (ev W C o σ h).bind fun x h1 => (dctK x h1).bind fun _ h1 => (ev W C k σ h1).bind fun y h2 => (ev W C d σ h2).bind fun z h3 => dgtV x y z h3 := by simp only [ev] <;> rfl
@[simp] theorem e_sdf (o k d : Ex) : ev W C (.sdf o k d) σ h = (ev W C o σ h).bind fun x h1 => (dctK x h1).bind fun _ h1 => (ev W C k σ h1).bind fun y h2 => (ev W C d σ h2).bind fun z h3 => sdfV x y z h3 := by simp only [ev] <;> rfl
@[simp] theorem e_rev (a : Ex) : ev W C (.rev a) σ h = (ev W C a σ h).bind fun x h1 => revV x h1 := by simp only [ev] <;> rfl
@[simp] theorem e_frzD (a : Ex) : ev W C (.frzD a) σ h = (ev W C a σ h).bind fun x h1 => (toDD x h1).bind fun d h2 => .ok (.d d) h2 := by simp only [ev] <;> rfl
@[simp] theorem ex_val (a : Ex) : evS W C (.val a) σ h = (ev W C a σ h).bind fun x h1 => srcV x h1 := by simp only [evS] <;> rfl
@[simp] theorem ex_rng (a : Ex) : evS W C (.rng a) σ h = (ev W C a σ h).bind fun x h1 => match intV x with
    | some i => if okRng i then .ok (.data (rangeL 0 i.toNat)) h1 else .no
    | none => .no := by simp only [evS] <;> rfl
@[simp] theorem ex_rng2 (a b : Ex) : evS W C (.rng2 a b) σ h = (ev W C a σ h).bind fun x h1 => (ev W C b σ h1).bind fun y h2 => match intV x, intV y with
    | some i, some j => if okRng i && okRng j then .ok (.data (rangeL i (j - i).toNat)) h2 else .no
    | _, _ => .no := by simp only [evS] <;> rfl
@[simp] theorem ex_zip (a b : Ex) : evS W C (.zip a b) σ h = (ev W C a σ h).bind fun x h1 => (ev W C b σ h1).bind fun y h2 => match x, y with
    | .d (.list xs), .d (.list ys) => .ok (.data ((xs.zip ys).map fun p => .d (.tuple [p.1, p.2]))) h2
    | _, _ => .no := by simp only [evS] <;> rfl
@[simp] theorem ex_rng3 (a b c : Ex) : evS W C (.rng3 a b c) σ h = (ev W C a σ h).bind fun x h1 => (ev W C b σ h1).bind fun y h2 => (ev W C c σ h2).bind fun z h3 => match intV x, intV y, intV z with
    | some i, some j, some k => if okRng i && okRng j && okStep k then .ok (.data (rangeC i k (stepN i j k))) h3 else .no
    | _, _, _ => .no := by simp only [evS] <;> rfl
@[simp] theorem ex_enm (a : Ex) : evS W C (.enm a) σ h = (ev W C a σ h).bind fun x h1 => match x with
    | .d (.tuple xs) => .ok (.data (enumD xs)) h1
    | .d (.list xs) => .ok (.data (enumD xs)) h1
    | _ => .no := by simp only [evS] <;> rfl
@[simp] theorem ex_keys (a : Ex) : evS W C (.keys a) σ h = (ev W C a σ h).bind fun x h1 => keysV x h1 := by simp only [evS] <;> rfl
@[simp] theorem ex_vals (a : Ex) : evS W C (.vals a) σ h = (ev W C a σ h).bind fun x h1 => valsV x h1 := by simp only [evS] <;> rfl
@[simp] theorem x_set (i : Nat) (e : Ex) : ex W C (.set i e) σ h = (ev W C e σ h).thn σ fun v h1 => .ok (.nx (σ.set i (some v))) h1 := by simp only [ex] <;> rfl
@[simp] theorem x_asg (t : Tgt) (e : Ex) : ex W C (.asg t e) σ h = (ev W C e σ h).thn σ fun v h1 => match bindT h1 t v σ with
    | some σ' => .ok (.nx σ') h1
    | none => .no := by simp only [ex] <;> rfl
@[simp] theorem x_par (i j : Nat) (a b : Ex) : ex W C (.par i j a b) σ h = (ev W C a σ h).thn σ fun v h1 => (ev W C b σ h1).thn σ fun w h2 => .ok (.nx ((σ.set i (some v)).set j (some w))) h2 := by simp only [ex] <;> rfl
@[simp] theorem x_six (o i e : Ex) : ex W C (.six o i e) σ h = (ev W C e σ h).thn σ fun v h1 => (ev W C o σ h1).thn σ fun x h2 => (ev W C i σ h2).thn σ fun y h3 => (setV x y v h3).thn σ fun _ h4 => .ok (.nx σ) h4 := by simp only [ex] <;> rfl
@[simp] theorem x_exp (e : Ex) : ex W C (.exp e) σ h = (ev W C e σ h).thn σ fun _ h1 => .ok (.nx σ) h1 := by simp only [ex] <;> rfl
@[simp] theorem x_iff (c : Ex) (a b : List St) : ex W C (.iff c a b) σ h = (cnd W C c σ h).thn σ fun k h2 => if k then exs W C a σ h2 else exs W C b σ h2 := by simp only [ex] <;> rfl
@[simp] theorem x_for (t : Tgt) (s : Sx) (b : List St) : ex W C (.for_ t s b) σ h = (evS W C s σ h).thn σ fun sv h1 => match sv with
    | .data vs => forL (turnV t (bdy W C b)) vs σ h1
    | .obj n => forO (turnV t (bdy W C b)) n W 0 σ h1 := by simp only [ex] <;> rfl
@[simp] theorem x_whl (c : Ex) (b : List St) : ex W C (.whl c b) σ h = whlN (cnd W C c) (bdy W C b) W σ h := by simp only [ex] <;> rfl
@[simp] theorem x_ret (e : Ex) : ex W C (.ret e) σ h = (ev W C e σ h).thn σ fun v h1 => .ok (.rt v) h1 := by simp only [ex] <;> rfl
@[simp] theorem x_retN : ex W C .retN σ h = .ok (.rt (.d .none)) h := by simp only [ex] <;> rfl
@[simp] theorem x_brk : ex W C .brk σ h = .ok (.bk σ) h := by simp only [ex] <;> rfl
@[simp] theorem x_cnt : ex W C .cnt σ h = .ok (.ct σ) h := by simp only [ex] <;> rfl
@[simp] theorem x_pas : ex W C .pas σ h = .ok (.nx σ) h := by simp only [ex] <;> rfl
@[simp] theorem x_rse (c : Nat) : ex W C (.rse c) σ h = .er ⟨c, none⟩ σ h := by simp only [ex] <;> rfl
@[simp] theorem xs_nil : exs W C [] σ h = .ok (.nx σ) h := by simp only [exs] <;> rfl
@[simp] theorem xs_cons (s : St) (ss : List St) : exs W C (s :: ss) σ h = (ex W C s σ h).thn fun σ' h1 => exs W C ss σ' h1 := by simp only [exs] <;> rfl
@[simp] theorem thn_rt (v : Val) (h : Hq) (f : Sg → Hq → RF) : (RF.ok (.rt v) h).thn f = .ok (.rt v) h := rfl
@[simp] theorem thn_bk (f : Sg → Hq → RF) : (RF.ok (.bk σ) h).thn f = .ok (.bk σ) h := rfl
@[simp] theorem thn_ct (f : Sg → Hq → RF) : (RF.ok (.ct σ) h).thn f = .ok (.ct σ) h := rfl
@[simp] theorem thn_er (e : Exc) (f : Sg → Hq → RF) : (RF.er e σ h).thn f = .er e σ h := rfl
@[simp] theorem turn_rt (v : Val) (h : Hq) (f : Sg → Hq → RF) : (RF.ok (.rt v) h).turn f = .ok (.rt v) h := rfl
@[simp] theorem turn_er (e : Exc) (f : Sg → Hq → RF) : (RF.er e σ h).turn f = .er e σ h := rfl
@[simp] theorem forL_nil (f : Val → Sg → Hq → RF) : forL f [] σ h = .ok (.nx σ) h := rfl
theorem forL_cons (f : Val → Sg → Hq → RF) (v : Val) (vs : List Val) : forL f (v :: vs) σ h = (f v σ h).turn fun σ' h1 => forL f vs σ' h1 := rfl
@[simp] theorem cmpL_nil (f : Val → Hq → R (List Val)) : cmpL f [] h = .ok [] h := rfl
theorem cmpL_cons (f : Val → Hq → R (List Val)) (v : Val) (vs : List Val) : cmpL f (v :: vs) h = (f v h).bind fun ws h1 => (cmpL f vs h1).bind fun us h2 => .ok (ws ++ us) h2 := rfl
@[simp] theorem bindT_nm (i : Nat) (v : Val) : bindT h (.nm i) v σ = some (σ.set i (some v)) := rfl
/-- a call by the table -/
@[simp] theorem ev_call (f : Nat) (xs : List Ex) (σ : Sg) (h : Hq) : ev W (orcs T W (j + 1)) (.call f xs) σ h = (evs W (orcs T W (j + 1)) xs σ h).bind fun vs h1 => match T[f]? with
    | some fn => callR W (orcs T W j) fn vs h1
    | none => .no := by
  have e2 : orcs T W (j + 1) = (fun f vs h => match T[f]? with
    | some fn => callR W (orcs T W j) fn vs h
    | none => .no) :: orcs T W j := rfl
  rw [e2]
  simp only [ev]
/-- a pure def over data -/
theorem call_p {fn : Fn} {ds : List D} {x : D} {v : Val} {h1 h2 : Hq} (hp : fn.pure = true) (hl : ds.length = fn.ps) (e : run W C fn (ds.map .d) [] = .ok v h1) (e2 : toD v h1 = .ok x h2) : callR W C fn (ds.map .d) h = .ok (.d x) h := by
  have ha : allDat (ds.map Val.d) = true := by
    clear e hl
    induction ds with
    | nil => rfl
    | cons d ds ih => exact ih
  unfold callR
  rw [if_pos (by rw [List.length_map]; exact hl), if_pos hp, pks_map]
  simp only [e, e2, ha, Bool.or_true, if_true]
theorem call_pd {fn : Fn} {ds : List D} {x : D} {h1 : Hq} (hp : fn.pure = true) (hl : ds.length = fn.ps) (e : run W C fn (ds.map .d) [] = .ok (.d x) h1) : callR W C fn (ds.map .d) h = .ok (.d x) h := call_p hp hl e rfl
/-- a def over this run's objects -/
theorem call_s {fn : Fn} {vs : List Val} {x : D} {v : Val} {h1 h2 : Hq} (hp : fn.pure = false) (hl : vs.length = fn.ps) (e : run W C fn vs h = .ok v h1) (e2 : toD v h1 = .ok x h2) (hc : closed h.length (h2.take h.length) = true) : callR W C fn vs h = .ok (.d x) (h2.take h.length) := by
  unfold callR
  rw [if_pos hl, if_neg (by rw [hp]; decide)]
  simp only [e, e2, hc, if_true]
end

/-! ### how long a text is -/
mutual
def sz : D → Nat
  | .none => 4
  | .bool _ => 5
  | .int _ => 2000
  | .str x => (reprText x).length
  | .list xs => 2 + szAll xs
  | .tuple xs => 4 + szAll xs
  | .dict _ => 0
def szAll : List D → Nat
  | [] => 0
  | x :: xs => sz x + 2 + szAll xs
end
theorem textFrom_le : ∀ (ts : List Str) (k : Nat) (acc : Str) (m : Nat), (ts.map fun t => t.length + 2).sum ≤ m → (textFrom k acc ts).length ≤ acc.length + m
  | [], k, acc, m, _ => by show acc.length ≤ _; omega
  | t :: r, k, acc, m, h => by
    simp only [List.map_cons, List.sum_cons] at h
    have e : (acc ++ (if k > 0 then ", " else "" : String) ++ t).length = acc.length + (if k > 0 then 2 else 0) + t.length := by
      rw [strLen_append, strLen_append]
      congr 2
      split <;> rfl
    have := textFrom_le r (k + 1) (acc ++ (if k > 0 then ", " else "" : String) ++ t) (m - (t.length + 2)) (by omega)
    show (textFrom (k + 1) (acc ++ (if k > 0 then ", " else "" : String) ++ t) r).length ≤ _
    have e2 : (if k > 0 then 2 else 0 : Nat) ≤ 2 := by split <;> omega
    generalize (textFrom (k + 1) (acc ++ (if k > 0 then ", " else "" : String) ++ t) r).length = z at this ⊢
    omega
theorem piled_is (ts : List Str) : piled ts = (ts.map fun t => t.length + 2).sum := by
  induction ts with
  | nil => rfl
  | cons t r ih => simp only [piled, List.map_cons, List.sum_cons] at ih ⊢; try omega
mutual
theorem shown_le : ∀ x : D, x.showable = true → x.hasDict = false → x.shown.length ≤ sz x
  | .none, _, _ => by decide
  | .bool b, _, _ => by cases b <;> decide
  | .int i, h, _ => by
    have h : i.natAbs.log2 < 1920 := of_decide_eq_true h
    show (Str.ofString (toString i)).length ≤ 2000
    have e := int_text_length_le (k := 1920) (by decide) h
    rw [ofString_length]
    omega
  | .str x, _, _ => Nat.le_refl _
  | .list xs, h, d => by
    have := shownAll_le xs h d
    show (listText (PyData.shownAll xs)).length ≤ 2 + szAll xs
    unfold listText
    rw [strLen_append]
    have e := textFrom_le (PyData.shownAll xs) 0 "[" _ this
    have e1 : (("[" : String) : Str).length = 1 := rfl
    have e2 : (("]" : String) : Str).length = 1 := rfl
    omega
  | .tuple xs, h, d => by
    have := shownAll_le xs h d
    show (tupleText (PyData.shownAll xs)).length ≤ 4 + szAll xs
    unfold tupleText
    rw [strLen_append, strLen_append]
    have e1 : (("(" : String) : Str).length = 1 := rfl
    have e3 : ((if (PyData.shownAll xs).length == 1 then ",)" else ")" : String) : Str).length ≤ 2 := by split <;> decide
    have e4 : (Str.join ", " (PyData.shownAll xs)).length ≤ (List.map (fun t => t.length + 2) (PyData.shownAll xs)).sum := by
      by_cases hn : PyData.shownAll xs = []
      · rw [hn]; decide
      · have := join_length_add _ hn
        rw [piled_is] at this
        omega
    omega
  | .dict _, _, d => by cases d
theorem shownAll_le : ∀ xs : List D, PyData.showableAll xs = true → PyData.hasDictAll xs = false → ((PyData.shownAll xs).map fun t => t.length + 2).sum ≤ szAll xs
  | [], _, _ => Nat.le_refl _
  | x :: xs, h, d => by
    simp only [PyData.showableAll, Bool.and_eq_true] at h
    simp only [PyData.hasDictAll, Bool.or_eq_false_iff] at d
    have h1 := shown_le x h.1 d.1
    have h2 := shownAll_le xs h.2 d.2
    simp only [PyData.shownAll, List.map_cons, List.sum_cons, szAll]
    omega
end
/-- what repr([x]) may be asked of -/
structure OkR (x : D) : Prop where
  sh : x.showable = true
  nd : x.hasDict = false
  dp : x.depth ≤ 50
  sz : sz x ≤ 16000000
theorem repr_1 {x : D} (o : OkR x) : prmD .repr [.list [x]] = some (.str (PyData.list [x]).shown) := by
  have h1 : (PyData.list [x]).showable = true := by
    show (x.showable && true) = true
    rw [o.sh]; rfl
  have h2 : (PyData.list [x]).hasDict = false := by
    show (x.hasDict || false) = false
    rw [o.nd]; rfl
  have h3 : (PyData.list [x]).depth ≤ 60 := by
    show max x.depth 0 + 1 ≤ 60
    have := o.dp
    omega
  have h4 : fits (PyData.list [x]).shown.length = true := by
    have := shown_le _ h1 h2
    have e : sz (.list [x]) = 2 + (sz x + 2 + 0) := rfl
    have := o.sz
    exact decide_eq_true (by omega)
  show (if (PyData.list [x]).showable && !(PyData.list [x]).hasDict && decide ((PyData.list [x]).depth ≤ 60) && fits (PyData.list [x]).shown.length then _ else _) = _
  rw [h1, h2, decide_eq_true h3, h4]
  rfl
/-- the two are shown alike -/
def sameFn : Fn := ⟨2, 2, true, [.ret (.cmp .eq (.prm .repr [(.ofL (.dsp [(.var 0)]))]) (.prm .repr [(.ofL (.dsp [(.var 1)]))]))]⟩
theorem same_ok {W : Nat} {C : List Orc} {x : D} {h : Hq} (o : OkR x) : callR W C sameFn [.d x, .d x] h = .ok (.d (.bool true)) h := by
  refine call_pd (ds := [x, x]) rfl rfl (h1 := []) ?_
  simp [Ip.run, sameFn, fits, repr_1 o]
end Ip
/-! ### sizes, loops -/
namespace Ip
open PySem
def Sm (n : Nat) (x : Int) : Prop := x.natAbs < 2 ^ n
theorem Sm.mono {n m : Nat} {x : Int} (h : Sm n x) (hm : n ≤ m) : Sm m x := Nat.lt_of_lt_of_le h (Nat.pow_le_pow_right (by decide) hm)
theorem Sm.mul {n m : Nat} {x y : Int} (h : Sm n x) (k : Sm m y) : Sm (n + m) (x * y) := by
  unfold Sm at *
  rw [Int.natAbs_mul, Nat.pow_add]
  exact Nat.mul_lt_mul'' h k
theorem Sm.add {n : Nat} {x y : Int} (h : Sm n x) (k : Sm n y) : Sm (n + 1) (x + y) := by
  unfold Sm at *
  have := Int.natAbs_add_le x y
  rw [Nat.pow_succ]
  omega
theorem Sm.neg {n : Nat} {x : Int} (h : Sm n x) : Sm n (-x) := by unfold Sm at *; rw [Int.natAbs_neg]; exact h
theorem Sm.log {n : Nat} {x : Int} (h : Sm n x) : x.natAbs.log2 ≤ n := by
  by_cases h0 : x.natAbs = 0
  · rw [h0]; exact Nat.zero_le _
  · exact Nat.le_of_lt ((Nat.log2_lt h0).mpr h)
theorem Sm.le {n : Nat} {x y : Int} (h : Sm n x) (k : y.natAbs ≤ x.natAbs) : Sm n y := Nat.lt_of_le_of_lt k h
theorem okMul_sm {n m : Nat} {x y : Int} (h : Sm n x) (k : Sm m y) (hn : n + m < 900000) : okMul x y = true := by
  have := h.log
  have := k.log
  exact decide_eq_true (by omega)
theorem okDiv_sm {n : Nat} {x : Int} (h : Sm n x) (h0 : x ≠ 0) (hn : n < 8000) : okDiv x = true := by
  have := h.log
  unfold okDiv
  rw [decide_eq_true h0, decide_eq_true (by omega : x.natAbs.log2 < 8000)]
  rfl
theorem OkR.int {n : Nat} {x : Int} (h : Sm n x) (hn : n < 1920) : OkR (.int x) := by
  have := h.log
  exact ⟨decide_eq_true (by omega : x.natAbs.log2 < 1920), rfl, Nat.zero_le _, (by show 2000 ≤ 16000000; decide)⟩
/-- a walk that keeps P; a turn adds one -/
theorem forL_cnt {N : Nat} {f : Val → Sg → Hq → RF} {P : Nat → Sg → Hq → Prop} (mono : ∀ n σ h, P n σ h → P (n + 1) σ h) : ∀ (vs : List Val) (n : Nat) (σ : Sg) (h : Hq),
    (∀ v ∈ vs, ∀ n σ h, n < N → P n σ h → ∃ σ' h', P (n + 1) σ' h' ∧ (f v σ h = .ok (.nx σ') h' ∨ f v σ h = .ok (.ct σ') h' ∨ f v σ h = .ok (.bk σ') h')) → n + vs.length ≤ N → P n σ h → ∃ σ' h', P (n + vs.length) σ' h' ∧ forL f vs σ h = .ok (.nx σ') h'
  | [], n, σ, h, _, _, p => ⟨σ, h, p, rfl⟩
  | v :: vs, n, σ, h, st, hN, p => by
    rw [List.length_cons] at hN
    obtain ⟨σ1, h1, p1, e⟩ := st v List.mem_cons_self n σ h (by omega) p
    have up : ∀ k, P (n + 1 + k) σ1 h1 := fun k => by
      induction k with
      | zero => exact p1
      | succ k ih => exact mono _ _ _ ih
    obtain ⟨σ2, h2, p2, e2⟩ := forL_cnt mono vs (n + 1) σ1 h1 (fun v hv => st v (List.mem_cons_of_mem _ hv)) (by omega) p1
    have el : n + 1 + vs.length = n + (v :: vs).length := by rw [List.length_cons]; omega
    rw [forL_cons]
    rcases e with e | e | e
    · rw [e]; exact ⟨σ2, h2, el ▸ p2, e2⟩
    · rw [e]; exact ⟨σ2, h2, el ▸ p2, e2⟩
    · rw [e]; exact ⟨σ1, h1, el ▸ up vs.length, rfl⟩
/-- a comprehension: each item keeps P and gives one value of kind K -/
theorem cmpL_cnt {N : Nat} {f : Val → Hq → R (List Val)} {P : Nat → Hq → Prop} {K : Val → Prop} : ∀ (vs : List Val) (n : Nat) (h : Hq),
    (∀ v ∈ vs, ∀ n h, n < N → P n h → ∃ x h', P (n + 1) h' ∧ K x ∧ f v h = .ok [x] h') → n + vs.length ≤ N → P n h → ∃ xs h', P (n + vs.length) h' ∧ xs.length = vs.length ∧ (∀ x ∈ xs, K x) ∧ cmpL f vs h = .ok xs h'
  | [], n, h, _, _, p => ⟨[], h, p, rfl, fun x hx => (by cases hx), rfl⟩
  | v :: vs, n, h, st, hN, p => by
    rw [List.length_cons] at hN
    obtain ⟨x, h1, p1, k1, e⟩ := st v List.mem_cons_self n h (by omega) p
    obtain ⟨xs, h2, p2, l2, k2, e2⟩ := cmpL_cnt vs (n + 1) h1 (fun v hv => st v (List.mem_cons_of_mem _ hv)) (by omega) p1
    have el : n + 1 + vs.length = n + (v :: vs).length := by rw [List.length_cons]; omega
    refine ⟨x :: xs, h2, el ▸ p2, by rw [List.length_cons, List.length_cons, l2], fun y hy => ?_, ?_⟩
    · rcases List.mem_cons.mp hy with rfl | hy
      · exact k1
      · exact k2 y hy
    · rw [cmpL_cons, e]
      simp only [R.bind_ok, e2, List.cons_append, List.nil_append]
/-- a comprehension whose items do not touch the heap -/
theorem cmpL_map {f : Val → Hq → R (List Val)} {g : Val → Val} {h : Hq} : ∀ (vs : List Val), (∀ v ∈ vs, f v h = .ok [g v] h) → cmpL f vs h = .ok (vs.map g) h
  | [], _ => rfl
  | v :: vs, st => by
    rw [cmpL_cons, st v List.mem_cons_self]
    simp only [R.bind_ok, cmpL_map vs fun v hv => st v (List.mem_cons_of_mem _ hv), List.cons_append, List.nil_append, List.map_cons]
theorem rangeL_len : ∀ (n : Nat) (i : Int), (rangeL i n).length = n
  | 0, _ => rfl
  | n + 1, i => by unfold rangeL; rw [List.length_cons, rangeL_len n]
theorem rangeL_mem : ∀ {n : Nat} {i : Int} {v : Val}, v ∈ rangeL i n → ∃ k : Int, v = .d (.int k) ∧ i ≤ k ∧ k < i + n
  | 0, _, _, h => by cases h
  | n + 1, i, v, h => by
    unfold rangeL at h
    rcases List.mem_cons.mp h with rfl | h
    · exact ⟨i, rfl, Int.le_refl _, by omega⟩
    · obtain ⟨k, e, h1, h2⟩ := rangeL_mem h
      exact ⟨k, e, by omega, by omega⟩
end Ip
namespace Ip
open PySem
/-- a walk that is a fold -/
theorem forL_fold {α β : Type} {N : Nat} {f : Val → Sg → Hq → RF} {h : Hq} (val : α → Val) (st : β → Option Val → Sg) (g : β → α → β) (P : Nat → β → Prop) : ∀ (as : List α) (n : Nat) (b : β) (k : Option Val),
    (∀ a ∈ as, ∀ n b k, n < N → P n b → P (n + 1) (g b a) ∧ f (val a) (st b k) h = .ok (.nx (st (g b a) (some (val a)))) h) → n + as.length ≤ N → P n b → ∃ k', forL f (as.map val) (st b k) h = .ok (.nx (st (as.foldl g b) k')) h ∧ P (n + as.length) (as.foldl g b)
  | [], n, b, k, _, _, p => ⟨k, rfl, p⟩
  | a :: as, n, b, k, s, hN, p => by
    rw [List.length_cons] at hN
    obtain ⟨p1, e1⟩ := s a List.mem_cons_self n b k (by omega) p
    obtain ⟨k', e2, p2⟩ := forL_fold val st g P as (n + 1) (g b a) (some (val a)) (fun x hx => s x (List.mem_cons_of_mem _ hx)) (by omega) p1
    refine ⟨k', ?_, ?_⟩
    · rw [List.map_cons, forL_cons, e1]
      exact e2
    · have el : n + 1 + as.length = n + (a :: as).length := by rw [List.length_cons]; omega
      exact el ▸ p2
@[simp] theorem srcV_l (xs : List D) (h : Hq) : srcV (.d (.list xs)) h = .ok (.data (xs.map .d)) h := rfl
@[simp] theorem srcV_t (xs : List D) (h : Hq) : srcV (.d (.tuple xs)) h = .ok (.data (xs.map .d)) h := rfl
end Ip
namespace Ip
open PySem
theorem cutD_map {α β : Type} (f : α → β) (xs : List α) (l u : Option Int) : cutD (xs.map f) l u = (cutD xs l u).map f := by
  unfold cutD
  rw [List.length_map, ← List.map_drop, ← List.map_take]
@[simp] theorem slcV_l (xs : List D) (l u : Option Int) (h : Hq) : slcV (.d (.list xs)) l u h = .ok (.d (.list (cutD xs l u))) h := by
  show ((toDs (cutD (xs.map Val.d) l u) h).bind fun ds h1 => R.ok (Val.d (.list ds)) h1) = _
  rw [cutD_map, toDs_map]; rfl
@[simp] theorem cutD_1 {α : Type} (x : α) (xs : List α) : cutD (x :: xs) (some 1) none = xs := by
  unfold cutD cutIx
  have : min (1 : Int).toNat (x :: xs).length = 1 := by rw [List.length_cons]; show min 1 _ = 1; omega
  simp only [show ¬ ((1 : Int) < 0) by decide, if_false, this]
  simp
end Ip
namespace Ip
open PySem
@[simp] theorem toDs_comp {α : Type} (f : α → D) (xs : List α) (h : Hq) : toDs (xs.map (Val.d ∘ f)) h = .ok (xs.map f) h := by
  rw [← List.map_map, toDs_map]
@[simp] theorem toDs_map' (xs : List D) (h : Hq) : toDs (xs.map .d) h = .ok xs h := toDs_map xs
theorem fits_le {n : Nat} (h : n ≤ 16777216) : fits n = true := decide_eq_true h
/-- a number's text -/
def tx (i : Int) : Str := toString i
@[simp] theorem partS_i (i : Int) : partS (.d (.int i)) = if i.natAbs.log2 < 1920 then some (tx i) else none := rfl
@[simp] theorem partS_s (s : Str) : partS (.d (.str s)) = if fits s.length then some s else none := rfl
@[simp] theorem prm_str (i : Int) : prmD .str [.int i] = if i.natAbs.log2 < 1920 then some (.str (tx i)) else none := rfl
@[simp] theorem binD_cat (x y : Str) : binD .add (.str x) (.str y) = if fits (x.length + y.length) then some (.str (x ++ y)) else none := rfl
@[simp] theorem binD_pow (i k : Int) : binD .pow (.int i) (.int k) = if okPow i k then some (.int (i ^ k.toNat)) else none := rfl
theorem text_le {n : Nat} {i : Int} (h : Sm n i) (hn : n < 1920) : (tx i).length ≤ 2000 := by
  have e := int_text_length_le (k := 1920) (by decide) (show i.natAbs.log2 < 1920 by have := h.log; omega)
  show (Str.ofString (toString i)).length ≤ 2000
  rw [ofString_length]
  omega
end Ip
namespace Ip
open PySem
theorem pk_d (h : Hq) (n : Nat) (x : D) : pk h n (.d x) = some x := by cases n <;> rfl
theorem allO_map (h : Hq) (n : Nat) : ∀ xs : List D, allO (pk h n) (xs.map .d) = some xs
  | [] => rfl
  | x :: xs => by
    show (match pk h n (.d x), allO (pk h n) (xs.map .d) with | some a, some b => some (a :: b) | _, _ => none) = _
    rw [pk_d, allO_map h n xs]
/-- a list object of data -/
def obj (xs : List D) : IO := .lst (xs.map .d)
theorem peek_obj {h : Hq} {n : Nat} {xs : List D} (e : h[n]? = some (obj xs)) : peek h (.ref n) = some (.list xs) := by
  unfold peek pk
  simp only [e, obj, allO_map, Option.map_some]
theorem prmV_obj {h : Hq} {n : Nat} {xs : List D} (p : Prm) (e : h[n]? = some (obj xs)) : prmV p [.ref n] h = match prmD p [.list xs] with
    | some c => .ok (.d c) h
    | none => .no := by
  have e2 : pks h 3 [.ref n] = some [.list xs] := by
    show (match peek h (.ref n), some ([] : List D) with | some a, some b => some (a :: b) | _, _ => none) = _
    rw [peek_obj e]
  unfold prmV
  simp only [e2]
  try rfl
theorem appV_obj {h : Hq} {n : Nat} {xs : List D} (x : D) (e : h[n]? = some (obj xs)) (hl : xs.length < 16777216) : appV (.ref n) (.d x) h = .ok (.d .none) (h.set n (obj (xs ++ [x]))) := by
  unfold appV
  simp only [e, obj, List.length_map, hl, if_true, List.map_append, List.map_cons, List.map_nil]
theorem lstV_obj {h : Hq} {n : Nat} {xs : List D} (e : h[n]? = some (obj xs)) : lstV (.ref n) h = .ok () h := by
  unfold lstV
  simp only [e, obj]
theorem toD_obj {h : Hq} {n : Nat} {xs : List D} (e : h[n]? = some (obj xs)) : toD (.ref n) h = .ok (.list xs) (h.set n (.dead (.list xs))) := by
  unfold toD
  simp only [e, obj, dats_map]
end Ip
namespace Ip
open PySem
theorem okRng_of {i : Int} (h1 : 0 ≤ i) (h2 : i < 1000000000) : okRng i = true := by
  have h : Sm 30 i := by unfold Sm; omega
  have := h.log
  exact decide_eq_true (by omega)
end Ip

set_option linter.all false
set_option Elab.async false
set_option autoImplicit false
set_option maxRecDepth 100000
/-! What plain laws share: lists of ints, loops, numbers drawn. -/
namespace Ip
open PySem
abbrev I (x : Int) : Option Val := some (.d (.int x))
section
variable {F j : Nat} {C : List Orc} {h : Hq}
theorem cmp_ints {f : Val → Hq → R (List Val)} {h : Hq} (g : Int → D) : ∀ (xs : List Int), (∀ x ∈ xs, f (.d (.int x)) h = .ok [.d (g x)] h) → cmpL f ((xs.map PyData.int).map .d) h = .ok (xs.map fun x => .d (g x)) h
  | [], _ => rfl
  | x :: xs, st => by
    rw [List.map_cons, List.map_cons, cmpL_cons, st x List.mem_cons_self]
    simp only [R.bind_ok, cmp_ints g xs fun v hv => st v (List.mem_cons_of_mem _ hv), List.cons_append, List.nil_append, List.map_cons]
theorem toDs_fn {α : Type} (g : α → D) (xs : List α) (h : Hq) : toDs (xs.map fun x => .d (g x)) h = .ok (xs.map g) h := by
  have := toDs_comp g xs h
  exact this
theorem bools_map {α : Type} (p : α → Bool) : ∀ xs : List α, boolsOf (xs.map fun x => .bool (p x)) = some (xs.map p)
  | [] => rfl
  | x :: xs => by
    show (boolsOf (xs.map fun x => .bool (p x))).map (p x :: ·) = _
    rw [bools_map p xs]; rfl
theorem ints_map {α : Type} (p : α → Int) : ∀ xs : List α, intsOf (xs.map fun x => .int (p x)) = some (xs.map p)
  | [] => rfl
  | x :: xs => by
    show (intsOf (xs.map fun x => .int (p x))).map (p x :: ·) = _
    rw [ints_map p xs]; rfl
theorem ints_map' (xs : List Int) : intsOf (xs.map .int) = some xs := by
  have := ints_map (fun x : Int => x) xs
  rw [List.map_id'] at this
  exact this
theorem all_map {α : Type} (p : α → Bool) (xs : List α) : (xs.map p).all id = xs.all p := by
  induction xs with
  | nil => rfl
  | cons x xs ih => rw [List.map_cons, List.all_cons, List.all_cons, ih]; rfl
theorem any_map {α : Type} (p : α → Bool) (xs : List α) : (xs.map p).any id = xs.any p := by
  induction xs with
  | nil => rfl
  | cons x xs ih => rw [List.map_cons, List.any_cons, List.any_cons, ih]; rfl
def tupI (xs : List Int) : D := .tuple (xs.map .int)
theorem call_pe {fn : Fn} {ds : List D} {e : Exc} {h1 : Hq} {W : Nat} (hp : fn.pure = true) (hl : ds.length = fn.ps) (er : Ip.run W C fn (ds.map .d) [] = .er e h1) : callR W C fn (ds.map .d) h = .er e h := by
  unfold callR
  rw [if_pos (by rw [List.length_map]; exact hl), if_pos hp, pks_map]
  simp only [er]
end
def S : Nat → (Nat → Int) → Int
  | 0, _ => 0
  | n + 1, f => S n f + f n
def tb (n : Nat) (f : Nat → Int) : List Int := (List.range n).map f
theorem tb_len (n : Nat) (f : Nat → Int) : (tb n f).length = n := by simp [tb]
theorem tb_get {n : Nat} {f : Nat → Int} {i : Nat} (h : i < (tb n f).length) : (tb n f)[i] = f i := by simp [tb]
theorem sumI_snoc : ∀ (xs : List Int) (x : Int), sumI (xs ++ [x]) = sumI xs + x
  | [], x => by simp [sumI]
  | y :: xs, x => by
    show y + sumI (xs ++ [x]) = y + sumI xs + x
    rw [sumI_snoc xs x]; omega
theorem sumI_tb (f : Nat → Int) : ∀ n : Nat, sumI (tb n f) = S n f
  | 0 => rfl
  | n + 1 => by
    unfold tb
    rw [List.range_succ, List.map_append, List.map_singleton, sumI_snoc]
    have := sumI_tb f n
    unfold tb at this
    rw [this]; rfl
theorem tb_ext {n : Nat} {f g : Nat → Int} (h : ∀ i, i < n → f i = g i) : tb n f = tb n g := by
  unfold tb
  exact List.map_congr_left fun i hi => h i (List.mem_range.mp hi)
theorem S_ext {n : Nat} {f g : Nat → Int} (h : ∀ i, i < n → f i = g i) : S n f = S n g := by
  induction n with
  | zero => rfl
  | succ n ih =>
    show S n f + f n = S n g + g n
    rw [ih fun i hi => h i (by omega), h n (by omega)]
def updF (f : Nat → Int) (i : Nat) (v : Int) : Nat → Int := fun j => if j = i then v else f j
theorem tb_set {n : Nat} {f : Nat → Int} {i : Nat} {v : Int} : (tb n f).set i v = tb n (updF f i v) := by
  apply List.ext_getElem
  · simp [tb]
  · intro j h1 h2
    rw [List.getElem_set]
    unfold updF
    simp only [tb, List.getElem_map, List.getElem_range]
    by_cases e : i = j
    · subst e; simp
    · rw [if_neg e, if_neg (fun z => e z.symm)]
abbrev oI (xs : List Int) : IO := obj (xs.map .int)
section
variable {F j : Nat} {C : List Orc} {h : Hq} {r n i : Nat} {f : Nat → Int} {v : Int} {xs : List Int}
theorem dct_o {x : IO} (e : h[r]? = some x) (hx : ∀ c, x ≠ .dct c) : dct h (.ref r) = none := by
  unfold dct
  simp only [e]
  cases x with
  | dct c => exact absurd rfl (hx c)
  | _ => rfl
theorem ix_o (e : h[r]? = some (oI xs)) (hi : i < xs.length) : ixV (.ref r) (.d (.int (i : Int))) h = .ok (.d (.int xs[i])) h := by
  refine ixV_at (vs := (xs.map PyData.int).map .d) ?_ ?_
  · unfold els
    simp only [e, oI, obj]
  · rw [atD_nat (by simpa using hi)]
    simp
theorem ix_tb (e : h[r]? = some (oI (tb n f))) (hi : i < n) : ixV (.ref r) (.d (.int (i : Int))) h = .ok (.d (.int (f i))) h := by
  rw [ix_o e (by rw [tb_len]; exact hi), tb_get]
theorem set_o (e : h[r]? = some (oI xs)) (hi : i < xs.length) : setV (.ref r) (.d (.int (i : Int))) (.d (.int v)) h = .ok () (h.set r (oI (xs.set i v))) := by
  unfold setV
  rw [dct_o e (fun c z => by cases z)]
  unfold setW
  have e2 : h[r]? = some (IO.lst ((xs.map PyData.int).map .d)) := e
  simp only [e2]
  have : ixn ((xs.map PyData.int).map Val.d).length (i : Int) = some i := by
    unfold ixn
    rw [if_pos (by omega), if_pos (by simp; omega)]
    simp
  rw [this]
  simp [oI, obj, List.map_set]
theorem set_tbo (e : h[r]? = some (oI (tb n f))) (hi : i < n) : setV (.ref r) (.d (.int (i : Int))) (.d (.int v)) h = .ok () (h.set r (oI (tb n (updF f i v)))) := by
  rw [set_o e (by rw [tb_len]; exact hi), tb_set]
theorem sum_o (e : h[r]? = some (oI xs)) : prmV .sum [.ref r] h = .ok (.d (.int (sumI xs))) h := by
  rw [prmV_obj .sum e]
  simp [prmD, ints_map']
theorem sum_tb (e : h[r]? = some (oI (tb n f))) : prmV .sum [.ref r] h = .ok (.d (.int (S n f))) h := by rw [sum_o e, sumI_tb]
theorem tup_o (e : h[r]? = some (oI xs)) : tupV (.ref r) h = .ok (.d (tupI xs)) h := by
  have e1 : elsL h (.ref r) = some ((xs.map PyData.int).map .d) := by
    unfold elsL
    simp only [e, oI, obj]
  unfold tupV
  simp only [e1, toDs_map, R.bind_ok, tupI]
theorem app_get {h : Hq} {x : IO} {r : Nat} (hr : r < h.length) : (h ++ [x])[r]? = h[r]? := List.getElem?_append_left hr
theorem app_last {h : Hq} {x : IO} : (h ++ [x])[h.length]? = some x := by simp
theorem app_set {h : Hq} {x y : IO} : (h ++ [x]).set h.length y = h ++ [y] := by simp
theorem forL_ix {f : Val → Sg → Hq → RF} {P : Nat → Sg → Hq → Prop} : ∀ (vs : List Val) (k : Nat) (σ : Sg) (h : Hq), (∀ (i : Nat) (v : Val) (σ : Sg) (h : Hq), vs[i]? = some v → P (k + i) σ h → ∃ σ' h', P (k + i + 1) σ' h' ∧ f v σ h = .ok (.nx σ') h') → P k σ h → ∃ σ' h', P (k + vs.length) σ' h' ∧ forL f vs σ h = .ok (.nx σ') h'
  | [], k, σ, h, _, p => ⟨σ, h, p, rfl⟩
  | v :: vs, k, σ, h, st, p => by
    obtain ⟨σ1, h1, p1, e⟩ := st 0 v σ h rfl p
    obtain ⟨σ2, h2, p2, e2⟩ := forL_ix vs (k + 1) σ1 h1 (fun i v σ h hv hp => by
      have := st (i + 1) v σ h hv (by rw [show k + (i + 1) = k + 1 + i by omega]; exact hp)
      rw [show k + (i + 1) + 1 = k + 1 + i + 1 by omega] at this
      exact this) p1
    refine ⟨σ2, h2, by rw [List.length_cons, show k + (vs.length + 1) = k + 1 + vs.length by omega]; exact p2, ?_⟩
    rw [forL_cons, e]
    exact e2
theorem forL_rng {f : Val → Sg → Hq → RF} {P : Nat → Sg → Hq → Prop} (n : Nat) {σ : Sg} {h : Hq} (st : ∀ (i : Nat) (σ : Sg) (h : Hq), i < n → P i σ h → ∃ σ' h', P (i + 1) σ' h' ∧ f (.d (.int (i : Int))) σ h = .ok (.nx σ') h') (p : P 0 σ h) : ∃ σ' h', P n σ' h' ∧ forL f (rangeL 0 n) σ h = .ok (.nx σ') h' := by
  have := forL_ix (f := f) (P := P) (rangeL 0 n) 0 σ h (fun i v σ h hv hp => by
    rw [rangeL_get] at hv
    split at hv
    · rename_i hi
      cases hv
      rw [Nat.zero_add] at hp ⊢
      rw [Int.zero_add]
      exact st i σ h hi hp
    · cases hv) p
  rw [Nat.zero_add, rangeL_len] at this
  exact this
theorem cmp_fn {α : Type} {f : Val → Hq → R (List Val)} {h : Hq} (val g : α → D) : ∀ (as : List α), (∀ a ∈ as, f (.d (val a)) h = .ok [.d (g a)] h) → cmpL f (as.map fun a => .d (val a)) h = .ok (as.map fun a => .d (g a)) h
  | [], _ => rfl
  | a :: as, st => by
    rw [List.map_cons, cmpL_cons, st a List.mem_cons_self]
    simp only [R.bind_ok, cmp_fn val g as fun v hv => st v (List.mem_cons_of_mem _ hv), List.cons_append, List.nil_append, List.map_cons]
theorem rangeL_map (n : Nat) : rangeL 0 n = (List.range n).map fun i : Nat => .d (.int (i : Int)) := by
  apply List.ext_getElem?
  intro i
  rw [rangeL_get]
  split
  · rename_i hi
    simp [hi]
  · rename_i hi
    simp [Nat.not_lt.mp hi]
theorem cmp_rng {f : Val → Hq → R (List Val)} {h : Hq} (n : Nat) (g : Nat → D) (st : ∀ i, i < n → f (.d (.int (i : Int))) h = .ok [.d (g i)] h) : cmpL f (rangeL 0 n) h = .ok ((List.range n).map fun i => .d (g i)) h := by
  rw [rangeL_map]
  exact cmp_fn (fun i : Nat => .int (i : Int)) g (List.range n) fun a ha => st a (List.mem_range.mp ha)
theorem rep_flat {α : Type} (x : α) : ∀ n : Nat, (List.replicate n [x]).flatten = List.replicate n x
  | 0 => rfl
  | n + 1 => by rw [List.replicate_succ, List.flatten_cons, rep_flat x n]; rfl
theorem tb_const (n : Nat) (v : Int) : tb n (fun _ => v) = List.replicate n v := by
  unfold tb
  rw [List.map_const']
  simp
theorem ev_rep {σ : Sg} {b : Ex} {n : Nat} (hb : ev F C b σ h = .ok (.d (.int (n : Int))) h) (hn : n < 16000000) : evL F C (.rep (.dsp [(.lit (.int v))]) b) σ h = .ok ((List.replicate n (PyData.int v)).map .d) h := by
  have r : okRng (n : Int) = true := okRng_of (by omega) (by omega)
  have f1 : fits n = true := fits_le (by omega)
  have f2 : fits 1 = true := fits_le (by omega)
  simp [hb, repL, r, f1, f2, rep_flat]
end
section
variable {F j : Nat} {C : List Orc} {h : Hq}
theorem bindT_2 {a b : D} {i k : Nat} {σ : Sg} : bindT h (.tp [i, k]) (.d (.tuple [a, b])) σ = some ((σ.set i (some (.d a))).set k (some (.d b))) := by
  simp [bindT, els]
def si (sides : List Nat) : List Int := sides.map fun s : Nat => (s : Int)
theorem si_get {sides : List Nat} {i : Nat} {v : Val} (hv : ((si sides).map PyData.int |>.map Val.d)[i]? = some v) : ∃ (hi : i < sides.length), v = .d (.int ((sides[i] : Nat) : Int)) := by
  unfold si at hv
  simp only [List.map_map, List.getElem?_map] at hv
  cases e : sides[i]? with
  | none => rw [e] at hv; cases hv
  | some s =>
    rw [e] at hv
    obtain ⟨h1, h2⟩ := List.getElem?_eq_some_iff.mp e
    refine ⟨h1, ?_⟩
    rw [h2]
    cases hv
    rfl
theorem cat_tup {xs ys : List D} (hl : xs.length + ys.length ≤ 16777216) : binA .add (.d (.tuple xs)) (.d (.tuple ys)) h = .ok (.d (.tuple (xs ++ ys))) h := by
  show (if fits (xs.length + ys.length) then R.ok (Val.d (.tuple (xs ++ ys))) h else .no) = _
  rw [fits_le hl]; rfl
theorem forO_ix {f : Val → Sg → Hq → RF} {P : Nat → Sg → Hq → Prop} {r : Nat} (vs : List Val) (hvs : ∀ i σ h, P i σ h → elsL h (.ref r) = some vs) (st : ∀ (i : Nat) (v : Val) (σ : Sg) (h : Hq), vs[i]? = some v → P i σ h → ∃ σ' h', P (i + 1) σ' h' ∧ f v σ h = .ok (.nx σ') h') :
    ∀ (m i : Nat) (σ : Sg) (h : Hq) (W : Nat), i + m = vs.length → m < W → P i σ h → ∃ σ' h', P vs.length σ' h' ∧ forO f r W i σ h = .ok (.nx σ') h'
  | m, i, σ, h, 0, _, hw, _ => by omega
  | 0, i, σ, h, W + 1, e, _, p => by
    refine ⟨σ, h, by rw [← e]; exact p, ?_⟩
    unfold forO
    rw [hvs i σ h p]
    have : vs[i]? = none := List.getElem?_eq_none (by omega)
    simp only [this]
  | m + 1, i, σ, h, W + 1, e, hw, p => by
    have hi : i < vs.length := by omega
    obtain ⟨σ1, h1, p1, e1⟩ := st i vs[i] σ h (List.getElem?_eq_getElem hi) p
    obtain ⟨σ2, h2, p2, e2⟩ := forO_ix vs hvs st m (i + 1) σ1 h1 W (by omega) (by omega) p1
    refine ⟨σ2, h2, p2, ?_⟩
    unfold forO
    rw [hvs i σ h p]
    have : vs[i]? = some vs[i] := List.getElem?_eq_getElem hi
    simp only [this, e1]
    exact e2
theorem elsL_obj {r : Nat} {xs : List D} (e : h[r]? = some (obj xs)) : elsL h (.ref r) = some (xs.map .d) := by
  unfold elsL
  simp only [e, obj]
abbrev Stt := List Nat
def pD (p : List Nat) : D := tupI (si p)
def kz (p : Stt) : List L2.Key := (si p).map Sum.inl
theorem kz_inj {p q : Stt} : kz p = kz q ↔ p = q := by
  constructor
  · intro h
    unfold kz si at h
    rw [List.map_map, List.map_map] at h
    refine List.map_inj_right (fun a b e => ?_) |>.mp h
    have e : (Sum.inl (a : Int) : L2.Key) = Sum.inl (b : Int) := e
    have e := Sum.inl.inj e
    omega
  · intro h; rw [h]
theorem keyKs_si : ∀ p : List Int, keyKs (p.map .int) = some (p.map Sum.inl)
  | [] => rfl
  | x :: p => by
    show (match keyK (.int x), keyKs (p.map .int) with | some k, some ks => some (k :: ks) | _, _ => none) = _
    rw [keyKs_si p]; rfl
theorem keyT_p (p : Stt) : keyT (pD p) = some (kz p) := keyKs_si (si p)
def kvK (known : List Stt) : List (List L2.Key × Val) := known.map fun s => (kz s, .d (.bool true))
theorem look_kvK (q : Stt) : ∀ known : List Stt, lookK (kvK known) (kz q) = if q ∈ known then some (.d (.bool true)) else none
  | [] => rfl
  | p :: known => by
    have ih := look_kvK q known
    unfold lookK kvK at ih ⊢
    rw [List.map_cons, List.find?_cons]
    by_cases e : p = q
    · subst e; simp
    · have e2 : kz p ≠ kz q := fun z => e (kz_inj.mp z)
      simp only [e2, decide_false]
      rw [ih]
      have : (q ∈ p :: known) ↔ q ∈ known := by
        rw [List.mem_cons]
        exact ⟨fun h => h.resolve_left fun z => e z.symm, .inr⟩
      simp only [this]
theorem any_key {known : List (List L2.Key × Val)} {k : List L2.Key} : (known.any fun p => decide (p.1 = k)) = (lookK known k).isSome := by
  unfold lookK
  rw [Option.isSome_map]
  induction known with
  | nil => rfl
  | cons a r ih =>
    rw [List.any_cons, List.find?_cons]
    by_cases e : a.1 = k
    · simp [e]
    · simp only [e, decide_false, Bool.false_or]; exact ih
theorem stor_kvK {q : Stt} {known : List Stt} (h : q ∉ known) : storK (kvK known) (kz q) (.d (.bool true)) = kvK (known ++ [q]) := by
  unfold storK
  rw [any_key, look_kvK, if_neg h]
  simp [kvK]
theorem cut_take {α : Type} {xs : List α} {d : Nat} (hd : d ≤ xs.length) : cutD xs none (some (d : Int)) = xs.take d := by
  unfold cutD cutIx
  simp only
  rw [if_neg (by omega)]
  have : min (d : Int).toNat xs.length = d := by omega
  rw [this]; simp
theorem cut_drop {α : Type} {xs : List α} {d : Nat} (hd : d < xs.length) : cutD xs (some ((d : Int) + 1)) none = xs.drop (d + 1) := by
  unfold cutD cutIx
  simp only
  rw [if_neg (by omega)]
  have : min ((d : Int) + 1).toNat xs.length = d + 1 := by omega
  rw [this]
  exact List.take_of_length_le (by rw [List.length_drop]; omega)
theorem slc_t {xs : List D} {l u : Option Int} : slcV (.d (.tuple xs)) l u h = .ok (.d (.tuple (cutD xs l u))) h := rfl
theorem set_is {α : Type} {xs : List α} {d : Nat} {v : α} (hd : d < xs.length) : xs.take d ++ [v] ++ xs.drop (d + 1) = xs.set d v := by
  rw [List.set_eq_take_append_cons_drop, if_pos hd]; simp
theorem pD_is (p : Stt) : pD p = .tuple (p.map fun k : Nat => PyData.int (k : Int)) := by
  unfold pD tupI si
  rw [List.map_map]; rfl
theorem ix_p {p : Stt} {i : Nat} (hi : i < p.length) : ixV (.d (pD p)) (.d (.int (i : Int))) h = .ok (.d (.int ((p[i] : Nat) : Int))) h := by
  rw [pD_is, ixV_t, atD_nat (by simpa using hi)]
  simp
end
/-! ### numbers drawn -/
def streamB : List Ip.St :=
  [.set 1 (.new (.dsp [])),
   .for_ (.nm 2) (.val (.slc (.var 0) none (some (.lit (.int 63)))))
     [.set 3 (.prm .abs [(.prm .int [(.var 2)])]),
      .iff (.cmp .ge (.var 3) (.bin .pow (.lit (.int 10)) (.lit (.int 18))))
        [.for_ (.nm 4) (.rng (.lit (.int 60)))
           [.exp (.app (.var 1) (.bin .mod (.prm .int [(.var 3)]) (.lit (.int 1009)))),
            .set 3 (.bin .fdiv (.var 3) (.lit (.int 1009))),
            .iff (.cmp .eq (.var 3) (.lit (.int 0)))
              [.brk]
              []]]
        [.set 5 (.bin .mod (.prm .int [(.var 3)]) (.lit (.int 2147483647))),
         .for_ (.nm 4) (.rng (.lit (.int 10)))
           [.set 5 (.bin .mod (.prm .int [(.bin .add (.bin .add (.bin .mul (.var 5) (.lit (.int 48271))) (.bin .mul (.lit (.int 7)) (.var 4))) (.lit (.int 11)))]) (.lit (.int 2147483647))),
            .exp (.app (.var 1) (.bin .mod (.bin .mod (.prm .int [(.bin .add (.bin .mul (.var 5) (.lit (.int 69621))) (.var 4))]) (.lit (.int 2147483629))) (.lit (.int 1009))))]]],
   .iff (.cmp .eq (.prm .len [(.var 1)]) (.lit (.int 0)))
     [.exp (.app (.var 1) (.lit (.int 0)))]
     [],
   .ret (.var 1)]
def streamFn : Fn := ⟨1, 6, true, streamB⟩
def nextB : List Ip.St :=
  [.six (.var 0) (.lit (.int 1)) (.bin .add (.ix (.var 0) (.lit (.int 1))) (.lit (.int 1))),
   .set 2 (.bin .fdiv (.ix (.var 0) (.lit (.int 1))) (.prm .len [(.ix (.var 0) (.lit (.int 0)))])),
   .ret (.bin .mod (.prm .int [(.bin .add (.bin .add (.ix (.ix (.var 0) (.lit (.int 0))) (.bin .mod (.ix (.var 0) (.lit (.int 1))) (.prm .len [(.ix (.var 0) (.lit (.int 0)))]))) (.bin .mul (.var 2) (.lit (.int 389)))) (.bin .mul (.bin .mul (.ix (.var 0) (.lit (.int 1))) (.var 2)) (.lit (.int 17))))]) (.var 1))]
def nextFn : Fn := ⟨2, 3, false, nextB⟩
section
variable {F j : Nat} {C : List Orc} {h : Hq}
structure Nm (ns : List Int) : Prop where
  ne : ns ≠ []
  len : ns.length ≤ 4000
  sm : ∀ x ∈ ns, Sm 40 x
abbrev hsI (out : List Int) : Hq := [obj (out.map .int)]
theorem app_hs {out : List Int} {x : Int} (hl : out.length < 10000) : appV (.ref 0) (.d (.int x)) (hsI out) = .ok (.d .none) (hsI (out ++ [x])) := by
  have := appV_obj (h := hsI out) (n := 0) (xs := out.map .int) (.int x) rfl (by rw [List.length_map]; omega)
  rw [this]
  simp
theorem lst_hs {out : List Int} : lstV (.ref 0) (hsI out) = .ok () (hsI out) := lstV_obj (h := hsI out) (n := 0) rfl
def Ok9 (out : List Int) : Prop := ∀ x ∈ out, 0 ≤ x ∧ x < 1009
theorem Ok9.add {out : List Int} (h : Ok9 out) {x : Int} (a : 0 ≤ x) (b : x < 1009) : Ok9 (out ++ [x]) := fun y hy => by
  rcases List.mem_append.mp hy with q | q
  · exact h y q
  · rw [List.mem_singleton.mp q]; exact ⟨a, b⟩
theorem fm {a m : Int} (hm : 0 < m) : 0 ≤ a.fmod m ∧ a.fmod m < m := by
  rw [Int.fmod_eq_emod_of_nonneg _ (by omega)]
  exact ⟨Int.emod_nonneg _ (by omega), Int.emod_lt_of_pos _ hm⟩
def sm_body1 : List Ip.St := [.exp (.app (.var 1) (.bin .mod (.prm .int [(.var 3)]) (.lit (.int 1009)))),
            .set 3 (.bin .fdiv (.var 3) (.lit (.int 1009))),
            .iff (.cmp .eq (.var 3) (.lit (.int 0)))
              [.brk]
              []]
def sm_body2 : List Ip.St := [.set 5 (.bin .mod (.prm .int [(.bin .add (.bin .add (.bin .mul (.var 5) (.lit (.int 48271))) (.bin .mul (.lit (.int 7)) (.var 4))) (.lit (.int 11)))]) (.lit (.int 2147483647))),
            .exp (.app (.var 1) (.bin .mod (.bin .mod (.prm .int [(.bin .add (.bin .mul (.var 5) (.lit (.int 69621))) (.var 4))]) (.lit (.int 2147483629))) (.lit (.int 1009))))]
theorem sm_loop1 {s0 c2 c4 c5 : Option Val} {r : Int} {out : List Int} (ho : Ok9 out) (hl : out.length < 9000) :
    ∃ σ' out', σ'.length = 6 ∧ (∃ c2 c3 c4 c5, σ' = [s0, some (.ref 0), c2, c3, c4, c5]) ∧ Ok9 out' ∧ out'.length ≤ out.length + 60 ∧ forL (turnV (.nm 4) (bdy F C sm_body1)) (rangeL 0 60) [s0, some (.ref 0), c2, I r, c4, c5] (hsI out) = .ok (.nx σ') (hsI out') := by
  have key := forL_cnt (N := 60) (f := turnV (.nm 4) (bdy F C sm_body1)) (P := fun n σ h => ∃ out' c2 r c4 c5, σ = [s0, some (.ref 0), c2, I r, c4, c5] ∧ h = hsI out' ∧ Ok9 out' ∧ out'.length ≤ out.length + n)
    (fun n σ h ⟨o, a, b, c, d, e1, e2, e3, e4⟩ => ⟨o, a, b, c, d, e1, e2, e3, by omega⟩) (rangeL 0 60) 0 [s0, some (.ref 0), c2, I r, c4, c5] (hsI out) (fun v hv n σ h hn hp => ?_) (by simp [rangeL_len]) ⟨out, c2, r, c4, c5, rfl, rfl, ho, Nat.le_refl _⟩
  · obtain ⟨σ', h', ⟨out', c2', r', c4', c5', rfl, rfl, p1, p2⟩, e⟩ := key
    rw [rangeL_len] at p2
    exact ⟨_, out', rfl, ⟨_, _, _, _, rfl⟩, p1, by omega, e⟩
  · obtain ⟨o, a, b, c, d, rfl, rfl, e3, e4⟩ := hp
    have f := fm (a := b) (show (0 : Int) < 1009 by decide)
    have d1 : okDiv 1009 = true := by decide +kernel
    refine ⟨[s0, some (.ref 0), a, I (b.fdiv 1009), some v, d], hsI (o ++ [b.fmod 1009]), ⟨_, _, _, _, _, rfl, rfl, e3.add f.1 f.2, by rw [List.length_append]; simp; omega⟩, ?_⟩
    by_cases hz : b.fdiv 1009 = 0
    · right; right
      simp [turnV, bdy, sm_body1, cnd, tst, lst_hs, app_hs (out := o) (by omega), d1, hz]
    · left
      simp [turnV, bdy, sm_body1, cnd, tst, lst_hs, app_hs (out := o) (by omega), d1, hz]
theorem sm_loop2 {s0 c2 c3 c4 : Option Val} {r : Int} {out : List Int} (hr : 0 ≤ r ∧ r < 2147483647) (ho : Ok9 out) (hl : out.length < 9000) :
    ∃ σ' out', σ'.length = 6 ∧ (∃ c2 c3 c4 c5, σ' = [s0, some (.ref 0), c2, c3, c4, c5]) ∧ Ok9 out' ∧ out'.length ≤ out.length + 60 ∧ forL (turnV (.nm 4) (bdy F C sm_body2)) (rangeL 0 10) [s0, some (.ref 0), c2, c3, c4, I r] (hsI out) = .ok (.nx σ') (hsI out') := by
  have key := forL_cnt (N := 10) (f := turnV (.nm 4) (bdy F C sm_body2)) (P := fun n σ h => ∃ out' c2 r c3 c4, σ = [s0, some (.ref 0), c2, c3, c4, I r] ∧ h = hsI out' ∧ Ok9 out' ∧ out'.length ≤ out.length + n ∧ 0 ≤ r ∧ r < 2147483647)
    (fun n σ h ⟨o, a, b, c, d, e1, e2, e3, e4, e5⟩ => ⟨o, a, b, c, d, e1, e2, e3, by omega, e5⟩) (rangeL 0 10) 0 [s0, some (.ref 0), c2, c3, c4, I r] (hsI out) (fun v hv n σ h hn hp => ?_) (by simp [rangeL_len]) ⟨out, c2, r, c3, c4, rfl, rfl, ho, Nat.le_refl _, hr⟩
  · obtain ⟨σ', h', ⟨out', c2', r', c3', c4', rfl, rfl, p1, p2, _⟩, e⟩ := key
    rw [rangeL_len] at p2
    exact ⟨_, out', rfl, ⟨_, _, _, _, rfl⟩, p1, by omega, e⟩
  · obtain ⟨o, a, b, c, d, rfl, rfl, e3, e4, e5⟩ := hp
    obtain ⟨k, rfl, k0, k1⟩ := rangeL_mem hv
    have sb : Sm 40 b := by unfold Sm; omega
    have s1 : Sm 40 48271 := by show (48271 : Int).natAbs < 2 ^ 40; decide
    have s2 : Sm 40 69621 := by show (69621 : Int).natAbs < 2 ^ 40; decide
    have s3 : Sm 40 7 := by show (7 : Int).natAbs < 2 ^ 40; decide
    have s4 : Sm 40 k := by unfold Sm; omega
    have f1 := fm (a := b * 48271 + 7 * k + 11) (show (0 : Int) < 2147483647 by decide)
    have s5 : Sm 40 ((b * 48271 + 7 * k + 11).fmod 2147483647) := by unfold Sm; omega
    have f2 := fm (a := ((b * 48271 + 7 * k + 11).fmod 2147483647 * 69621 + k).fmod 2147483629) (show (0 : Int) < 1009 by decide)
    have m1 := okMul_sm sb s1 (by decide)
    have m2 := okMul_sm s3 s4 (by decide)
    have m3 := okMul_sm s5 s2 (by decide)
    refine ⟨[s0, some (.ref 0), a, c, I k, I ((b * 48271 + 7 * k + 11).fmod 2147483647)], hsI (o ++ [_]), ⟨_, _, _, _, _, rfl, rfl, e3.add f2.1 f2.2, by rw [List.length_append]; simp; omega, f1⟩, ?_⟩
    left
    simp [turnV, bdy, sm_body2, lst_hs, app_hs (out := o) (show o.length < 10000 by omega), m1, m2, m3]
def sm_body0 : List Ip.St := [.set 3 (.prm .abs [(.prm .int [(.var 2)])]),
      .iff (.cmp .ge (.var 3) (.bin .pow (.lit (.int 10)) (.lit (.int 18))))
        [.for_ (.nm 4) (.rng (.lit (.int 60))) sm_body1]
        [.set 5 (.bin .mod (.prm .int [(.var 3)]) (.lit (.int 2147483647))),
         .for_ (.nm 4) (.rng (.lit (.int 10))) sm_body2]]
theorem ok18 : okPow 10 18 = true := by decide +kernel
theorem sm_turn0 {s0 c2 c3 c4 c5 : Option Val} {x : Int} {out : List Int} (ho : Ok9 out) (hl : out.length < 9000) :
    ∃ σ' out', (∃ c2 c3 c4 c5, σ' = [s0, some (.ref 0), c2, c3, c4, c5]) ∧ Ok9 out' ∧ out'.length ≤ out.length + 60 ∧ turnV (.nm 2) (bdy F C sm_body0) (.d (.int x)) [s0, some (.ref 0), c2, c3, c4, c5] (hsI out) = .ok (.nx σ') (hsI out') := by
  have r60 : okRng 60 = true := by decide
  have r10 : okRng 10 = true := by decide
  by_cases hx : 1000000000000000000 ≤ (if x < 0 then -x else x)
  · obtain ⟨σ', out', _, s, a, b, e⟩ := sm_loop1 (F := F) (C := C) (s0 := s0) (c2 := I x) (c4 := c4) (c5 := c5) (r := if x < 0 then -x else x) ho hl
    refine ⟨σ', out', s, a, b, ?_⟩
    simp [turnV, bdy, sm_body0, cnd, tst, ok18, hx, r60, e]
  · have fr := fm (a := if x < 0 then -x else x) (show (0 : Int) < 2147483647 by decide)
    obtain ⟨σ', out', _, s, a, b, e⟩ := sm_loop2 (F := F) (C := C) (s0 := s0) (c2 := I x) (c3 := I (if x < 0 then -x else x)) (c4 := c4) fr ho hl
    refine ⟨σ', out', s, a, b, ?_⟩
    simp [turnV, bdy, sm_body0, cnd, tst, ok18, hx, r10, e]
theorem c_stream (ns : List Int) (hn : ns.length ≤ 63) : ∃ out : List Int, Nm out ∧ callR F C streamFn [.d (.list (ns.map .int))] h = .ok (.d (.list (out.map .int))) h := by
  have hcut : ∀ v ∈ (cutD (ns.map PyData.int) none (some 63)).map Val.d, ∃ x : Int, v = .d (.int x) := fun v hv => by
    obtain ⟨d, hd, rfl⟩ := List.mem_map.mp hv
    unfold cutD at hd
    obtain ⟨x, _, rfl⟩ := List.mem_map.mp (List.mem_of_mem_drop (List.mem_of_mem_take hd))
    exact ⟨x, rfl⟩
  have hlen : ((cutD (ns.map PyData.int) none (some 63)).map Val.d).length ≤ 63 := by
    rw [List.length_map]
    unfold cutD
    rw [List.length_take, List.length_drop, List.length_map]
    omega
  obtain ⟨σ', h', ⟨out, c2, c3, c4, c5, rfl, rfl, p1, p2⟩, e⟩ := forL_cnt (N := 63) (f := turnV (.nm 2) (bdy F C sm_body0)) (P := fun n σ h => ∃ out c2 c3 c4 c5, σ = [some (.d (.list (ns.map .int))), some (.ref 0), c2, c3, c4, c5] ∧ h = hsI out ∧ Ok9 out ∧ out.length ≤ 60 * n)
    (fun n σ h ⟨o, a, b, c, d, e1, e2, e3, e4⟩ => ⟨o, a, b, c, d, e1, e2, e3, by omega⟩) ((cutD (ns.map PyData.int) none (some 63)).map Val.d) 0 [some (.d (.list (ns.map .int))), some (.ref 0), none, none, none, none] (hsI [])
    (fun v hv n σ h hn hp => by
      obtain ⟨o, a, b, c, d, rfl, rfl, e3, e4⟩ := hp
      obtain ⟨x, rfl⟩ := hcut v hv
      obtain ⟨σ', out', ⟨a', b', c', d', rfl⟩, q1, q2, e⟩ := sm_turn0 (F := F) (C := C) (s0 := some (.d (.list (ns.map .int)))) (c2 := a) (c3 := b) (c4 := c) (c5 := d) (x := x) e3 (by omega)
      exact ⟨_, _, ⟨out', _, _, _, _, rfl, rfl, q1, by omega⟩, .inl e⟩) (by omega) ⟨[], none, none, none, none, rfl, rfl, fun x hx => (by cases hx), by simp⟩
  have p2' : out.length ≤ 60 * 63 := by omega
  have fin : ∃ out2 : List Int, Nm out2 ∧ Ip.run F C streamFn [.d (.list (ns.map .int))] [] = .ok (.ref 0) (hsI out2) := by
    have hb : streamB = [.set 1 (.new (.dsp [])), .for_ (.nm 2) (.val (.slc (.var 0) none (some (.lit (.int 63))))) sm_body0, .iff (.cmp .eq (.prm .len [(.var 1)]) (.lit (.int 0))) [.exp (.app (.var 1) (.lit (.int 0)))] [], .ret (.var 1)] := rfl
    have hs0 : ([IO.lst []] : Hq) = hsI [] := rfl
    have lenO := prmV_obj (h := hsI out) (n := 0) .len rfl
    by_cases hz : out = []
    · subst hz
      refine ⟨[0], ⟨by simp, by simp, fun x hx => by simp at hx; subst hx; show (0 : Int).natAbs < 2 ^ 40; decide⟩, ?_⟩
      have ap := app_hs (out := []) (x := 0) (by decide)
      simp at ap lenO
      simp [Ip.run, streamFn, hb, fits, hs0, e, cnd, tst, lenO, ap, lst_hs]
    · have hl : 0 < out.length := List.length_pos_iff.mpr hz
      refine ⟨out, ⟨hz, by omega, fun x hx => by have := p1 x hx; unfold Sm; omega⟩, ?_⟩
      simp at lenO
      simp [Ip.run, streamFn, hb, fits, hs0, e, cnd, tst, lenO, hz]
  obtain ⟨out2, nm, er⟩ := fin
  exact ⟨out2, nm, call_p (ds := [.list (ns.map .int)]) rfl rfl er (toD_obj (h := hsI out2) (n := 0) (xs := out2.map .int) rfl)⟩
abbrev SH (ns : List Int) (i : Int) (rest : Hq) : Hq := IO.lst [.d (.list (ns.map .int)), .d (.int i)] :: rest
def Rs (rest : Hq) : Prop := ∀ x ∈ rest, ∃ xs : List D, x = obj xs
theorem rs_closed {n : Nat} : ∀ {rest : Hq}, Rs rest → closed n rest = true
  | [], _ => rfl
  | x :: rest, h => by
    obtain ⟨xs, rfl⟩ := h x List.mem_cons_self
    show ((xs.map Val.d).all (below n) && closed n rest) = true
    rw [rs_closed fun y hy => h y (List.mem_cons_of_mem _ hy), Bool.and_true, List.all_eq_true]
    intro v hv
    obtain ⟨x, _, rfl⟩ := List.mem_map.mp hv
    rfl
theorem nx {ns : List Int} (hn : Nm ns) {i m : Int} {rest : Hq} (hR : Rs rest) (hi : 0 ≤ i) (hi2 : i < 1000000) (hm : 0 < m) :
    ∃ v : Int, 0 ≤ v ∧ v < m ∧ callR F C nextFn [.ref 0, .d (.int m)] (SH ns i rest) = .ok (.d (.int v)) (SH ns (i + 1) rest) := by
  have hl : 0 < ns.length := List.length_pos_iff.mpr hn.ne
  have hl0 : (ns.length : Int) ≠ 0 := by omega
  have k0 : 0 ≤ (i + 1).fmod ns.length := by rw [Int.fmod_eq_emod_of_nonneg _ (by omega)]; exact Int.emod_nonneg _ hl0
  have k1 : (i + 1).fmod ns.length < ns.length := by rw [Int.fmod_eq_emod_of_nonneg _ (by omega)]; exact Int.emod_lt_of_pos _ (by omega)
  obtain ⟨k, hk⟩ := Int.eq_ofNat_of_zero_le k0
  have hkl : k < ns.length := by omega
  have at1 : atD ((ns.map PyData.int).map Val.d) ((i + 1).fmod ns.length) = some (.d (.int ns[k])) := by
    rw [hk, atD_nat (by simpa using hkl)]
    simp
  have d1 : okDiv (ns.length : Int) = true := okDiv_sm (n := 20) (show (ns.length : Int).natAbs < 2 ^ 20 by have := hn.len; omega) hl0 (by decide)
  have q0 : 0 ≤ (i + 1).fdiv ns.length := by rw [Int.fdiv_eq_ediv_of_nonneg _ (by omega)]; exact Int.ediv_nonneg (by omega) (by omega)
  have q1 : (i + 1).fdiv ns.length ≤ i + 1 := by rw [Int.fdiv_eq_ediv_of_nonneg _ (by omega)]; exact Int.ediv_le_self _ (by omega)
  have sq : Sm 40 ((i + 1).fdiv ns.length) := by unfold Sm; omega
  have si : Sm 40 (i + 1) := by unfold Sm; omega
  have s389 : Sm 10 389 := (show (389 : Int).natAbs < 2 ^ 10 by decide)
  have s17 : Sm 10 17 := (show (17 : Int).natAbs < 2 ^ 10 by decide)
  have m1 := okMul_sm sq s389 (by decide)
  have m2 := okMul_sm si sq (by decide)
  have m3 := okMul_sm (si.mul sq) s17 (by decide)
  have hm0 : ¬ m = 0 := by omega
  refine ⟨((ns[k] + (i + 1).fdiv ns.length * 389 + (i + 1) * (i + 1).fdiv ns.length * 17)).fmod m, ?_, ?_, ?_⟩
  · rw [Int.fmod_eq_emod_of_nonneg _ (by omega)]; exact Int.emod_nonneg _ hm0
  · rw [Int.fmod_eq_emod_of_nonneg _ (by omega)]; exact Int.emod_lt_of_pos _ hm
  · have e : Ip.run F C nextFn [.ref 0, .d (.int m)] (SH ns i rest) = .ok (.d (.int (((ns[k] + (i + 1).fdiv ns.length * 389 + (i + 1) * (i + 1).fdiv ns.length * 17)).fmod m))) (SH ns (i + 1) rest) := by
      have at2 := at1
      simp only [List.map_map] at at2
      simp [Ip.run, nextFn, nextB, ixV, ixW, dct, dctR, els, setV, setW, ixn, hl0, hn.ne, d1, m1, m2, m3, hm0, at2]
    have tk : (SH ns (i + 1) rest).take ((SH ns i rest).length) = SH ns (i + 1) rest := List.take_of_length_le (by simp)
    have := call_s (W := F) (C := C) (fn := nextFn) (vs := [.ref 0, .d (.int m)]) (h := SH ns i rest) rfl rfl e rfl (by
      rw [tk]
      show (([Val.d (.list (ns.map .int)), Val.d (.int (i + 1))] : List Val).all (below _) && closed _ rest) = true
      rw [rs_closed hR]; rfl)
    rw [tk] at this
    exact this
theorem vals_nat {Q : Nat → Prop} : ∀ {xs : List Val}, (∀ x ∈ xs, ∃ s : Nat, x = .d (.int (s : Int)) ∧ Q s) → ∃ ss : List Nat, xs = ((si ss).map PyData.int).map .d ∧ ∀ s ∈ ss, Q s
  | [], _ => ⟨[], rfl, fun s hs => by cases hs⟩
  | x :: xs, h => by
    obtain ⟨s, rfl, q⟩ := h x List.mem_cons_self
    obtain ⟨ss, rfl, r⟩ := vals_nat (xs := xs) fun y hy => h y (List.mem_cons_of_mem _ hy)
    refine ⟨s :: ss, rfl, fun t ht => ?_⟩
    rcases List.mem_cons.mp ht with rfl | ht
    · exact q
    · exact r t ht
structure Shw (x : D) : Prop where
  sh : x.showable = true
  nd : x.hasDict = false
  dp : x.depth ≤ 5
  sz : Ip.sz x ≤ 1000000
theorem shw_b (b : Bool) : Shw (.bool b) := ⟨rfl, rfl, by show 0 ≤ 5; decide, by show 5 ≤ 1000000; decide⟩
theorem ints_shw {n : Nat} (hn : n < 1920) : ∀ xs : List Int, (∀ x ∈ xs, Sm n x) → PyData.showableAll (xs.map .int) = true ∧ PyData.hasDictAll (xs.map .int) = false ∧ PyData.depthAll (xs.map .int) = 0 ∧ szAll (xs.map .int) = 2002 * xs.length
  | [], _ => ⟨rfl, rfl, rfl, rfl⟩
  | x :: xs, h => by
    obtain ⟨a, b, c, d⟩ := ints_shw hn xs fun y hy => h y (List.mem_cons_of_mem _ hy)
    have o := OkR.int (h x List.mem_cons_self) hn
    refine ⟨?_, ?_, ?_, ?_⟩
    · show ((PyData.int x).showable && _) = true
      rw [o.sh, a]; rfl
    · show (false || _) = false
      rw [b]; rfl
    · show max 0 _ = 0
      rw [c]; rfl
    · show 2000 + 2 + szAll (xs.map .int) = _
      rw [d, List.length_cons]; omega
theorem told_len : (reprText ("told" : Str)).length ≤ 100 := by
  have cp : ∀ c ∈ ("told" : Str).cps.toList, c < 16 ^ 8 := fun c hc => by
    rw [Str.ofString_eq_toList] at hc
    simp at hc
    rcases hc with rfl | rfl | rfl | rfl <;> decide
  have := StrLaws.reprText_len _ cp
  have l : ("told" : Str).length = 4 := rfl
  omega
theorem okr_2 {x y : D} (a : Shw x) (b : Shw y) : OkR (.list [.tuple [.str "told", x], .tuple [.str "told", y]]) := by
  refine ⟨?_, ?_, ?_, ?_⟩
  · show ((true && (x.showable && true)) && ((true && (y.showable && true)) && true)) = true
    rw [a.sh, b.sh]; rfl
  · show ((false || (x.hasDict || false)) || ((false || (y.hasDict || false)) || false)) = false
    rw [a.nd, b.nd]; rfl
  · show max (max 0 (max x.depth 0) + 1) (max (max 0 (max y.depth 0) + 1) 0) + 1 ≤ 50
    have := a.dp
    have := b.dp
    omega
  · show 2 + ((4 + ((reprText ("told" : Str)).length + 2 + (Ip.sz x + 2 + 0))) + 2 + ((4 + ((reprText ("told" : Str)).length + 2 + (Ip.sz y + 2 + 0))) + 2 + 0)) ≤ 16000000
    have := a.sz
    have := b.sz
    have := told_len
    omega
theorem told_v {ws : List Str} {x : D} : toldV ws (.ok (.d x) h) = .ok (.d (.tuple [.str "told", x])) h := rfl
end
end Ip

set_option linter.all false
set_option Elab.async false
set_option autoImplicit false
set_option maxRecDepth 100000
namespace K12
open PySem L2 PyProof.Rows Ip
/-! ### the text, as the evaluator has it -/
def topS (i : Nat) : Stmt := PySem.Challenge.pw_cellshapes_k12_whole_bricks_in_boxes.main.body.getD i (.Pass ⟨0, 0, 0, 0⟩)
def toldWs : List Str := ["refused", "large", "missing"]
/-- check_sides -/
def b_check_sides : List Ip.St :=
  [.iff (.or_ (.not_ (.chn .le .le (.lit (.int 1)) (.var 0) (.lit (.int 1000000)))) (.not_ (.chn .le .le (.lit (.int 1)) (.var 1) (.lit (.int 1000000)))))
     [.rse 0]
     []]
def f_check_sides : Fn := ⟨2, 2, true, b_check_sides⟩
/-- check_brick -/
def b_check_brick : List Ip.St :=
  [.iff (.or_ (.not_ (.chn .le .le (.lit (.int 1)) (.var 0) (.lit (.int 1000)))) (.not_ (.chn .le .le (.lit (.int 1)) (.var 1) (.lit (.int 1000)))))
     [.rse 0]
     []]
def f_check_brick : Fn := ⟨2, 2, true, b_check_brick⟩
/-- divisor -/
def b_divisor : List Ip.St :=
  [.whl (.cmp .gt (.var 1) (.lit (.int 0)))
     [.par 0 1 (.var 1) (.bin .mod (.var 0) (.var 1))],
   .ret (.var 0)]
def f_divisor : Fn := ⟨2, 2, true, b_divisor⟩
/-- sum_of -/
def b_sum_of : List Ip.St :=
  [.for_ (.nm 3) (.rng (.var 2))
     [.iff (.and_ (.cmp .le (.bin .mul (.var 3) (.var 1)) (.var 0)) (.cmp .eq (.bin .mod (.bin .sub (.var 0) (.bin .mul (.var 3) (.var 1))) (.var 2)) (.lit (.int 0))))
        [.ret (.tup [(.var 3), (.bin .fdiv (.bin .sub (.var 0) (.bin .mul (.var 3) (.var 1))) (.var 2))])]
        []],
   .ret (.lit .none)]
def f_sum_of : Fn := ⟨3, 4, true, b_sum_of⟩
/-- reduced -/
def b_reduced : List Ip.St :=
  [.set 4 (.call 2 [(.var 2), (.var 3)]),
   .iff (.or_ (.cmp .ne (.bin .mod (.var 0) (.var 4)) (.lit (.int 0))) (.cmp .ne (.bin .mod (.var 1) (.var 4)) (.lit (.int 0))))
     [.ret (.lit .none)]
     [],
   .ret (.tup [(.bin .fdiv (.var 0) (.var 4)), (.bin .fdiv (.var 1) (.var 4)), (.bin .fdiv (.var 2) (.var 4)), (.bin .fdiv (.var 3) (.var 4))])]
def f_reduced : Fn := ⟨4, 5, true, b_reduced⟩
/-- can_fill -/
def b_can_fill : List Ip.St :=
  [.exp (.call 0 [(.var 0), (.var 1)]),
   .exp (.call 1 [(.var 2), (.var 3)]),
   .ret (.cmp .isN (.call 6 [(.var 0), (.var 1), (.var 2), (.var 3)]) (.lit .none))]
def f_can_fill : Fn := ⟨4, 4, true, b_can_fill⟩
/-- known_bar -/
def b_known_bar : List Ip.St :=
  [.set 4 (.call 4 [(.var 0), (.var 1), (.var 2), (.var 3)]),
   .iff (.cmp .isN (.var 4) (.lit .none))
     [.ret (.tup [(.lit (.str "part")), (.call 2 [(.var 2), (.var 3)])])]
     [],
   .asg (.tp [0, 1, 2, 3]) (.var 4),
   .for_ (.nm 5) (.val (.tup [(.var 2), (.var 3)]))
     [.iff (.and_ (.cmp .ne (.bin .mod (.var 0) (.var 5)) (.lit (.int 0))) (.cmp .ne (.bin .mod (.var 1) (.var 5)) (.lit (.int 0))))
        [.ret (.tup [(.lit (.str "side")), (.var 5)])]
        []],
   .for_ (.tp [6, 5]) (.val (.tup [(.tup [(.lit (.str "rows")), (.var 0)]), (.tup [(.lit (.str "columns")), (.var 1)])]))
     [.iff (.cmp .isN (.call 3 [(.var 5), (.var 2), (.var 3)]) (.lit .none))
        [.ret (.tup [(.var 6), (.var 5)])]
        []],
   .ret (.lit .none)]
def f_known_bar : Fn := ⟨4, 7, true, b_known_bar⟩
/-- bar -/
def b_bar : List Ip.St :=
  [.exp (.call 0 [(.var 0), (.var 1)]),
   .exp (.call 1 [(.var 2), (.var 3)]),
   .set 4 (.call 6 [(.var 0), (.var 1), (.var 2), (.var 3)]),
   .iff (.cmp .isN (.var 4) (.lit .none))
     [.rse 2]
     [],
   .ret (.var 4)]
def f_bar : Fn := ⟨4, 5, true, b_bar⟩
/-- filling -/
def b_filling : List Ip.St :=
  [.iff (.not_ (.call 5 [(.var 0), (.var 1), (.var 2), (.var 3)]))
     [.rse 2]
     [],
   .iff (.or_ (.cmp .gt (.var 0) (.lit (.int 60))) (.cmp .gt (.var 1) (.lit (.int 60))))
     [.rse 1]
     [],
   .set 4 (.new (.cmp [13] (.nm 13) (.rng (.var 0)) [] (.new (.rep (.dsp [(.lit .none)]) (.var 1))))),
   .set 5 (.lit (.int 0)),
   .for_ (.tp [6, 7, 8, 9, 10]) (.val (.call 10 [(.var 0), (.var 1), (.var 2), (.var 3)]))
     [.set 11 (.ife (.var 10) (.tup [(.var 2), (.var 3)]) (.tup [(.var 3), (.var 2)])),
      .for_ (.nm 12) (.rng3 (.var 6) (.bin .add (.var 6) (.var 8)) (.ix (.var 11) (.lit (.int 0))))
        [.for_ (.nm 14) (.rng3 (.var 7) (.bin .add (.var 7) (.var 9)) (.ix (.var 11) (.lit (.int 1))))
           [.exp (.call 9 [(.var 4), (.var 12), (.var 14), (.var 11), (.var 5)]),
            .set 5 (.bin .add (.var 5) (.lit (.int 1)))]]],
   .ret (.tupO (.ofL (.cmp [15] (.nm 15) (.val (.frzD (.var 4))) [] (.tupO (.var 15)))))]
def f_filling : Fn := ⟨4, 16, true, b_filling⟩
/-- put -/
def b_put : List Ip.St :=
  [.for_ (.nm 5) (.rng (.ix (.var 3) (.lit (.int 0))))
     [.for_ (.nm 6) (.rng (.ix (.var 3) (.lit (.int 1))))
        [.six (.ix (.var 0) (.bin .add (.var 1) (.var 5))) (.bin .add (.var 2) (.var 6)) (.var 4)]]]
def f_put : Fn := ⟨5, 7, false, b_put⟩
/-- blocks -/
def b_blocks : List Ip.St :=
  [.iff (.and_ (.cmp .eq (.bin .mod (.var 0) (.var 2)) (.lit (.int 0))) (.cmp .eq (.bin .mod (.var 1) (.var 3)) (.lit (.int 0))))
     [.ret (.ofL (.dsp [(.tup [(.lit (.int 0)), (.lit (.int 0)), (.var 0), (.var 1), (.lit (.bool true))])]))]
     [],
   .iff (.and_ (.cmp .eq (.bin .mod (.var 0) (.var 3)) (.lit (.int 0))) (.cmp .eq (.bin .mod (.var 1) (.var 2)) (.lit (.int 0))))
     [.ret (.ofL (.dsp [(.tup [(.lit (.int 0)), (.lit (.int 0)), (.var 0), (.var 1), (.lit (.bool false))])]))]
     [],
   .iff (.and_ (.cmp .eq (.bin .mod (.var 0) (.var 2)) (.lit (.int 0))) (.cmp .eq (.bin .mod (.var 0) (.var 3)) (.lit (.int 0))))
     [.asg (.tp [6, 7]) (.call 3 [(.var 1), (.var 2), (.var 3)]),
      .ret (.ofL (.dsp [(.tup [(.lit (.int 0)), (.lit (.int 0)), (.var 0), (.bin .mul (.var 6) (.var 2)), (.lit (.bool false))]), (.tup [(.lit (.int 0)), (.bin .mul (.var 6) (.var 2)), (.var 0), (.bin .mul (.var 7) (.var 3)), (.lit (.bool true))])]))]
     [],
   .asg (.tp [4, 5]) (.call 3 [(.var 0), (.var 2), (.var 3)]),
   .ret (.ofL (.dsp [(.tup [(.lit (.int 0)), (.lit (.int 0)), (.bin .mul (.var 4) (.var 2)), (.var 1), (.lit (.bool true))]), (.tup [(.bin .mul (.var 4) (.var 2)), (.lit (.int 0)), (.bin .mul (.var 5) (.var 3)), (.var 1), (.lit (.bool false))])]))]
def f_blocks : Fn := ⟨4, 8, true, b_blocks⟩
/-- judge_filling -/
def b_judge_filling : List Ip.St :=
  [.exp (.call 0 [(.var 0), (.var 1)]),
   .exp (.call 1 [(.var 2), (.var 3)]),
   .iff (.or_ (.cmp .ne (.prm .len [(.var 4)]) (.var 0)) (.not_ (.prm .all [(.ofL (.cmp [7] (.nm 7) (.val (.var 4)) [] (.cmp .eq (.prm .len [(.var 7)]) (.var 1))))])))
     [.ret (.lit (.bool false))]
     [],
   .set 5 (.dnew false),
   .for_ (.tp [6, 7]) (.enm (.var 4))
     [.for_ (.tp [8, 9]) (.enm (.var 7))
        [.exp (.app (.sdf (.var 5) (.var 9) (.new (.dsp []))) (.tup [(.var 6), (.var 8)]))]],
   .ret (.prm .all [(.ofL (.cmp [10] (.nm 10) (.vals (.var 5)) [] (.call 12 [(.var 10), (.var 2), (.var 3)])))])]
def f_judge_filling : Fn := ⟨5, 11, true, b_judge_filling⟩
/-- is_brick -/
def b_is_brick : List Ip.St :=
  [.set 3 (.bin .add (.bin .sub (.ix (.ix (.var 0) (.neg (.lit (.int 1)))) (.lit (.int 0))) (.ix (.ix (.var 0) (.lit (.int 0))) (.lit (.int 0)))) (.lit (.int 1))),
   .set 4 (.bin .add (.bin .sub (.ix (.ix (.var 0) (.neg (.lit (.int 1)))) (.lit (.int 1))) (.ix (.ix (.var 0) (.lit (.int 0))) (.lit (.int 1)))) (.lit (.int 1))),
   .iff (.or_ (.cmp .nin (.tup [(.var 3), (.var 4)]) (.tup [(.tup [(.var 1), (.var 2)]), (.tup [(.var 2), (.var 1)])])) (.cmp .ne (.prm .len [(.var 0)]) (.bin .mul (.var 3) (.var 4))))
     [.ret (.lit (.bool false))]
     [],
   .ret (.prm .all [(.ofL (.cmp [5, 6] (.tp [5, 6]) (.enm (.var 0)) [] (.cmp .eq (.var 6) (.tup [(.bin .add (.ix (.ix (.var 0) (.lit (.int 0))) (.lit (.int 0))) (.bin .fdiv (.var 5) (.var 4))), (.bin .add (.ix (.ix (.var 0) (.lit (.int 0))) (.lit (.int 1))) (.bin .mod (.var 5) (.var 4)))]))))])]
def f_is_brick : Fn := ⟨3, 7, true, b_is_brick⟩
/-- least_box -/
def b_least_box : List Ip.St :=
  [.exp (.call 1 [(.var 0), (.var 1)]),
   .iff (.or_ (.not_ (.chn .le .le (.lit (.int 1)) (.var 2) (.lit (.int 1000)))) (.or_ (.cmp .gt (.var 0) (.lit (.int 60))) (.cmp .gt (.var 1) (.lit (.int 60)))))
     [.rse 0]
     [],
   .set 3 (.ofL (.cmp [4] (.nm 4) (.rng2 (.lit (.int 1)) (.bin .add (.bin .mul (.var 0) (.var 1)) (.lit (.int 1)))) [(.cmp .isN (.call 6 [(.var 4), (.var 2), (.var 0), (.var 1)]) (.lit .none))] (.var 4))),
   .ret (.ife (.cmp .gt (.prm .len [(.var 3)]) (.lit (.int 0))) (.ix (.var 3) (.lit (.int 0))) (.lit .none))]
def f_least_box : Fn := ⟨3, 5, true, b_least_box⟩
/-- _law_same -/
def b__law_same : List Ip.St :=
  [.ret (.cmp .eq (.prm .repr [(.ofL (.dsp [(.var 0)]))]) (.prm .repr [(.ofL (.dsp [(.var 1)]))]))]
def f__law_same : Fn := ⟨2, 2, true, b__law_same⟩
/-- _law_stream -/
def b__law_stream : List Ip.St :=
  [.set 1 (.new (.dsp [])),
   .for_ (.nm 2) (.val (.slc (.var 0) none (some (.lit (.int 63)))))
     [.set 3 (.prm .abs [(.prm .int [(.var 2)])]),
      .iff (.cmp .ge (.var 3) (.bin .pow (.lit (.int 10)) (.lit (.int 18))))
        [.for_ (.nm 4) (.rng (.lit (.int 60)))
           [.exp (.app (.var 1) (.bin .mod (.prm .int [(.var 3)]) (.lit (.int 1009)))),
            .set 3 (.bin .fdiv (.var 3) (.lit (.int 1009))),
            .iff (.cmp .eq (.var 3) (.lit (.int 0)))
              [.brk]
              []]]
        [.set 5 (.bin .mod (.prm .int [(.var 3)]) (.lit (.int 2147483647))),
         .for_ (.nm 4) (.rng (.lit (.int 10)))
           [.set 5 (.bin .mod (.prm .int [(.bin .add (.bin .add (.bin .mul (.var 5) (.lit (.int 48271))) (.bin .mul (.lit (.int 7)) (.var 4))) (.lit (.int 11)))]) (.lit (.int 2147483647))),
            .exp (.app (.var 1) (.bin .mod (.bin .mod (.prm .int [(.bin .add (.bin .mul (.var 5) (.lit (.int 69621))) (.var 4))]) (.lit (.int 2147483629))) (.lit (.int 1009))))]]],
   .iff (.cmp .eq (.prm .len [(.var 1)]) (.lit (.int 0)))
     [.exp (.app (.var 1) (.lit (.int 0)))]
     [],
   .ret (.var 1)]
def f__law_stream : Fn := ⟨1, 6, true, b__law_stream⟩
/-- _law_next -/
def b__law_next : List Ip.St :=
  [.six (.var 0) (.lit (.int 1)) (.bin .add (.ix (.var 0) (.lit (.int 1))) (.lit (.int 1))),
   .set 2 (.bin .fdiv (.ix (.var 0) (.lit (.int 1))) (.prm .len [(.ix (.var 0) (.lit (.int 0)))])),
   .ret (.bin .mod (.prm .int [(.bin .add (.bin .add (.ix (.ix (.var 0) (.lit (.int 0))) (.bin .mod (.ix (.var 0) (.lit (.int 1))) (.prm .len [(.ix (.var 0) (.lit (.int 0)))]))) (.bin .mul (.var 2) (.lit (.int 389)))) (.bin .mul (.bin .mul (.ix (.var 0) (.lit (.int 1))) (.var 2)) (.lit (.int 17))))]) (.var 1))]
def f__law_next : Fn := ⟨2, 3, false, b__law_next⟩
/-- _law_divisor -/
def b__law_divisor : List Ip.St :=
  [.whl (.cmp .gt (.var 1) (.lit (.int 0)))
     [.par 0 1 (.var 1) (.bin .mod (.prm .int [(.var 0)]) (.var 1))],
   .ret (.var 0)]
def f__law_divisor : Fn := ⟨2, 2, true, b__law_divisor⟩
/-- _law_sum -/
def b__law_sum : List Ip.St :=
  [.ret (.prm .any [(.ofL (.cmp [3] (.nm 3) (.rng (.var 2)) [] (.and_ (.cmp .eq (.bin .mod (.prm .int [(.bin .sub (.var 0) (.bin .mul (.var 1) (.var 3)))]) (.var 2)) (.lit (.int 0))) (.cmp .le (.bin .mul (.var 1) (.var 3)) (.var 0)))))])]
def f__law_sum : Fn := ⟨3, 4, true, b__law_sum⟩
/-- _law_bar -/
def b__law_bar : List Ip.St :=
  [.set 4 (.call 17 [(.var 2), (.var 3)]),
   .iff (.or_ (.cmp .ne (.bin .mod (.prm .int [(.var 0)]) (.var 4)) (.lit (.int 0))) (.cmp .ne (.bin .mod (.prm .int [(.var 1)]) (.var 4)) (.lit (.int 0))))
     [.ret (.tup [(.lit (.str "part")), (.var 4)])]
     [],
   .asg (.tp [0, 1, 2, 3]) (.ofL (.cmp [6] (.nm 6) (.val (.ofL (.dsp [(.var 0), (.var 1), (.var 2), (.var 3)]))) [] (.bin .fdiv (.var 6) (.var 4)))),
   .for_ (.nm 5) (.val (.ofL (.dsp [(.var 2), (.var 3)])))
     [.iff (.and_ (.cmp .ne (.bin .mod (.prm .int [(.var 0)]) (.var 5)) (.lit (.int 0))) (.cmp .ne (.bin .mod (.prm .int [(.var 1)]) (.var 5)) (.lit (.int 0))))
        [.ret (.tup [(.lit (.str "side")), (.var 5)])]
        []],
   .iff (.not_ (.call 18 [(.var 0), (.var 2), (.var 3)]))
     [.ret (.tup [(.lit (.str "rows")), (.var 0)])]
     [],
   .iff (.not_ (.call 18 [(.var 1), (.var 2), (.var 3)]))
     [.ret (.tup [(.lit (.str "columns")), (.var 1)])]
     [],
   .ret (.lit .none)]
def f__law_bar : Fn := ⟨4, 7, true, b__law_bar⟩
/-- _law_found -/
def b__law_found : List Ip.St :=
  [.set 4 (.bin .mul (.var 0) (.var 1)),
   .set 5 (.new (.dsp [(.bin .mul (.tup [(.lit (.int 0))]) (.var 1))])),
   .set 6 (.ddsp true (.frz (.ix (.var 5) (.lit (.int 0)))) (.lit (.bool true))),
   .for_ (.nm 7) (.rng (.lit (.int 40000)))
     [.iff (.cmp .eq (.var 5) (.ofL (.dsp [])))
        [.ret (.lit (.bool false))]
        [],
      .set 8 (.ofL (.lst (.pop (.var 5)))),
      .iff (.cmp .eq (.prm .sum [(.var 8)]) (.var 4))
        [.ret (.lit (.bool true))]
        [],
      .set 9 (.prm .min1 [(.var 8)]),
      .set 10 (.lidx (.var 8) (.var 9)),
      .for_ (.tp [11, 12]) (.val (.ofL (.dsp [(.tup [(.var 2), (.var 3)]), (.tup [(.var 3), (.var 2)])])))
        [.iff (.and_ (.cmp .le (.bin .add (.var 9) (.var 11)) (.var 0)) (.and_ (.cmp .le (.bin .add (.var 10) (.var 12)) (.var 1)) (.cmp .eq (.prm .max1 [(.slc (.var 8) (some (.var 10)) (some (.bin .add (.var 10) (.var 12))))]) (.var 9))))
           [.set 13 (.tupO (.ofL (.cat (.ofL (.cat (.slc (.var 8) none (some (.var 10))) (.ofL (.rep (.dsp [(.bin .add (.var 9) (.var 11))]) (.var 12))))) (.slc (.var 8) (some (.bin .add (.var 10) (.var 12))) none)))),
            .iff (.cmp .nin (.var 13) (.var 6))
              [.six (.var 6) (.var 13) (.lit (.bool true)),
               .exp (.app (.var 5) (.var 13))]
              []]
           []]],
   .ret (.lit .none)]
def f__law_found : Fn := ⟨4, 14, true, b__law_found⟩
/-- _law_right -/
def b__law_right : List Ip.St :=
  [.iff (.or_ (.cmp .ne (.prm .len [(.var 4)]) (.var 0)) (.prm .any [(.ofL (.cmp [13] (.nm 13) (.val (.var 4)) [] (.cmp .ne (.prm .len [(.var 13)]) (.var 1))))]))
     [.ret (.lit (.bool false))]
     [],
   .set 5 (.dnew false),
   .for_ (.nm 6) (.rng (.var 0))
     [.for_ (.nm 8) (.rng (.var 1))
        [.six (.var 5) (.ix (.ix (.var 4) (.var 6)) (.var 8)) (.ofL (.cat (.dgt (.var 5) (.ix (.ix (.var 4) (.var 6)) (.var 8)) (.ofL (.dsp []))) (.ofL (.dsp [(.tup [(.var 6), (.var 8)])]))))]],
   .for_ (.nm 7) (.keys (.var 5))
     [.set 9 (.ix (.var 5) (.var 7)),
      .asg (.tp [11, 12]) (.ix (.var 9) (.lit (.int 0))),
      .set 10 (.ofL (.cmp [14, 15] (.tp [14, 15]) (.val (.ofL (.dsp [(.tup [(.var 2), (.var 3)]), (.tup [(.var 3), (.var 2)])]))) [] (.ofL (.cmp [8] (.nm 8) (.rng (.bin .mul (.var 14) (.var 15))) [] (.tup [(.bin .add (.var 11) (.bin .fdiv (.var 8) (.var 15))), (.bin .add (.var 12) (.bin .mod (.prm .int [(.var 8)]) (.var 15)))]))))),
      .iff (.cmp .nin (.var 9) (.var 10))
        [.ret (.lit (.bool false))]
        []],
   .ret (.lit (.bool true))]
def f__law_right : Fn := ⟨5, 16, true, b__law_right⟩
/-- _law_bent -/
def b__law_bent : List Ip.St :=
  [.set 2 (.call 16 [(.var 0), (.prm .len [(.var 1)])]),
   .set 3 (.call 16 [(.var 0), (.prm .len [(.ix (.var 1) (.lit (.int 0)))])]),
   .set 4 (.call 16 [(.var 0), (.lit (.int 4))]),
   .iff (.cmp .eq (.var 4) (.lit (.int 0)))
     [.ret (.bin .add (.bin .add (.slc (.var 1) none (some (.var 2))) (.tup [(.bin .add (.bin .add (.slc (.ix (.var 1) (.var 2)) none (some (.var 3))) (.tup [(.bin .add (.ix (.ix (.var 1) (.var 2)) (.var 3)) (.lit (.int 1)))])) (.slc (.ix (.var 1) (.var 2)) (some (.bin .add (.var 3) (.lit (.int 1)))) none))])) (.slc (.var 1) (some (.bin .add (.var 2) (.lit (.int 1)))) none))]
     [],
   .iff (.cmp .eq (.var 4) (.lit (.int 1)))
     [.ret (.bin .add (.slc (.var 1) (some (.var 2)) none) (.slc (.var 1) none (some (.var 2))))]
     [],
   .iff (.cmp .eq (.var 4) (.lit (.int 2)))
     [.ret (.tupO (.ofL (.cmp [5] (.nm 5) (.val (.var 1)) [] (.rev (.var 5)))))]
     [],
   .ret (.slc (.var 1) (some (.lit (.int 1))) none)]
def f__law_bent : Fn := ⟨2, 6, false, b__law_bent⟩
/-- _law_refuses -/
def b__law_refuses : List Ip.St :=
  [.set 0 (.ofL (.dsp [(.told toldWs (.call 5 [(.lit (.int 0)), (.lit (.int 1)), (.lit (.int 1)), (.lit (.int 1))])), (.told toldWs (.call 5 [(.lit (.int 1)), (.bin .add (.bin .pow (.lit (.int 10)) (.lit (.int 6))) (.lit (.int 1))), (.lit (.int 1)), (.lit (.int 1))])), (.told toldWs (.call 5 [(.lit (.int 1)), (.lit (.int 1)), (.lit (.int 0)), (.lit (.int 1))])), (.told toldWs (.call 5 [(.lit (.int 1)), (.lit (.int 1)), (.lit (.int 1)), (.lit (.int 1001))])), (.told toldWs (.call 7 [(.lit (.int 1)), (.lit (.int 0)), (.lit (.int 1)), (.lit (.int 1))])), (.told toldWs (.call 7 [(.lit (.int 1)), (.lit (.int 1)), (.neg (.lit (.int 1))), (.lit (.int 1))]))])),
   .set 0 (.ofL (.cat (.var 0) (.ofL (.dsp [(.told toldWs (.call 8 [(.lit (.int 0)), (.lit (.int 1)), (.lit (.int 1)), (.lit (.int 1))])), (.told toldWs (.call 8 [(.lit (.int 1)), (.lit (.int 1)), (.lit (.int 1001)), (.lit (.int 1))])), (.told toldWs (.call 11 [(.lit (.int 0)), (.lit (.int 1)), (.lit (.int 1)), (.lit (.int 1)), (.tup [])])), (.told toldWs (.call 11 [(.lit (.int 1)), (.lit (.int 1)), (.lit (.int 0)), (.lit (.int 1)), (.tup [(.tup [(.lit (.int 0))])])])), (.told toldWs (.call 13 [(.lit (.int 61)), (.lit (.int 1)), (.lit (.int 1))])), (.told toldWs (.call 13 [(.lit (.int 1)), (.lit (.int 0)), (.lit (.int 1))]))])))),
   .ret (.cmp .eq (.ofL (.cat (.var 0) (.ofL (.dsp [(.told toldWs (.call 13 [(.lit (.int 1)), (.lit (.int 1)), (.lit (.int 1001))])), (.told toldWs (.call 13 [(.lit (.int 1)), (.lit (.int 1)), (.lit (.int 0))]))])))) (.ofL (.rep (.dsp [(.tup [(.lit (.str "refused"))])]) (.lit (.int 14)))))]
def f__law_refuses : Fn := ⟨0, 1, true, b__law_refuses⟩
/-- law -/
def b_law : List Ip.St :=
  [.set 1 (.new (.dsp [(.call 15 [(.var 0)]), (.lit (.int 0))])),
   .for_ (.nm 2) (.rng (.lit (.int 5)))
     [.set 3 (.bin .add (.lit (.int 1)) (.call 16 [(.var 1), (.lit (.int 4))])),
      .set 4 (.bin .add (.lit (.int 1)) (.call 16 [(.var 1), (.lit (.int 5))])),
      .set 5 (.bin .add (.lit (.int 1)) (.call 16 [(.var 1), (.ix (.ofL (.dsp [(.lit (.int 7)), (.lit (.int 14))])) (.call 16 [(.var 1), (.lit (.int 2))]))])),
      .set 6 (.bin .add (.lit (.int 1)) (.call 16 [(.var 1), (.ix (.ofL (.dsp [(.lit (.int 7)), (.lit (.int 14))])) (.call 16 [(.var 1), (.lit (.int 2))]))])),
      .set 7 (.call 19 [(.var 5), (.var 6), (.var 3), (.var 4)]),
      .iff (.cmp .lt (.bin .mul (.var 5) (.var 6)) (.lit (.int 50)))
        [.set 19 (.call 20 [(.var 5), (.var 6), (.var 3), (.var 4)]),
         .iff (.and_ (.cmp .notN (.var 19) (.lit .none)) (.cmp .ne (.var 19) (.cmp .isN (.var 7) (.lit .none))))
           [.ret (.lit (.bool false))]
           []]
        [],
      .set 8 (.ofL (.dsp [(.told toldWs (.call 5 [(.var 5), (.var 6), (.var 3), (.var 4)])), (.told toldWs (.call 7 [(.var 5), (.var 6), (.var 3), (.var 4)]))])),
      .iff (.not_ (.call 14 [(.var 8), (.ofL (.dsp [(.tup [(.lit (.str "told")), (.cmp .isN (.var 7) (.lit .none))]), (.ix (.ofL (.dsp [(.tup [(.lit (.str "missing"))]), (.tup [(.lit (.str "told")), (.var 7)])])) (.prm .int [(.cmp .notN (.var 7) (.lit .none))]))]))]))
        [.ret (.lit (.bool false))]
        [],
      .set 9 (.told toldWs (.call 8 [(.var 5), (.var 6), (.var 3), (.var 4)])),
      .set 10 (.ofL (.dsp [(.tupO (.ofL (.cmp [20] (.nm 20) (.rng (.var 5)) [] (.tupO (.ofL (.cmp [21] (.nm 21) (.rng (.var 6)) [] (.bin .add (.bin .mul (.bin .fdiv (.var 20) (.prm .max2 [(.lit (.int 1)), (.var 3)])) (.lit (.int 50))) (.bin .fdiv (.var 21) (.prm .max2 [(.lit (.int 1)), (.var 4)]))))))))), (.tupO (.ofL (.cmp [20] (.nm 20) (.rng (.var 5)) [] (.tupO (.ofL (.cmp [21] (.nm 21) (.rng (.var 6)) [] (.bin .add (.bin .mul (.bin .fdiv (.var 20) (.prm .max2 [(.lit (.int 1)), (.var 4)])) (.lit (.int 50))) (.bin .fdiv (.var 21) (.prm .max2 [(.lit (.int 1)), (.var 3)])))))))))])),
      .iff (.cmp .notN (.var 7) (.lit .none))
        [.iff (.cmp .ne (.var 9) (.tup [(.lit (.str "missing"))]))
           [.ret (.lit (.bool false))]
           []]
        [.iff (.or_ (.cmp .ne (.ix (.var 9) (.lit (.int 0))) (.lit (.str "told"))) (.not_ (.call 21 [(.var 5), (.var 6), (.var 3), (.var 4), (.ix (.var 9) (.lit (.int 1)))])))
           [.ret (.lit (.bool false))]
           [],
         .set 10 (.ofL (.cat (.var 10) (.ofL (.dsp [(.ix (.var 9) (.lit (.int 1))), (.call 22 [(.var 1), (.ix (.var 9) (.lit (.int 1)))]), (.call 22 [(.var 1), (.ix (.var 9) (.lit (.int 1)))])]))))],
      .for_ (.nm 11) (.val (.var 10))
        [.iff (.not_ (.call 14 [(.told toldWs (.call 11 [(.var 5), (.var 6), (.var 3), (.var 4), (.var 11)])), (.tup [(.lit (.str "told")), (.call 21 [(.var 5), (.var 6), (.var 3), (.var 4), (.var 11)])])]))
           [.ret (.lit (.bool false))]
           []],
      .set 12 (.ofL (.dsp [(.bin .add (.lit (.int 1)) (.call 16 [(.var 1), (.lit (.int 1000))])), (.bin .mul (.bin .add (.lit (.int 1)) (.call 16 [(.var 1), (.lit (.int 1000))])) (.bin .add (.lit (.int 1)) (.call 16 [(.var 1), (.lit (.int 990))])))])),
      .set 13 (.ofL (.dsp [(.bin .add (.lit (.int 1)) (.call 16 [(.var 1), (.lit (.int 1000))])), (.bin .add (.lit (.int 1)) (.call 16 [(.var 1), (.lit (.int 60))]))])),
      .set 14 (.ix (.ofL (.dsp [(.tup [(.ix (.var 13) (.lit (.int 0))), (.ix (.var 13) (.lit (.int 1)))]), (.tup [(.ix (.var 13) (.lit (.int 1))), (.ix (.var 13) (.lit (.int 1)))])])) (.call 16 [(.var 1), (.lit (.int 2))])),
      .set 7 (.call 19 [(.ix (.var 12) (.lit (.int 1))), (.bin .mul (.ix (.var 12) (.lit (.int 0))) (.ix (.var 13) (.lit (.int 1)))), (.ix (.var 14) (.lit (.int 0))), (.ix (.var 14) (.lit (.int 1)))]),
      .set 8 (.ofL (.dsp [(.told toldWs (.call 5 [(.ix (.var 12) (.lit (.int 1))), (.bin .mul (.ix (.var 12) (.lit (.int 0))) (.ix (.var 13) (.lit (.int 1)))), (.ix (.var 14) (.lit (.int 0))), (.ix (.var 14) (.lit (.int 1)))])), (.told toldWs (.call 7 [(.ix (.var 12) (.lit (.int 1))), (.bin .mul (.ix (.var 12) (.lit (.int 0))) (.ix (.var 13) (.lit (.int 1)))), (.ix (.var 14) (.lit (.int 0))), (.ix (.var 14) (.lit (.int 1)))]))])),
      .iff (.not_ (.call 14 [(.var 8), (.ofL (.dsp [(.tup [(.lit (.str "told")), (.cmp .isN (.var 7) (.lit .none))]), (.ix (.ofL (.dsp [(.tup [(.lit (.str "missing"))]), (.tup [(.lit (.str "told")), (.var 7)])])) (.prm .int [(.cmp .notN (.var 7) (.lit .none))]))]))]))
        [.ret (.lit (.bool false))]
        [],
      .set 15 (.bin .add (.lit (.int 1)) (.call 16 [(.var 1), (.lit (.int 12))])),
      .set 16 (.bin .add (.lit (.int 1)) (.call 16 [(.var 1), (.lit (.int 12))])),
      .set 17 (.bin .add (.lit (.int 1)) (.call 16 [(.var 1), (.lit (.int 40))])),
      .set 18 (.ix (.ofL (.cat (.ofL (.cmp [21] (.nm 21) (.rng2 (.lit (.int 1)) (.bin .add (.bin .mul (.var 15) (.var 16)) (.lit (.int 1)))) [(.cmp .isN (.call 19 [(.var 21), (.var 17), (.var 15), (.var 16)]) (.lit .none))] (.var 21))) (.ofL (.dsp [(.lit .none)])))) (.lit (.int 0))),
      .iff (.or_ (.not_ (.call 14 [(.told toldWs (.call 13 [(.var 15), (.var 16), (.var 17)])), (.tup [(.lit (.str "told")), (.var 18)])])) (.not_ (.call 23 [])))
        [.ret (.lit (.bool false))]
        []],
   .ret (.and_ (.cmp .eq (.told toldWs (.call 8 [(.lit (.int 61)), (.lit (.int 2)), (.lit (.int 1)), (.lit (.int 2))])) (.tup [(.lit (.str "large"))])) (.cmp .eq (.told toldWs (.call 8 [(.lit (.int 61)), (.lit (.int 3)), (.lit (.int 2)), (.lit (.int 2))])) (.tup [(.lit (.str "missing"))])))]
def f_law : Fn := ⟨1, 22, true, b_law⟩
def r_check_sides : Row := ⟨"check_sides", f_check_sides, topS 10, ["high", "wide"], ["high", "wide"]⟩
def r_check_brick : Row := ⟨"check_brick", f_check_brick, topS 11, ["one", "two"], ["one", "two"]⟩
def r_divisor : Row := ⟨"divisor", f_divisor, topS 12, ["first", "second"], ["first", "second"]⟩
def r_sum_of : Row := ⟨"sum_of", f_sum_of, topS 13, ["number", "one", "two", "many"], ["number", "one", "two"]⟩
def r_reduced : Row := ⟨"reduced", f_reduced, topS 14, ["high", "wide", "one", "two", "part"], ["high", "wide", "one", "two"]⟩
def r_can_fill : Row := ⟨"can_fill", f_can_fill, topS 15, ["high", "wide", "one", "two"], ["high", "wide", "one", "two"]⟩
def r_known_bar : Row := ⟨"known_bar", f_known_bar, topS 16, ["high", "wide", "one", "two", "small", "side", "name"], ["high", "wide", "one", "two"]⟩
def r_bar : Row := ⟨"bar", f_bar, topS 17, ["high", "wide", "one", "two", "found"], ["high", "wide", "one", "two"]⟩
def r_filling : Row := ⟨"filling", f_filling, topS 18, ["high", "wide", "one", "two", "rows", "number", "top", "left", "tall", "broad", "flat", "sides", "at", "_", "place", "row"], ["high", "wide", "one", "two"]⟩
def r_put : Row := ⟨"put", f_put, topS 19, ["rows", "at", "place", "sides", "number", "down", "right"], ["rows", "at", "place", "sides", "number"]⟩
def r_blocks : Row := ⟨"blocks", f_blocks, topS 20, ["high", "wide", "one", "two", "top", "below", "left", "right"], ["high", "wide", "one", "two"]⟩
def r_judge_filling : Row := ⟨"judge_filling", f_judge_filling, topS 21, ["high", "wide", "one", "two", "rows", "places", "at", "row", "place", "number", "cells"], ["high", "wide", "one", "two", "rows"]⟩
def r_is_brick : Row := ⟨"is_brick", f_is_brick, topS 22, ["cells", "one", "two", "tall", "broad", "at", "cell"], ["cells", "one", "two"]⟩
def r_least_box : Row := ⟨"least_box", f_least_box, topS 23, ["one", "two", "wide", "found", "high"], ["one", "two", "wide"]⟩
def r__law_same : Row := ⟨"_law_same", f__law_same, topS 25, ["told", "due"], ["told", "due"]⟩
def r__law_stream : Row := ⟨"_law_stream", f__law_stream, topS 26, ["script", "numbers", "cell", "rest", "k", "stirred"], ["script"]⟩
def r__law_next : Row := ⟨"_law_next", f__law_next, topS 27, ["state", "many", "turn"], ["state", "many"]⟩
def r__law_divisor : Row := ⟨"_law_divisor", f__law_divisor, topS 29, ["first", "second"], ["first", "second"]⟩
def r__law_sum : Row := ⟨"_law_sum", f__law_sum, topS 30, ["number", "one", "two", "k"], ["number", "one", "two"]⟩
def r__law_bar : Row := ⟨"_law_bar", f__law_bar, topS 31, ["high", "wide", "one", "two", "part", "side", "number"], ["high", "wide", "one", "two"]⟩
def r__law_found : Row := ⟨"_law_found", f__law_found, topS 32, ["high", "wide", "one", "two", "full", "line", "known", "turn", "floor", "spot", "column", "tall", "broad", "fresh"], ["high", "wide", "one", "two"]⟩
def r__law_right : Row := ⟨"_law_right", f__law_right, topS 33, ["high", "wide", "one", "two", "rows", "places", "j", "number", "k", "cells", "fits", "top", "left", "row", "tall", "broad"], ["high", "wide", "one", "two", "rows"]⟩
def r__law_bent : Row := ⟨"_law_bent", f__law_bent, topS 34, ["state", "rows", "j", "k", "pick", "row"], ["state", "rows"]⟩
def r__law_refuses : Row := ⟨"_law_refuses", f__law_refuses, topS 35, ["odd"], []⟩
def r_law : Row := ⟨"law", f_law, topS 36, ["script", "state", "turn", "one", "two", "high", "wide", "due", "told", "rows", "cases", "case", "great", "brick", "bricks", "small", "other", "line", "least", "found", "j", "k"], ["script"]⟩
def rows : List Row := [r_check_sides, r_check_brick, r_divisor, r_sum_of, r_reduced, r_can_fill, r_known_bar, r_bar, r_filling, r_put, r_blocks, r_judge_filling, r_is_brick, r_least_box, r__law_same, r__law_stream, r__law_next, r__law_divisor, r__law_sum, r__law_bar, r__law_found, r__law_right, r__law_bent, r__law_refuses, r_law]
def defs : List (Str × Nat) := [("check_sides", 0), ("check_brick", 1), ("divisor", 2), ("sum_of", 3), ("reduced", 4), ("can_fill", 5), ("known_bar", 6), ("bar", 7), ("filling", 8), ("put", 9), ("blocks", 10), ("judge_filling", 11), ("is_brick", 12), ("least_box", 13), ("_law_same", 14), ("_law_stream", 15), ("_law_next", 16), ("_law_divisor", 17), ("_law_sum", 18), ("_law_bar", 19), ("_law_found", 20), ("_law_right", 21), ("_law_bent", 22), ("_law_refuses", 23), ("law", 24)]
def cls : List (Str × Nat) := [("NotAllowed", 0), ("TooLarge", 1), ("Missing", 2)]
def t_told : TRow := ⟨"_law_told", topS 28, ["call", "e", "kinds", "names", "k"], "ShapeError", ["NotAllowed", "TooLarge", "Missing", "BadForm", "Broken"], 2,
  [.set 3 (.ofL (.cmp [4] (.nm 4) (.rng (.lit (.int 5))) [(.ix (.var 2) (.var 4))] (.ix (.ofL (.dsp [(.lit (.str "refused")), (.lit (.str "large")), (.lit (.str "missing")), (.lit (.str "form")), (.lit (.str "broken"))])) (.var 4)))),
   .ret (.tup [(.ix (.ofL (.dsp [(.lit (.str "odd")), (.ix (.ofL (.cat (.var 3) (.ofL (.dsp [(.lit (.str ""))])))) (.lit (.int 0)))])) (.prm .int [(.cmp .eq (.prm .len [(.var 3)]) (.lit (.int 1)))]))])],
  toldWs, [[true, false, false, false, false], [false, true, false, false, false], [false, false, true, false, false]]⟩
def ext : Ext := ⟨(some t_told), ["_law_refuses", "law"], [("MAX_SIDE", 1000000), ("MAX_SHOWN", 60)]⟩
theorem rows_ok : ∀ r ∈ rows, rowOk ext 60 60 defs cls r = true := by
  have h : rows.all (rowOk ext 60 60 defs cls) = true := by decide +kernel
  exact List.all_eq_true.mp h
theorem defs_ok : defsOk rows defs = true := by decide +kernel
theorem told_c : toldC 60 60 t_told = true := by decide +kernel
end K12

set_option linter.all false
set_option Elab.async false
set_option autoImplicit false
set_option maxRecDepth 100000
namespace K12
open PySem Ip
abbrev O (F k : Nat) : List Orc := orcs (fnsOf rows) F k
abbrev V (n : Nat) : Val := .d (.int (n : Int))
section
variable {F k : Nat} {C : List Orc} {h : Hq}
@[simp] theorem t_0 : (fnsOf rows)[0]? = some f_check_sides := rfl
@[simp] theorem t_1 : (fnsOf rows)[1]? = some f_check_brick := rfl
@[simp] theorem t_2 : (fnsOf rows)[2]? = some f_divisor := rfl
@[simp] theorem t_3 : (fnsOf rows)[3]? = some f_sum_of := rfl
@[simp] theorem t_4 : (fnsOf rows)[4]? = some f_reduced := rfl
@[simp] theorem t_5 : (fnsOf rows)[5]? = some f_can_fill := rfl
@[simp] theorem t_6 : (fnsOf rows)[6]? = some f_known_bar := rfl
@[simp] theorem t_7 : (fnsOf rows)[7]? = some f_bar := rfl
@[simp] theorem t_8 : (fnsOf rows)[8]? = some f_filling := rfl
@[simp] theorem t_9 : (fnsOf rows)[9]? = some f_put := rfl
@[simp] theorem t_10 : (fnsOf rows)[10]? = some f_blocks := rfl
@[simp] theorem t_11 : (fnsOf rows)[11]? = some f_judge_filling := rfl
@[simp] theorem t_12 : (fnsOf rows)[12]? = some f_is_brick := rfl
@[simp] theorem t_13 : (fnsOf rows)[13]? = some f_least_box := rfl
@[simp] theorem t_14 : (fnsOf rows)[14]? = some sameFn := rfl
@[simp] theorem t_15 : (fnsOf rows)[15]? = some streamFn := rfl
@[simp] theorem t_16 : (fnsOf rows)[16]? = some nextFn := rfl
@[simp] theorem t_17 : (fnsOf rows)[17]? = some f__law_divisor := rfl
@[simp] theorem t_18 : (fnsOf rows)[18]? = some f__law_sum := rfl
@[simp] theorem t_19 : (fnsOf rows)[19]? = some f__law_bar := rfl
@[simp] theorem t_20 : (fnsOf rows)[20]? = some f__law_found := rfl
@[simp] theorem t_21 : (fnsOf rows)[21]? = some f__law_right := rfl
@[simp] theorem t_22 : (fnsOf rows)[22]? = some f__law_bent := rfl
@[simp] theorem t_23 : (fnsOf rows)[23]? = some f__law_refuses := rfl

/-! ### checks -/
def inR (M : Int) (x : Int) : Bool := decide (1 ≤ x) && decide (x ≤ M)
theorem c_sides (x y : Int) : callR F C f_check_sides [.d (.int x), .d (.int y)] h = if inR 1000000 x && inR 1000000 y then .ok (.d .none) h else .er ⟨0, none⟩ h := by
  unfold inR
  by_cases h1 : (1 : Int) ≤ x <;> by_cases h2 : x ≤ 1000000 <;> by_cases h3 : (1 : Int) ≤ y <;> by_cases h4 : y ≤ 1000000 <;> simp only [h1, h2, h3, h4, decide_true, decide_false, Bool.and_true, Bool.and_false, Bool.true_and, Bool.false_and, if_true, if_false, Bool.false_eq_true]
  all_goals first
    | (refine call_pd (ds := [.int x, .int y]) (h1 := []) rfl rfl ?_
       simp [Ip.run, f_check_sides, b_check_sides, cnd, tst, h1, h2, h3, h4]; done)
    | (refine call_pe (ds := [.int x, .int y]) (h1 := []) rfl rfl ?_
       simp [Ip.run, f_check_sides, b_check_sides, cnd, tst, h1, h2, h3, h4]; done)
theorem c_brick (x y : Int) : callR F C f_check_brick [.d (.int x), .d (.int y)] h = if inR 1000 x && inR 1000 y then .ok (.d .none) h else .er ⟨0, none⟩ h := by
  unfold inR
  by_cases h1 : (1 : Int) ≤ x <;> by_cases h2 : x ≤ 1000 <;> by_cases h3 : (1 : Int) ≤ y <;> by_cases h4 : y ≤ 1000 <;> simp only [h1, h2, h3, h4, decide_true, decide_false, Bool.and_true, Bool.and_false, Bool.true_and, Bool.false_and, if_true, if_false, Bool.false_eq_true]
  all_goals first
    | (refine call_pd (ds := [.int x, .int y]) (h1 := []) rfl rfl ?_
       simp [Ip.run, f_check_brick, b_check_brick, cnd, tst, h1, h2, h3, h4]; done)
    | (refine call_pe (ds := [.int x, .int y]) (h1 := []) rfl rfl ?_
       simp [Ip.run, f_check_brick, b_check_brick, cnd, tst, h1, h2, h3, h4]; done)
/-! ### the divisor -/
theorem fmod_nat (a b : Nat) : ((a : Int)).fmod (b : Int) = ((a % b : Nat) : Int) := by
  rw [Int.fmod_eq_emod_of_nonneg _ (by omega)]; rfl
theorem fdiv_nat (a b : Nat) : ((a : Int)).fdiv (b : Int) = ((a / b : Nat) : Int) := by
  rw [Int.fdiv_eq_ediv_of_nonneg _ (by omega)]; rfl
theorem gcd_step (a b : Nat) : Nat.gcd b (a % b) = Nat.gcd a b := by
  rw [Nat.gcd_comm b, ← Nat.gcd_rec, Nat.gcd_comm]
theorem div_loop {C : List Orc} {W : Nat} (e : Ex) (he : ∀ (a b : Nat) (h : Hq), 0 < b → ev F C e [some (V a), some (V b)] h = .ok (V (a % b)) h) : ∀ (W b a : Nat), b < W →
    whlN (cnd F C (.cmp .gt (.var 1) (.lit (.int 0)))) (bdy F C [.par 0 1 (.var 1) e]) W [some (V a), some (V b)] h = .ok (.nx [some (V (Nat.gcd a b)), some (V 0)]) h
  | 0, _, _, hw => by omega
  | W + 1, b, a, hw => by
    unfold whlN
    by_cases hb : b = 0
    · subst hb
      simp [cnd, tst]
    · have hp : 0 < b := by omega
      have ih := div_loop (W := W) e he W (a % b) b (by have := Nat.mod_lt a hp; omega)
      have e1 := he a b h hp
      rw [gcd_step] at ih
      simp [cnd, tst, bdy, hp, e1] at ih ⊢
      exact ih
theorem c_div (a b : Nat) (hb : b < F) : callR F C f_divisor [V a, V b] h = .ok (V (Nat.gcd a b)) h := by
  refine call_pd (ds := [.int a, .int b]) (h1 := []) rfl rfl ?_
  have := div_loop (F := F) (C := C) (h := []) (W := F) (.bin .mod (.var 0) (.var 1)) (fun a b h hb => by
    have b0 : ¬ ((b : Int) = 0) := by omega
    simp only [e_bin, e_prm, es_cons, es_nil, prmV_1, prm_int, e_var, List.getElem?_cons_zero, List.getElem?_cons_succ, R.bind_ok, binA_i, binV_d, binD_mod, b0, if_false, fmod_nat]) F b a hb
  simp only [Ip.run, f_divisor, b_divisor, List.map_cons, List.map_nil, Nat.sub_self, List.replicate_zero, List.append_nil, xs_cons, x_whl]
  rw [this]
  simp
theorem c_ldiv (a b : Nat) (hb : b < F) : callR F C f__law_divisor [V a, V b] h = .ok (V (Nat.gcd a b)) h := by
  refine call_pd (ds := [.int a, .int b]) (h1 := []) rfl rfl ?_
  have := div_loop (F := F) (C := C) (h := []) (W := F) (.bin .mod (.prm .int [(.var 0)]) (.var 1)) (fun a b h hb => by
    have b0 : ¬ ((b : Int) = 0) := by omega
    simp only [e_bin, e_prm, es_cons, es_nil, prmV_1, prm_int, e_var, List.getElem?_cons_zero, List.getElem?_cons_succ, R.bind_ok, binA_i, binV_d, binD_mod, b0, if_false, fmod_nat]) F b a hb
  simp only [Ip.run, f__law_divisor, b__law_divisor, List.map_cons, List.map_nil, Nat.sub_self, List.replicate_zero, List.append_nil, xs_cons, x_whl]
  rw [this]
  simp
/-! ### the sum -/
theorem okM (a b : Nat) (ha : a < 1099511627776) (hb : b < 1099511627776) : okMul (a : Int) (b : Int) = true := okMul_sm (n := 40) (m := 40) (by unfold Sm; omega) (by unfold Sm; omega) (by decide)
theorem okD (b : Nat) (hb : b < 1099511627776) (h0 : 0 < b) : okDiv (b : Int) = true := okDiv_sm (n := 40) (by unfold Sm; omega) (by omega) (by decide)
theorem okR (b : Nat) (hb : b < 1000000000) : okRng (b : Int) = true := okRng_of (by omega) (by omega)
/-- a walk that may return -/
theorem forL_ret {α : Type} {f : Val → Sg → Hq → RF} {h : Hq} (val : α → Val) (st : Option Val → Sg) (p : α → Bool) (r : α → Val) : ∀ (as : List α) (k : Option Val),
    (∀ a ∈ as, ∀ k, f (val a) (st k) h = if p a then .ok (.rt (r a)) h else .ok (.nx (st (some (val a)))) h) → ∃ k', forL f (as.map val) (st k) h = match as.find? p with | some a => .ok (.rt (r a)) h | none => .ok (.nx (st k')) h
  | [], k, _ => ⟨k, rfl⟩
  | a :: as, k, s => by
    obtain ⟨k', ih⟩ := forL_ret val st p r as (some (val a)) fun x hx => s x (List.mem_cons_of_mem _ hx)
    refine ⟨k', ?_⟩
    rw [List.map_cons, forL_cons, s a List.mem_cons_self, List.find?_cons]
    cases e : p a with
    | true => rfl
    | false => exact ih
def okS (n a b m : Nat) : Bool := decide (m * a ≤ n) && decide ((n - m * a) % b = 0)
def findS (n a b : Nat) : Option Nat := (List.range b).find? (okS n a b)
def sumOf (n a b : Nat) : Option (Nat × Nat) := (findS n a b).map fun m => (m, (n - m * a) / b)
def sumD : Option (Nat × Nat) → D
  | none => .none
  | some p => .tuple [.int (p.1 : Int), .int (p.2 : Int)]
theorem sum_turn {n a b m : Nat} {k : Option Val} {h : Hq} (hb : 0 < b) (hn : n < 1000000000) (ha : a < 100000) (hb2 : b < 100000) (hm : m < b) :
    turnV (.nm 3) (bdy F C [.iff (.and_ (.cmp .le (.bin .mul (.var 3) (.var 1)) (.var 0)) (.cmp .eq (.bin .mod (.bin .sub (.var 0) (.bin .mul (.var 3) (.var 1))) (.var 2)) (.lit (.int 0))))
        [.ret (.tup [(.var 3), (.bin .fdiv (.bin .sub (.var 0) (.bin .mul (.var 3) (.var 1))) (.var 2))])]
        []]) (V m) [some (V n), some (V a), some (V b), k] h = if okS n a b m then .ok (.rt (.d (sumD (some (m, (n - m * a) / b))))) h else .ok (.nx [some (V n), some (V a), some (V b), some (V m)]) h := by
  have m1 := okM m a (by omega) (by omega)
  have d1 := okD b (by omega) hb
  have b0 : ¬ ((b : Int) = 0) := by omega
  unfold okS
  by_cases h1 : m * a ≤ n
  · have h1' : (m : Int) * (a : Int) ≤ (n : Int) := by exact_mod_cast h1
    have sb : (n : Int) - (m : Int) * (a : Int) = ((n - m * a : Nat) : Int) := by
      rw [Int.ofNat_sub h1, Int.natCast_mul]
    by_cases h2 : (n - m * a) % b = 0
    · have h2' : ((n - m * a) % b : Nat) = (0 : Int) := by exact_mod_cast h2
      simp only [turnV, bindT_nm, bdy, xs_cons, x_iff, cnd, tst, e_and, e_cmp, e_bin, e_var, e_lit, binA_i, binV_d, binD_mul, m1, if_true, cmpV_d, cmpD_le, R.bind_ok, tru_b, List.set, List.getElem?_cons_zero, List.getElem?_cons_succ, h1', decide_true, binD_sub, sb, binD_mod, b0, if_false, fmod_nat, cmpD_eqi, h2, R.thn_ok, x_ret, e_tup, es_cons, es_nil, binD_fdiv, d1, fdiv_nat, toDs_cons, toDs_nil, toD_d, thn_rt, Bool.and_true, sumD]
      rw [decide_eq_true h1]; rfl
    · have h2' : ¬ (((n - m * a) % b : Nat) = (0 : Int)) := by exact_mod_cast h2
      simp only [turnV, bindT_nm, bdy, xs_cons, x_iff, cnd, tst, e_and, e_cmp, e_bin, e_var, e_lit, binA_i, binV_d, binD_mul, m1, if_true, cmpV_d, cmpD_le, R.bind_ok, tru_b, List.set, List.getElem?_cons_zero, List.getElem?_cons_succ, h1', decide_true, binD_sub, sb, binD_mod, b0, if_false, fmod_nat, cmpD_eqi, R.thn_ok, h2', decide_false, Bool.false_eq_true, xs_nil]
      rw [decide_eq_true h1, decide_eq_false h2]; rfl
  · have h1' : ¬ ((m : Int) * (a : Int) ≤ (n : Int)) := by exact_mod_cast h1
    simp only [turnV, bindT_nm, bdy, xs_cons, x_iff, cnd, tst, e_and, e_cmp, e_bin, e_var, e_lit, binA_i, binV_d, binD_mul, m1, if_true, cmpV_d, cmpD_le, R.bind_ok, tru_b, List.set, List.getElem?_cons_zero, List.getElem?_cons_succ, h1', decide_false, R.thn_ok, Bool.false_eq_true, if_false, xs_nil]
    rw [decide_eq_false h1]; rfl
theorem c_sum {n a b : Nat} (hb : 0 < b) (hn : n < 1000000000) (ha : a < 100000) (hb2 : b < 100000) : callR F C f_sum_of [V n, V a, V b] h = .ok (.d (sumD (sumOf n a b))) h := by
  refine call_pd (ds := [.int n, .int a, .int b]) (h1 := []) rfl rfl ?_
  obtain ⟨k', e⟩ := forL_ret (h := []) (fun i : Nat => V i) (fun k => [some (V n), some (V a), some (V b), k]) (okS n a b) (fun m => .d (sumD (some (m, (n - m * a) / b)))) (List.range b) none (fun m hm k => sum_turn (F := F) (C := C) hb hn ha hb2 (List.mem_range.mp hm))
  rw [← rangeL_map] at e
  have r := okR b (by omega)
  simp only [Ip.run, f_sum_of, b_sum_of, List.map_cons, List.map_nil, List.replicate, List.cons_append, List.nil_append, xs_cons, x_for, ex_rng, e_var, List.getElem?_cons_zero, List.getElem?_cons_succ, R.bind_ok, intV_i, r, if_true, Int.toNat_natCast, R.thn_ok, e]
  unfold sumOf findS
  cases (List.range b).find? (okS n a b) with
  | none => simp [sumD]
  | some m => simp [sumD]
end
end K12

set_option linter.all false
set_option Elab.async false
set_option autoImplicit false
set_option maxRecDepth 100000
namespace K12
open PySem Ip
/-! ### what bars a filling -/
/-- of sides that have no common part -/
def barR (H W A B : Nat) : Option (Str × Nat) :=
  if H % A ≠ 0 ∧ W % A ≠ 0 then some ("side", A) else
  if H % B ≠ 0 ∧ W % B ≠ 0 then some ("side", B) else
  if sumOf H A B = none then some ("rows", H) else
  if sumOf W A B = none then some ("columns", W) else none
def barOf (H W a b : Nat) : Option (Str × Nat) :=
  if H % Nat.gcd a b = 0 ∧ W % Nat.gcd a b = 0 then barR (H / Nat.gcd a b) (W / Nat.gcd a b) (a / Nat.gcd a b) (b / Nat.gcd a b) else some ("part", Nat.gcd a b)
def barD : Option (Str × Nat) → D
  | none => .none
  | some p => .tuple [.str p.1, .int (p.2 : Int)]
abbrev N (n : Nat) : D := .int (n : Int)
section
variable {F k : Nat} {C : List Orc} {h : Hq}
/-- sides that are not too great -/
structure Sz (F H W a b : Nat) : Prop where
  hH : H < 1000000000
  hW : W < 1000000000
  a0 : 0 < a
  b0 : 0 < b
  ha : a < 100000
  hb : b < 100000
  hF : 1000000 ≤ F
theorem Sz.p0 {H W a b : Nat} (z : Sz F H W a b) : 0 < Nat.gcd a b := Nat.gcd_pos_of_pos_left b z.a0
theorem Sz.pa {H W a b : Nat} (z : Sz F H W a b) : Nat.gcd a b ≤ a := Nat.gcd_le_left b z.a0
theorem Sz.A {H W a b : Nat} (z : Sz F H W a b) : 0 < a / Nat.gcd a b := Nat.div_pos z.pa z.p0
theorem Sz.B {H W a b : Nat} (z : Sz F H W a b) : 0 < b / Nat.gcd a b := Nat.div_pos (Nat.gcd_le_right a z.b0) z.p0
theorem Sz.red {H W a b : Nat} (z : Sz F H W a b) : Sz F (H / Nat.gcd a b) (W / Nat.gcd a b) (a / Nat.gcd a b) (b / Nat.gcd a b) :=
  ⟨Nat.lt_of_le_of_lt (Nat.div_le_self _ _) z.hH, Nat.lt_of_le_of_lt (Nat.div_le_self _ _) z.hW, z.A, z.B, Nat.lt_of_le_of_lt (Nat.div_le_self _ _) z.ha, Nat.lt_of_le_of_lt (Nat.div_le_self _ _) z.hb, z.hF⟩
def redD (H W a b : Nat) : D := if H % Nat.gcd a b = 0 ∧ W % Nat.gcd a b = 0 then .tuple [N (H / Nat.gcd a b), N (W / Nat.gcd a b), N (a / Nat.gcd a b), N (b / Nat.gcd a b)] else .none
theorem dec_nat (a b : Nat) : decide ((a : Int) = (b : Int)) = decide (a = b) := by
  by_cases h : a = b
  · subst h; simp
  · rw [decide_eq_false h, decide_eq_false (by omega)]
theorem dec_0 (a : Nat) : decide ((a : Int) = 0) = decide (a = 0) := dec_nat a 0
theorem c_reduced {H W a b : Nat} (z : Sz F H W a b) : callR F (O F (k + 1)) f_reduced [V H, V W, V a, V b] h = .ok (.d (redD H W a b)) h := by
  refine call_pd (ds := [.int H, .int W, .int a, .int b]) (h1 := []) rfl rfl ?_
  have dv := c_div (C := O F k) (h := []) a b (F := F) (by have := z.hb; have := z.hF; omega)
  have p0 : ¬ ((Nat.gcd a b : Int) = 0) := by have := z.p0; omega
  have d1 := okD (Nat.gcd a b) (by have := z.pa; have := z.ha; omega) z.p0
  unfold redD
  generalize Nat.gcd a b = p at *
  simp only [Ip.run, f_reduced, b_reduced, List.map_cons, List.map_nil, List.replicate, List.cons_append, List.nil_append, xs_cons, x_set, ev_call, t_2, es_cons, es_nil, e_var, List.getElem?_cons_zero, List.getElem?_cons_succ, R.bind_ok, dv, R.thn_ok, List.set, RF.thn_nx, x_iff, cnd, tst, e_or, e_cmp, e_bin, e_lit, binA_i, binV_d, binD_mod, p0, if_false, fmod_nat, cmpV_d, cmpD_nei, dec_0, tru_b]
  by_cases h1 : H % p = 0 <;> by_cases h2 : W % p = 0 <;> simp only [h1, h2, decide_true, decide_false, Bool.not_true, Bool.not_false, if_true, if_false, Bool.false_eq_true, R.bind_ok, R.thn_ok, tru_b, xs_cons, xs_nil, x_ret, e_lit, thn_rt, RF.thn_nx, e_tup, es_cons, es_nil, e_bin, e_var, List.getElem?_cons_zero, List.getElem?_cons_succ, binA_i, binV_d, binD_fdiv, d1, fdiv_nat, toDs_cons, toDs_nil, toD_d, and_true, true_and, and_false, false_and]
/-- the walk over the brick's sides, over the box's -/
theorem c_known {H W a b : Nat} (z : Sz F H W a b) : callR F (O F (k + 2)) f_known_bar [V H, V W, V a, V b] h = .ok (.d (barD (barOf H W a b))) h := by
  refine call_pd (ds := [.int H, .int W, .int a, .int b]) (h1 := []) rfl rfl ?_
  have rd := c_reduced (k := k) (h := []) z
  have dv := c_div (C := O F (k + 1)) (h := []) a b (F := F) (by have := z.hb; have := z.hF; omega)
  have zr := z.red
  unfold barOf
  unfold redD at rd
  by_cases hd : H % Nat.gcd a b = 0 ∧ W % Nat.gcd a b = 0
  · rw [if_pos hd] at rd ⊢
    generalize H / Nat.gcd a b = H1 at *
    generalize W / Nat.gcd a b = W1 at *
    generalize a / Nat.gcd a b = A at *
    generalize b / Nat.gcd a b = B at *
    have A0 : ¬ ((A : Int) = 0) := by have := zr.a0; omega
    have B0 : ¬ ((B : Int) = 0) := by have := zr.b0; omega
    have s1 := c_sum (C := O F (k + 1)) (h := []) (F := F) (n := H1) (a := A) (b := B) zr.b0 zr.hH zr.ha zr.hb
    have s2 := c_sum (C := O F (k + 1)) (h := []) (F := F) (n := W1) (a := A) (b := B) zr.b0 zr.hW zr.ha zr.hb
    have isN : ∀ ds : List D, cmpD .isN (.tuple ds) .none = some false := fun _ => rfl
    have nN : cmpD .isN .none .none = some true := rfl
    have bt : ∀ (w x y u : D) (σ : Sg) (h : Hq), bindT h (.tp [0, 1, 2, 3]) (.d (.tuple [w, x, y, u])) σ = some ((((σ.set 0 (some (.d w))).set 1 (some (.d x))).set 2 (some (.d y))).set 3 (some (.d u))) := fun _ _ _ _ _ _ => by simp [bindT, els]
    simp only [Ip.run, f_known_bar, b_known_bar, ex_val, srcV_t, srcV_l, e_ofL, List.map_cons, List.map_nil, List.replicate, List.cons_append, List.nil_append, List.append_nil, xs_cons, xs_nil, x_set, x_exp, x_iff, x_ret, x_for, x_asg, cnd, tst, turnV, bdy, bindT_nm, es_cons, es_nil, e_var, e_lit, e_cmp, e_bin, e_and, e_or, e_not, e_tup, e_prm, e_ix, prmV_1, prm_int, List.getElem?_cons_zero, List.getElem?_cons_succ, R.bind_ok, R.thn_ok, List.set, RF.thn_nx, thn_rt, RF.turn_nx, turn_rt, binA_i, binV_d, binD_add, binD_sub, cmpV_d, cmpD_eqi, cmpD_nei, cmpD_le, cmpD_lt, cmpD_ge, cmpD_gt, tru_b, toDs_cons, toDs_nil, toD_d, if_true, if_false, Bool.false_eq_true, Bool.not_true, Bool.not_false, decide_true, decide_false, ev_call, and_true, true_and, and_false, false_and, not_true_eq_false, not_false_eq_true, ne_eq, t_4, rd, isN, bt, ex_val, srcV_t, forL_cons, forL_nil, binD_mod, A0, B0, fmod_nat, dec_0]
    unfold barR
    have fin : ∀ (x : Option (Nat × Nat)), cmpD .isN (sumD x) .none = some (decide (x = none)) := fun x => by cases x <;> rfl
    by_cases h1 : H1 % A = 0 <;> by_cases h2 : W1 % A = 0 <;> by_cases h3 : H1 % B = 0 <;> by_cases h4 : W1 % B = 0 <;> simp only [ex_val, srcV_t, srcV_l, e_ofL, List.map_cons, List.map_nil, List.replicate, List.cons_append, List.nil_append, List.append_nil, xs_cons, xs_nil, x_set, x_exp, x_iff, x_ret, x_for, x_asg, cnd, tst, turnV, bdy, bindT_nm, es_cons, es_nil, e_var, e_lit, e_cmp, e_bin, e_and, e_or, e_not, e_tup, e_prm, e_ix, prmV_1, prm_int, List.getElem?_cons_zero, List.getElem?_cons_succ, R.bind_ok, R.thn_ok, List.set, RF.thn_nx, thn_rt, RF.turn_nx, turn_rt, binA_i, binV_d, binD_add, binD_sub, cmpV_d, cmpD_eqi, cmpD_nei, cmpD_le, cmpD_lt, cmpD_ge, cmpD_gt, tru_b, toDs_cons, toDs_nil, toD_d, if_true, if_false, Bool.false_eq_true, Bool.not_true, Bool.not_false, decide_true, decide_false, ev_call, and_true, true_and, and_false, false_and, not_true_eq_false, not_false_eq_true, ne_eq, h1, h2, h3, h4, binD_mod, A0, B0, fmod_nat, dec_0, barD, N]
    all_goals
      by_cases h5 : sumOf H1 A B = none <;> by_cases h6 : sumOf W1 A B = none <;> first | done | simp only [ex_val, srcV_t, srcV_l, e_ofL, List.map_cons, List.map_nil, List.replicate, List.cons_append, List.nil_append, List.append_nil, xs_cons, xs_nil, x_set, x_exp, x_iff, x_ret, x_for, x_asg, cnd, tst, turnV, bdy, bindT_nm, es_cons, es_nil, e_var, e_lit, e_cmp, e_bin, e_and, e_or, e_not, e_tup, e_prm, e_ix, prmV_1, prm_int, List.getElem?_cons_zero, List.getElem?_cons_succ, R.bind_ok, R.thn_ok, List.set, RF.thn_nx, thn_rt, RF.turn_nx, turn_rt, binA_i, binV_d, binD_add, binD_sub, cmpV_d, cmpD_eqi, cmpD_nei, cmpD_le, cmpD_lt, cmpD_ge, cmpD_gt, tru_b, toDs_cons, toDs_nil, toD_d, if_true, if_false, Bool.false_eq_true, Bool.not_true, Bool.not_false, decide_true, decide_false, ev_call, and_true, true_and, and_false, false_and, not_true_eq_false, not_false_eq_true, ne_eq, h1, h2, h3, h4, h5, h6, forL_cons, forL_nil, binD_mod, A0, B0, fmod_nat, dec_0, bindT_2, barD, t_3, s1, s2, fin, reduceCtorEq]
  · rw [if_neg hd] at rd ⊢
    have nN : cmpD .isN .none .none = some true := rfl
    simp only [Ip.run, f_known_bar, b_known_bar, List.map_cons, List.map_nil, List.replicate, List.cons_append, List.nil_append, xs_cons, x_set, ev_call, t_4, t_2, dv, es_cons, es_nil, e_var, List.getElem?_cons_zero, List.getElem?_cons_succ, R.bind_ok, rd, R.thn_ok, List.set, RF.thn_nx, x_iff, cnd, tst, e_cmp, e_lit, cmpV_d, nN, tru_b, if_true, x_ret, e_tup, toDs_cons, toDs_nil, toD_d, thn_rt, barD]
/-- the brick, the box are in range -/
structure Rg (F H W a b : Nat) : Prop extends Sz F H W a b where
  H1 : 1 ≤ H
  W1 : 1 ≤ W
  HM : H ≤ 1000000
  WM : W ≤ 1000000
  aM : a ≤ 1000
  bM : b ≤ 1000
theorem Rg.box {H W a b : Nat} (z : Rg F H W a b) : (inR 1000000 (H : Int) && inR 1000000 (W : Int)) = true := by
  have := z.H1; have := z.W1; have := z.HM; have := z.WM
  unfold inR
  rw [decide_eq_true (by omega), decide_eq_true (by omega), decide_eq_true (by omega), decide_eq_true (by omega)]; rfl
theorem Rg.brick {H W a b : Nat} (z : Rg F H W a b) : (inR 1000 (a : Int) && inR 1000 (b : Int)) = true := by
  have := z.a0; have := z.b0; have := z.aM; have := z.bM
  unfold inR
  rw [decide_eq_true (by omega), decide_eq_true (by omega), decide_eq_true (by omega), decide_eq_true (by omega)]; rfl
theorem isN_bar (x : Option (Str × Nat)) : cmpD .isN (barD x) .none = some x.isNone := by cases x <;> rfl
theorem notN_bar (x : Option (Str × Nat)) : cmpD .notN (barD x) .none = some x.isSome := by cases x <;> rfl
theorem c_can {H W a b : Nat} (z : Rg F H W a b) : callR F (O F (k + 3)) f_can_fill [V H, V W, V a, V b] h = .ok (.d (.bool (barOf H W a b).isNone)) h := by
  refine call_pd (ds := [.int H, .int W, .int a, .int b]) (h1 := []) rfl rfl ?_
  have s1 := c_sides (F := F) (C := O F (k + 2)) (h := []) (H : Int) (W : Int)
  have s2 := c_brick (F := F) (C := O F (k + 2)) (h := []) (a : Int) (b : Int)
  rw [z.box, if_pos rfl] at s1
  rw [z.brick, if_pos rfl] at s2
  have kb := c_known (k := k) (h := []) z.toSz
  simp only [Ip.run, f_can_fill, b_can_fill, List.map_cons, List.map_nil, List.replicate, List.append_nil, xs_cons, x_exp, ev_call, t_0, t_1, t_6, es_cons, es_nil, e_var, List.getElem?_cons_zero, List.getElem?_cons_succ, R.bind_ok, s1, s2, kb, R.thn_ok, RF.thn_nx, x_ret, e_cmp, e_lit, cmpV_d, isN_bar, thn_rt, Nat.sub_self]
theorem c_bar {H W a b : Nat} (z : Rg F H W a b) : callR F (O F (k + 3)) f_bar [V H, V W, V a, V b] h = match barOf H W a b with | none => .er ⟨2, none⟩ h | some x => .ok (.d (barD (some x))) h := by
  have s1 := c_sides (F := F) (C := O F (k + 2)) (h := []) (H : Int) (W : Int)
  have s2 := c_brick (F := F) (C := O F (k + 2)) (h := []) (a : Int) (b : Int)
  rw [z.box, if_pos rfl] at s1
  rw [z.brick, if_pos rfl] at s2
  have kb := c_known (k := k) (h := []) z.toSz
  cases e : barOf H W a b with
  | none =>
    rw [e] at kb
    refine call_pe (ds := [.int H, .int W, .int a, .int b]) (h1 := []) rfl rfl ?_
    simp only [Ip.run, f_bar, b_bar, List.map_cons, List.map_nil, List.replicate, List.cons_append, List.nil_append, xs_cons, x_exp, x_set, ev_call, t_0, t_1, t_6, es_cons, es_nil, e_var, List.getElem?_cons_zero, List.getElem?_cons_succ, R.bind_ok, s1, s2, kb, R.thn_ok, RF.thn_nx, x_iff, cnd, tst, e_cmp, e_lit, cmpV_d, isN_bar, Option.isNone_none, tru_b, if_true, x_rse, thn_er, List.set]
  | some x =>
    rw [e] at kb
    refine call_pd (ds := [.int H, .int W, .int a, .int b]) (h1 := []) rfl rfl ?_
    simp only [Ip.run, f_bar, b_bar, List.map_cons, List.map_nil, List.replicate, List.cons_append, List.nil_append, xs_cons, xs_nil, x_exp, x_set, ev_call, t_0, t_1, t_6, es_cons, es_nil, e_var, List.getElem?_cons_zero, List.getElem?_cons_succ, R.bind_ok, s1, s2, kb, R.thn_ok, RF.thn_nx, x_iff, cnd, tst, e_cmp, e_lit, cmpV_d, isN_bar, Option.isNone_some, tru_b, Bool.false_eq_true, if_false, x_ret, thn_rt, List.set]
end
end K12

set_option linter.all false
set_option Elab.async false
set_option autoImplicit false
set_option maxRecDepth 100000
namespace K12
open PySem Ip
theorem any_find {α : Type} (p : α → Bool) : ∀ xs : List α, xs.any p = (xs.find? p).isSome
  | [] => rfl
  | x :: xs => by
    rw [List.any_cons, List.find?_cons, any_find p xs]
    cases p x <;> rfl
section
variable {F k : Nat} {C : List Orc} {h : Hq}
theorem c_lsum {n a b : Nat} (hb : 0 < b) (hn : n < 1000000000) (ha : a < 100000) (hb2 : b < 100000) : callR F C f__law_sum [V n, V a, V b] h = .ok (.d (.bool (sumOf n a b).isSome)) h := by
  refine call_pd (ds := [.int n, .int a, .int b]) (h1 := []) rfl rfl ?_
  have r := okR b (by omega)
  have ft : fits (rangeL 0 b).length = true := fits_le (by rw [rangeL_len]; omega)
  have b0 : ¬ ((b : Int) = 0) := by omega
  have it := cmp_rng (h := []) (f := itm F C [3] (.nm 3) [] (.and_ (.cmp .eq (.bin .mod (.prm .int [(.bin .sub (.var 0) (.bin .mul (.var 1) (.var 3)))]) (.var 2)) (.lit (.int 0))) (.cmp .le (.bin .mul (.var 1) (.var 3)) (.var 0))) [some (V n), some (V a), some (V b), none]) b (fun m => .bool (okS n a b m)) (fun m hm => by
    have m1 := okM a m (by omega) (by omega)
    unfold itm
    simp only [wipe, List.set, bindT_nm, ei_nil, R.bind_ok, if_true, e_and, e_cmp, e_bin, e_prm, es_cons, es_nil, e_var, List.getElem?_cons_zero, List.getElem?_cons_succ, binA_i, binV_d, binD_mul, m1, binD_sub, prmV_1, prm_int, binD_mod, b0, if_false, e_lit, cmpV_d, cmpD_eqi, tru_b]
    unfold okS
    by_cases h1 : m * a ≤ n
    · have h1' : (a : Int) * (m : Int) ≤ (n : Int) := by rw [Int.mul_comm]; exact_mod_cast h1
      have sb : (n : Int) - (a : Int) * (m : Int) = ((n - m * a : Nat) : Int) := by
        rw [Int.ofNat_sub h1, Int.natCast_mul, Int.mul_comm]
      rw [sb, fmod_nat, dec_0]
      by_cases h2 : (n - m * a) % b = 0
      · simp only [h2, decide_true, if_true, cmpD_le, h1', h1, R.quiet_ok, Bool.and_true, R.bind_ok]
      · simp only [h2, decide_false, Bool.false_eq_true, if_false, h1, decide_true, R.quiet_ok, Bool.and_false, R.bind_ok]
    · have h1' : ¬ ((a : Int) * (m : Int) ≤ (n : Int)) := by rw [Int.mul_comm]; exact_mod_cast h1
      have f1 : decide (m * a ≤ n) = false := decide_eq_false h1
      rw [f1, Bool.false_and]
      by_cases h2 : ((n : Int) - (a : Int) * (m : Int)).fmod (b : Int) = 0
      · simp only [h2, decide_true, if_true, cmpD_le, h1', decide_false, R.quiet_ok, R.bind_ok]
      · simp only [h2, decide_false, Bool.false_eq_true, if_false, R.quiet_ok, R.bind_ok])
  simp only [Ip.run, f__law_sum, b__law_sum, List.map_cons, List.map_nil, List.replicate, List.cons_append, List.nil_append, xs_cons, x_ret, e_prm, es_cons, es_nil, e_ofL, el_cmp, ex_rng, e_var, List.getElem?_cons_zero, List.getElem?_cons_succ, R.bind_ok, intV_i, r, if_true, Int.toNat_natCast, ft, it, toDs_fn, prmV_1, prmD, bools_map, Option.map_some, any_map, R.thn_ok, thn_rt]
  unfold sumOf findS
  rw [Option.isSome_map, ← any_find]
theorem c_lbar {H W a b : Nat} (z : Sz F H W a b) : callR F (O F (k + 1)) f__law_bar [V H, V W, V a, V b] h = .ok (.d (barD (barOf H W a b))) h := by
  refine call_pd (ds := [.int H, .int W, .int a, .int b]) (h1 := []) rfl rfl ?_
  have dv := c_ldiv (C := O F k) (h := []) a b (F := F) (by have := z.hb; have := z.hF; omega)
  have zr := z.red
  have p0 : ¬ ((Nat.gcd a b : Int) = 0) := by have := z.p0; omega
  have d1 := okD (Nat.gcd a b) (by have := z.pa; have := z.ha; omega) z.p0
  unfold barOf
  generalize Nat.gcd a b = p at *
  have q1 := fdiv_nat H p
  have q2 := fdiv_nat W p
  have q3 := fdiv_nat a p
  have q4 := fdiv_nat b p
  have ft4 : fits 4 = true := by decide
  have ft2 : fits 2 = true := by decide
  have bt : ∀ (w x y u : D) (σ : Sg) (h : Hq), bindT h (.tp [0, 1, 2, 3]) (.d (.list [w, x, y, u])) σ = some ((((σ.set 0 (some (.d w))).set 1 (some (.d x))).set 2 (some (.d y))).set 3 (some (.d u))) := fun _ _ _ _ _ _ => by simp [bindT, els]
  have it : ∀ (x : Nat) (h : Hq) (s5 : Option Val), itm F (O F (k + 1)) [6] (.nm 6) [] (.bin .fdiv (.var 6) (.var 4)) [some (V H), some (V W), some (V a), some (V b), some (V p), s5, none] (V x) h = .ok [V (x / p)] h := fun x h s5 => by
    unfold itm
    simp only [wipe, List.set, bindT_nm, ei_nil, R.bind_ok, if_true, e_bin, e_var, List.getElem?_cons_zero, List.getElem?_cons_succ, binA_i, binV_d, binD_fdiv, d1, fdiv_nat, R.quiet_ok]
  by_cases hd : H % p = 0 ∧ W % p = 0
  · rw [if_pos hd]
    obtain ⟨hd1, hd2⟩ := hd
    simp only [Ip.run, f__law_bar, b__law_bar, ex_val, srcV_t, srcV_l, e_ofL, List.map_cons, List.map_nil, List.replicate, List.cons_append, List.nil_append, List.append_nil, xs_cons, xs_nil, x_set, x_exp, x_iff, x_ret, x_for, x_asg, cnd, tst, turnV, bdy, bindT_nm, es_cons, es_nil, e_var, e_lit, e_cmp, e_bin, e_and, e_or, e_not, e_tup, e_prm, e_ix, prmV_1, prm_int, List.getElem?_cons_zero, List.getElem?_cons_succ, R.bind_ok, R.thn_ok, List.set, RF.thn_nx, thn_rt, RF.turn_nx, turn_rt, binA_i, binV_d, binD_add, binD_sub, cmpV_d, cmpD_eqi, cmpD_nei, cmpD_le, cmpD_lt, cmpD_ge, cmpD_gt, tru_b, toDs_cons, toDs_nil, toD_d, if_true, if_false, Bool.false_eq_true, Bool.not_true, Bool.not_false, decide_true, decide_false, ev_call, and_true, true_and, and_false, false_and, not_true_eq_false, not_false_eq_true, ne_eq, t_17, dv, binD_mod, p0, fmod_nat, dec_0, hd1, hd2, el_cmp, el_dsp, List.length_cons, List.length_nil, ft4, cmpL_cons, cmpL_nil, it, bt, Nat.zero_add, Nat.reduceAdd, e_or]
    generalize H / p = H1 at *
    generalize W / p = W1 at *
    generalize a / p = A at *
    generalize b / p = B at *
    have A0 : ¬ ((A : Int) = 0) := by have := zr.a0; omega
    have B0 : ¬ ((B : Int) = 0) := by have := zr.b0; omega
    have s1 := c_lsum (C := O F k) (h := []) (F := F) (n := H1) (a := A) (b := B) zr.b0 zr.hH zr.ha zr.hb
    have s2 := c_lsum (C := O F k) (h := []) (F := F) (n := W1) (a := A) (b := B) zr.b0 zr.hW zr.ha zr.hb
    unfold barR
    have fin : ∀ (x : Option (Nat × Nat)), (!x.isSome) = decide (x = none) := fun x => by cases x <;> rfl
    by_cases h1 : H1 % A = 0 <;> by_cases h2 : W1 % A = 0 <;> by_cases h3 : H1 % B = 0 <;> by_cases h4 : W1 % B = 0 <;> by_cases h5 : sumOf H1 A B = none <;> by_cases h6 : sumOf W1 A B = none <;> simp only [ex_val, srcV_t, srcV_l, e_ofL, List.map_cons, List.map_nil, List.replicate, List.cons_append, List.nil_append, List.append_nil, xs_cons, xs_nil, x_set, x_exp, x_iff, x_ret, x_for, x_asg, cnd, tst, turnV, bdy, bindT_nm, es_cons, es_nil, e_var, e_lit, e_cmp, e_bin, e_and, e_or, e_not, e_tup, e_prm, e_ix, prmV_1, prm_int, List.getElem?_cons_zero, List.getElem?_cons_succ, R.bind_ok, R.thn_ok, List.set, RF.thn_nx, thn_rt, RF.turn_nx, turn_rt, binA_i, binV_d, binD_add, binD_sub, cmpV_d, cmpD_eqi, cmpD_nei, cmpD_le, cmpD_lt, cmpD_ge, cmpD_gt, tru_b, toDs_cons, toDs_nil, toD_d, if_true, if_false, Bool.false_eq_true, Bool.not_true, Bool.not_false, decide_true, decide_false, ev_call, and_true, true_and, and_false, false_and, not_true_eq_false, not_false_eq_true, ne_eq, h1, h2, h3, h4, h5, h6, ft2, forL_cons, forL_nil, binD_mod, A0, B0, fmod_nat, dec_0, barD, t_18, s1, s2, fin, el_dsp, List.length_cons, List.length_nil, Nat.zero_add, Nat.reduceAdd]
  · rw [if_neg hd]
    by_cases h1 : H % p = 0 <;> by_cases h2 : W % p = 0
    · exact absurd ⟨h1, h2⟩ hd
    all_goals simp only [Ip.run, f__law_bar, b__law_bar, ex_val, srcV_t, srcV_l, e_ofL, List.map_cons, List.map_nil, List.replicate, List.cons_append, List.nil_append, List.append_nil, xs_cons, xs_nil, x_set, x_exp, x_iff, x_ret, x_for, x_asg, cnd, tst, turnV, bdy, bindT_nm, es_cons, es_nil, e_var, e_lit, e_cmp, e_bin, e_and, e_or, e_not, e_tup, e_prm, e_ix, prmV_1, prm_int, List.getElem?_cons_zero, List.getElem?_cons_succ, R.bind_ok, R.thn_ok, List.set, RF.thn_nx, thn_rt, RF.turn_nx, turn_rt, binA_i, binV_d, binD_add, binD_sub, cmpV_d, cmpD_eqi, cmpD_nei, cmpD_le, cmpD_lt, cmpD_ge, cmpD_gt, tru_b, toDs_cons, toDs_nil, toD_d, if_true, if_false, Bool.false_eq_true, Bool.not_true, Bool.not_false, decide_true, decide_false, ev_call, and_true, true_and, and_false, false_and, not_true_eq_false, not_false_eq_true, ne_eq, t_17, dv, binD_mod, p0, fmod_nat, dec_0, h1, h2, e_or, barD]
end
end K12

set_option linter.all false
set_option Elab.async false
set_option autoImplicit false
set_option maxRecDepth 100000
namespace K12
open PySem Ip
/-! ### places, as data -/
abbrev Cell := Nat × Nat
def cD (p : Cell) : D := .tuple [N p.1, N p.2]
theorem eqv_cD (p q : Cell) : PyData.eqv (cD p) (cD q) = decide (p = q) := by
  show (((p.1 : Int) == (q.1 : Int)) && (((p.2 : Int) == (q.2 : Int)) && true)) = _
  obtain ⟨a, b⟩ := p
  obtain ⟨c, d⟩ := q
  have e : ∀ x y : Nat, ((x : Int) == (y : Int)) = decide (x = y) := fun x y => dec_nat x y
  show (((a : Int) == (c : Int)) && (((b : Int) == (d : Int)) && true)) = _
  rw [e, e]
  by_cases h1 : a = c <;> by_cases h2 : b = d <;> simp [h1, h2]
theorem eqv_cDs : ∀ ps qs : List Cell, PyData.eqvAll (ps.map cD) (qs.map cD) = decide (ps = qs)
  | [], [] => rfl
  | [], _ :: _ => by rw [List.map_nil, List.map_cons, PyData.eqvAll]; simp
  | _ :: _, [] => by rw [List.map_nil, List.map_cons, PyData.eqvAll]; simp
  | p :: ps, q :: qs => by
    rw [List.map_cons, List.map_cons, PyData.eqvAll, eqv_cD, eqv_cDs ps qs]
    by_cases h1 : p = q <;> by_cases h2 : ps = qs <;> simp [h1, h2]
theorem lay_cDs : ∀ ps : List Cell, PyData.canLayAll0 (ps.map cD) = true ∧ PyData.depthAll (ps.map cD) ≤ 1
  | [] => ⟨rfl, Nat.zero_le _⟩
  | p :: ps => by
    have ih := lay_cDs ps
    refine ⟨by show (true && _) = true; rw [Bool.true_and]; exact ih.1, ?_⟩
    show max 1 _ ≤ 1
    exact Nat.max_le.mpr ⟨Nat.le_refl _, ih.2⟩
theorem shp_cDs (ps : List Cell) : SeqAt.shaped (.list (ps.map cD)) = true := by
  have a := lay_cDs ps
  unfold SeqAt.shaped
  show (PyData.canLayAll0 (ps.map cD) && decide (PyData.depthAll (ps.map cD) + 1 ≤ 64)) = true
  rw [a.1, Bool.true_and]
  exact decide_eq_true (by omega)
theorem cmp_cD (p q : Cell) : cmpD .eq (cD p) (cD q) = some (decide (p = q)) := by
  rw [← eqv_cD]; rfl
/-- a brick's places -/
def rect (p : Cell) (m n : Nat) : List Cell := (List.range (m * n)).map fun i => (p.1 + i / n, p.2 + i % n)
theorem rect_len (p : Cell) (m n : Nat) : (rect p m n).length = m * n := by simp [rect]
theorem rect_last {p : Cell} {m n : Nat} (hm : 0 < m) (hn : 0 < n) (d : Cell) : (rect p m n).getLastD d = (p.1 + m - 1, p.2 + n - 1) := by
  obtain ⟨m, rfl⟩ : ∃ k, m = k + 1 := ⟨m - 1, by omega⟩
  obtain ⟨n, rfl⟩ : ∃ k, n = k + 1 := ⟨n - 1, by omega⟩
  have e : (m + 1) * (n + 1) = (m * (n + 1) + n) + 1 := by rw [Nat.succ_mul]; omega
  unfold rect
  rw [e, List.range_succ, List.map_append, List.map_singleton]
  have d1 : (m * (n + 1) + n) / (n + 1) = m := by
    rw [Nat.mul_comm, Nat.mul_add_div (by omega), Nat.div_eq_of_lt (by omega)]; omega
  have d2 : (m * (n + 1) + n) % (n + 1) = n := by
    rw [Nat.mul_comm, Nat.mul_add_mod, Nat.mod_eq_of_lt (by omega)]
  rw [d1, d2, List.getLastD_eq_getLast?, List.getLast?_append]
  simp
/-- ascending places are those of a brick, turned or not -/
def isB (ps : List Cell) (a b : Nat) : Bool := decide (ps = rect (ps.headD (0, 0)) a b) || decide (ps = rect (ps.headD (0, 0)) b a)
theorem zip_all (f : Nat → Cell) : ∀ (ps : List Cell) (k : Nat), ((ps.zipIdx k).all fun q => decide (q.1 = f q.2)) = decide (ps = (List.range' k ps.length).map f)
  | [], k => rfl
  | p :: ps, k => by
    rw [List.zipIdx_cons, List.all_cons, zip_all f ps (k + 1), List.length_cons, List.range'_succ, List.map_cons]
    simp only [List.cons.injEq, Bool.decide_and]
theorem at_last {vs : List Val} {v : Val} (e : vs.getLast? = some v) : atD vs (-1) = some v := by
  have hl : vs ≠ [] := fun z => by subst z; cases e
  have hp := List.length_pos_iff.mpr hl
  unfold atD ixn
  rw [if_neg (by decide), if_pos (by omega)]
  have : (-1 + (vs.length : Int)).toNat = vs.length - 1 := by omega
  simp only [this]
  rw [← List.getLast?_eq_getElem?]; exact e
section
variable {F k : Nat} {C : List Orc} {h : Hq}
theorem c_isb {ps : List Cell} {a b : Nat} (hne : ps ≠ []) (ha : 0 < a) (hb : 0 < b) (ha2 : a < 100000) (hb2 : b < 100000) (hl : ps.length ≤ 1000000) : Ip.run F C f_is_brick [.d (.list (ps.map cD)), V a, V b] [] = .ok (.d (.bool (isB ps a b))) [] := by
  obtain ⟨p0, rest, rfl⟩ := List.exists_cons_of_ne_nil hne
  generalize hps : p0 :: rest = ps at *
  have hh : ps.headD (0, 0) = p0 := by rw [← hps]; rfl
  have ix0 : ∀ h : Hq, ixV (.d (.list (ps.map cD))) (.d (.int 0)) h = .ok (.d (cD p0)) h := fun h => by rw [← hps, ixV_l, List.map_cons, List.map_cons, atD_0]
  generalize hpl : ps.getLastD (0, 0) = pl
  have gl : ps.getLast? = some pl := by
    rw [← hpl, List.getLastD_eq_getLast?]
    cases e : ps.getLast? with
    | none => exact absurd (List.getLast?_eq_none_iff.mp e) hne
    | some x => rfl
  have ixl : ∀ h : Hq, ixV (.d (.list (ps.map cD))) (.d (.int (-1))) h = .ok (.d (cD pl)) h := fun h => by
    rw [ixV_l, at_last (v := .d (cD pl)) (by rw [List.getLast?_map, List.getLast?_map, gl]; rfl)]
  have c0 : ∀ (p : Cell) (h : Hq), ixV (.d (cD p)) (.d (.int 0)) h = .ok (V p.1) h := fun p h => rfl
  have c1 : ∀ (p : Cell) (h : Hq), ixV (.d (cD p)) (.d (.int 1)) h = .ok (V p.2) h := fun p h => rfl
  have key : ∀ m n : Nat, 0 < m → 0 < n → ps = rect p0 m n → (pl.1 : Int) - (p0.1 : Int) + 1 = (m : Int) ∧ (pl.2 : Int) - (p0.2 : Int) + 1 = (n : Int) ∧ ps.length = m * n := fun m n hm hn e => by
    have := rect_last (p := p0) hm hn (0, 0)
    rw [← e, hpl] at this
    rw [this]
    exact ⟨by simp only; omega, by simp only; omega, by rw [e, rect_len]⟩
  generalize hT : (pl.1 : Int) - (p0.1 : Int) + 1 = T3 at key
  generalize hU : (pl.2 : Int) - (p0.2 : Int) + 1 = T4 at key
  have nin : cmpD .nin (.tuple [.int T3, .int T4]) (.tuple [.tuple [.int a, .int b], .tuple [.int b, .int a]]) = some (!((decide ((a : Int) = T3) && decide ((b : Int) = T4)) || (decide ((b : Int) = T3) && decide ((a : Int) = T4)))) := by
    show some (!((((a : Int) == T3) && (((b : Int) == T4) && true)) || ((((b : Int) == T3) && (((a : Int) == T4) && true)) || false))) = _
    simp only [Bool.and_true, Bool.or_false]
    rfl
  unfold isB
  rw [hh]
  have part : ∀ m n : Nat, 0 < n → n < 100000 → m < 100000 → T3 = m → T4 = n → ((decide ((a : Int) = T3) && decide ((b : Int) = T4)) || (decide ((b : Int) = T3) && decide ((a : Int) = T4))) = true → Ip.run F C f_is_brick [.d (.list (ps.map cD)), V a, V b] [] = .ok (.d (.bool (decide (ps = rect p0 m n)))) [] := fun m n hn hn2 hm2 e3 e4 ok => by
    rw [ok] at nin
    subst e3 e4
    have m1 := okM m n (by omega) (by omega)
    have d1 := okD n (by omega) hn
    have n0 : ¬ ((n : Int) = 0) := by omega
    have ft : fits ps.zipIdx.length = true := fits_le (by rw [List.length_zipIdx]; omega)
    have enm : enumD (ps.map cD) = ps.zipIdx.map fun q => Val.d (.tuple [.int (q.2 : Int), cD q.1]) := by
      unfold enumD
      rw [List.zipIdx_map, List.map_map]; rfl
    have it := cmp_fn (h := []) (f := itm F C [5, 6] (.tp [5, 6]) [] (.cmp .eq (.var 6) (.tup [(.bin .add (.ix (.ix (.var 0) (.lit (.int 0))) (.lit (.int 0))) (.bin .fdiv (.var 5) (.var 4))), (.bin .add (.ix (.ix (.var 0) (.lit (.int 0))) (.lit (.int 1))) (.bin .mod (.var 5) (.var 4)))])) [some (.d (.list (ps.map cD))), some (V a), some (V b), some (V m), some (V n), none, none]) (fun q : Cell × Nat => .tuple [.int (q.2 : Int), cD q.1]) (fun q => .bool (decide (q.1 = (p0.1 + q.2 / n, p0.2 + q.2 % n)))) ps.zipIdx (fun q _ => by
      have cc := cmp_cD q.1 (p0.1 + q.2 / n, p0.2 + q.2 % n)
      have e1 : (PyData.tuple [.int ((p0.1 : Int) + ((q.2 / n : Nat) : Int)), .int ((p0.2 : Int) + ((q.2 % n : Nat) : Int))]) = cD (p0.1 + q.2 / n, p0.2 + q.2 % n) := by
        unfold cD N
        simp
      unfold itm
      simp only [ex_val, srcV_t, srcV_l, e_ofL, List.map_cons, List.map_nil, List.replicate, List.cons_append, List.nil_append, List.append_nil, xs_cons, xs_nil, x_set, x_exp, x_iff, x_ret, x_for, x_asg, cnd, tst, turnV, bdy, bindT_nm, es_cons, es_nil, e_var, e_lit, e_cmp, e_bin, e_and, e_or, e_not, e_tup, e_prm, e_ix, prmV_1, prm_int, List.getElem?_cons_zero, List.getElem?_cons_succ, R.bind_ok, R.thn_ok, List.set, RF.thn_nx, thn_rt, RF.turn_nx, turn_rt, binA_i, binV_d, binD_add, binD_sub, cmpV_d, cmpD_eqi, cmpD_nei, cmpD_le, cmpD_lt, cmpD_ge, cmpD_gt, tru_b, toDs_cons, toDs_nil, toD_d, if_true, if_false, Bool.false_eq_true, Bool.not_true, Bool.not_false, decide_true, decide_false, ev_call, and_true, true_and, and_false, false_and, not_true_eq_false, not_false_eq_true, ne_eq, wipe, bindT_2, ei_nil, ix0, c0, c1, binD_fdiv, binD_mod, d1, n0, fdiv_nat, fmod_nat, e1, cc, R.quiet_ok])
    have fin : (ps.zipIdx.all fun q => decide (q.1 = (p0.1 + q.2 / n, p0.2 + q.2 % n))) = decide (ps = (List.range ps.length).map fun i => (p0.1 + i / n, p0.2 + i % n)) := by
      rw [zip_all (fun i => (p0.1 + i / n, p0.2 + i % n)) ps 0, ← List.range_eq_range']
    by_cases hlen : ps.length = m * n
    · have hl2 : ((ps.length : Nat) : Int) = (m : Int) * (n : Int) := by rw [hlen, Int.natCast_mul]
      simp only [Ip.run, f_is_brick, b_is_brick, ex_val, srcV_t, srcV_l, e_ofL, List.map_cons, List.map_nil, List.replicate, List.cons_append, List.nil_append, List.append_nil, xs_cons, xs_nil, x_set, x_exp, x_iff, x_ret, x_for, x_asg, cnd, tst, turnV, bdy, bindT_nm, es_cons, es_nil, e_var, e_lit, e_cmp, e_bin, e_and, e_or, e_not, e_tup, e_prm, e_ix, prmV_1, prm_int, List.getElem?_cons_zero, List.getElem?_cons_succ, R.bind_ok, R.thn_ok, List.set, RF.thn_nx, thn_rt, RF.turn_nx, turn_rt, binA_i, binV_d, binD_add, binD_sub, cmpV_d, cmpD_eqi, cmpD_nei, cmpD_le, cmpD_lt, cmpD_ge, cmpD_gt, tru_b, toDs_cons, toDs_nil, toD_d, if_true, if_false, Bool.false_eq_true, Bool.not_true, Bool.not_false, decide_true, decide_false, ev_call, and_true, true_and, and_false, false_and, not_true_eq_false, not_false_eq_true, ne_eq, e_neg, intV_i, ixl, ix0, c0, c1, hT, hU, e_or, nin, prm_lenl, List.length_map, binD_mul, m1, hl2, el_cmp, ex_enm, enm, ft, it, toDs_fn, prmD, bools_map, Option.map_some, all_map, fin]
      unfold rect
      rw [hlen]
    · have hl2 : ¬ (((ps.length : Nat) : Int) = (m : Int) * (n : Int)) := fun z => hlen (by exact_mod_cast z)
      have ne : ¬ (ps = rect p0 m n) := fun z => hlen (by rw [z, rect_len])
      simp only [Ip.run, f_is_brick, b_is_brick, ex_val, srcV_t, srcV_l, e_ofL, List.map_cons, List.map_nil, List.replicate, List.cons_append, List.nil_append, List.append_nil, xs_cons, xs_nil, x_set, x_exp, x_iff, x_ret, x_for, x_asg, cnd, tst, turnV, bdy, bindT_nm, es_cons, es_nil, e_var, e_lit, e_cmp, e_bin, e_and, e_or, e_not, e_tup, e_prm, e_ix, prmV_1, prm_int, List.getElem?_cons_zero, List.getElem?_cons_succ, R.bind_ok, R.thn_ok, List.set, RF.thn_nx, thn_rt, RF.turn_nx, turn_rt, binA_i, binV_d, binD_add, binD_sub, cmpV_d, cmpD_eqi, cmpD_nei, cmpD_le, cmpD_lt, cmpD_ge, cmpD_gt, tru_b, toDs_cons, toDs_nil, toD_d, if_true, if_false, Bool.false_eq_true, Bool.not_true, Bool.not_false, decide_true, decide_false, ev_call, and_true, true_and, and_false, false_and, not_true_eq_false, not_false_eq_true, ne_eq, e_neg, intV_i, ixl, ix0, c0, c1, hT, hU, e_or, nin, prm_lenl, List.length_map, binD_mul, m1, hl2, ne]
  by_cases k1 : T3 = a ∧ T4 = b
  · rw [part a b hb hb2 ha2 k1.1 k1.2 (by rw [k1.1, k1.2]; simp)]
    by_cases e : ps = rect p0 b a
    · obtain ⟨x1, x2, _⟩ := key b a hb ha e
      have : a = b := by omega
      subst this
      simp
    · rw [decide_eq_false e, Bool.or_false]
  · by_cases k2 : T3 = b ∧ T4 = a
    · rw [part b a ha ha2 hb2 k2.1 k2.2 (by rw [k2.1, k2.2]; simp)]
      have e : ¬ (ps = rect p0 a b) := fun e => k1 ⟨(key a b ha hb e).1, (key a b ha hb e).2.1⟩
      rw [decide_eq_false e, Bool.false_or]
    · have e1 : ¬ (ps = rect p0 a b) := fun e => k1 ⟨(key a b ha hb e).1, (key a b ha hb e).2.1⟩
      have e2 : ¬ (ps = rect p0 b a) := fun e => k2 ⟨(key b a hb ha e).1, (key b a hb ha e).2.1⟩
      have no : ((decide ((a : Int) = T3) && decide ((b : Int) = T4)) || (decide ((b : Int) = T3) && decide ((a : Int) = T4))) = false := by
        rw [Bool.or_eq_false_iff, Bool.and_eq_false_iff, Bool.and_eq_false_iff, decide_eq_false_iff_not, decide_eq_false_iff_not, decide_eq_false_iff_not, decide_eq_false_iff_not]
        omega
      rw [no] at nin
      rw [decide_eq_false e1, decide_eq_false e2]
      simp only [Ip.run, f_is_brick, b_is_brick, ex_val, srcV_t, srcV_l, e_ofL, List.map_cons, List.map_nil, List.replicate, List.cons_append, List.nil_append, List.append_nil, xs_cons, xs_nil, x_set, x_exp, x_iff, x_ret, x_for, x_asg, cnd, tst, turnV, bdy, bindT_nm, es_cons, es_nil, e_var, e_lit, e_cmp, e_bin, e_and, e_or, e_not, e_tup, e_prm, e_ix, prmV_1, prm_int, List.getElem?_cons_zero, List.getElem?_cons_succ, R.bind_ok, R.thn_ok, List.set, RF.thn_nx, thn_rt, RF.turn_nx, turn_rt, binA_i, binV_d, binD_add, binD_sub, cmpV_d, cmpD_eqi, cmpD_nei, cmpD_le, cmpD_lt, cmpD_ge, cmpD_gt, tru_b, toDs_cons, toDs_nil, toD_d, if_true, if_false, Bool.false_eq_true, Bool.not_true, Bool.not_false, decide_true, decide_false, ev_call, and_true, true_and, and_false, false_and, not_true_eq_false, not_false_eq_true, ne_eq, e_neg, intV_i, ixl, ix0, c0, c1, hT, hU, e_or, nin, Bool.or_false]
end
end K12

set_option linter.all false
set_option Elab.async false
set_option autoImplicit false
set_option maxRecDepth 100000
namespace K12
open PySem Ip
/-! ### the places of each number -/
abbrev Gr := List (Int × List Cell)
def gcells (g : Gr) (x : Int) : List Cell := ((g.find? fun q => decide (q.1 = x)).map (·.2)).getD []
def addG (g : Gr) (x : Int) (p : Cell) : Gr := if (g.any fun q => decide (q.1 = x)) = true then g.map (fun q => if q.1 = x then (q.1, gcells g x ++ [p]) else q) else g ++ [(x, gcells g x ++ [p])]
theorem find_upd {x y : Int} {v : List Cell} : ∀ g : Gr, ((g.map fun q => if q.1 = x then (q.1, v) else q).find? fun q => decide (q.1 = y)) = (g.find? fun q => decide (q.1 = y)).map fun q => if q.1 = x then (q.1, v) else q
  | [] => rfl
  | q :: g => by
    rw [List.map_cons, List.find?_cons, List.find?_cons, find_upd g]
    have : (if q.1 = x then (q.1, v) else q).1 = q.1 := by split <;> rfl
    rw [this]
    cases decide (q.1 = y) <;> rfl
theorem any_find_g {x : Int} (g : Gr) : (g.any fun q => decide (q.1 = x)) = (g.find? fun q => decide (q.1 = x)).isSome := any_find _ g
theorem gcells_add (g : Gr) (x : Int) (p : Cell) (y : Int) : gcells (addG g x p) y = if y = x then gcells g x ++ [p] else gcells g y := by
  unfold addG
  rw [any_find_g]
  generalize hv : gcells g x ++ [p] = v
  cases e : g.find? (fun q => decide (q.1 = x)) with
  | some q =>
    rw [if_pos (show (some q).isSome = true from rfl)]
    unfold gcells
    rw [find_upd, Option.map_map]
    by_cases hy : y = x
    · subst hy
      have q1 : q.1 = y := by simpa using List.find?_some e
      rw [e, if_pos rfl]
      simp [q1]
    · rw [if_neg hy]
      cases e2 : g.find? (fun q => decide (q.1 = y)) with
      | none => rfl
      | some q2 =>
        have q1 : q2.1 = y := by simpa using List.find?_some e2
        simp [q1, hy]
  | none =>
    rw [if_neg (by simp)]
    unfold gcells
    rw [List.find?_append, List.find?_singleton]
    by_cases hy : y = x
    · subst hy
      rw [e, if_pos rfl]
      simp
    · have : ¬ (x = y) := fun z => hy z.symm
      rw [if_neg hy]
      cases e2 : g.find? (fun q => decide (q.1 = y)) with
      | none => simp [this]
      | some q2 => rfl
structure Gok (n : Nat) (g : Gr) : Prop where
  len : g.length ≤ n
  each : ∀ q ∈ g, q.2.length ≤ n ∧ q.2 ≠ [] ∧ q.2 = gcells g q.1
theorem gok_nil : Gok 0 [] := ⟨Nat.le_refl _, fun q hq => by cases hq⟩
theorem Gok.cells {n : Nat} {g : Gr} (h : Gok n g) (x : Int) : (gcells g x).length ≤ n := by
  unfold gcells
  cases e : g.find? (fun q => decide (q.1 = x)) with
  | none => exact Nat.zero_le _
  | some q => exact (h.each q (List.mem_of_find?_eq_some e)).1
theorem Gok.add {n : Nat} {g : Gr} (h : Gok n g) (x : Int) (p : Cell) : Gok (n + 1) (addG g x p) := by
  have hc := h.cells x
  have ga := gcells_add g x p
  refine ⟨?_, fun q hq => ?_⟩
  · unfold addG
    have := h.len
    split
    · rw [List.length_map]; omega
    · rw [List.length_append, List.length_singleton]; omega
  · have new : q.2 = gcells g x ++ [p] → q.1 = x → q.2.length ≤ n + 1 ∧ q.2 ≠ [] ∧ q.2 = gcells (addG g x p) q.1 := fun e1 e2 => by
      refine ⟨by rw [e1, List.length_append, List.length_singleton]; omega, by rw [e1]; simp, ?_⟩
      rw [ga, if_pos e2, e1]
    have old : q ∈ g → q.1 ≠ x → q.2.length ≤ n + 1 ∧ q.2 ≠ [] ∧ q.2 = gcells (addG g x p) q.1 := fun e1 e2 => by
      obtain ⟨a, b, c⟩ := h.each q e1
      exact ⟨by omega, b, by rw [ga, if_neg e2]; exact c⟩
    unfold addG at hq
    split at hq
    · obtain ⟨q0, m, rfl⟩ := List.mem_map.mp hq
      by_cases z : q0.1 = x
      · simp only [z, if_true] at new ⊢
        exact new trivial trivial
      · simp only [z, if_false] at old ⊢
        exact old m z
    · rename_i hn
      rcases List.mem_append.mp hq with m | m
      · refine old m fun z => hn ?_
        rw [List.any_eq_true]
        exact ⟨q, m, by simp [z]⟩
      · have m := List.mem_singleton.mp m
        exact new (by rw [m]) (by rw [m])
def atT (T : List (List Int)) (j k : Nat) : Int := (T.getD j []).getD k 0
def rowG (T : List (List Int)) (j : Nat) : Nat → Gr → Gr
  | 0, g => g
  | k + 1, g => addG (rowG T j k g) (atT T j k) (j, k)
def tabG (T : List (List Int)) (W : Nat) : Nat → Gr
  | 0 => []
  | j + 1 => rowG T j W (tabG T W j)
theorem gok_row {T : List (List Int)} {j n : Nat} {g : Gr} (h : Gok n g) : ∀ k, Gok (n + k) (rowG T j k g)
  | 0 => h
  | k + 1 => (gok_row h k).add _ _
theorem gok_tab {T : List (List Int)} {W : Nat} : ∀ j, Gok (j * W) (tabG T W j)
  | 0 => by rw [Nat.zero_mul]; exact gok_nil
  | j + 1 => by rw [Nat.succ_mul]; exact gok_row (gok_tab j) W
/-- the filling is right -/
def rightG (T : List (List Int)) (H W a b : Nat) : Bool := (tabG T W H).all fun q => isB q.2 a b
def dimB (T : List (List Int)) (H W : Nat) : Bool := decide (T.length = H) && T.all fun r => decide (r.length = W)
def rightB (T : List (List Int)) (H W a b : Nat) : Bool := dimB T H W && rightG T H W a b
/-- a table, as data -/
def TT (T : List (List Int)) : D := .tuple (T.map tupI)
theorem dim_row {T : List (List Int)} {H W j : Nat} (d : dimB T H W = true) (hj : j < H) : ∃ r, T[j]? = some r ∧ r.length = W := by
  unfold dimB at d
  rw [Bool.and_eq_true, decide_eq_true_eq, List.all_eq_true] at d
  have hj2 : j < T.length := by omega
  exact ⟨T[j], List.getElem?_eq_getElem hj2, by simpa using d.2 T[j] (List.getElem_mem hj2)⟩
section
variable {F k : Nat} {C : List Orc} {h : Hq}
theorem ix_TT {T : List (List Int)} {j : Nat} {r : List Int} (e : T[j]? = some r) : ixV (.d (TT T)) (V j) h = .ok (.d (tupI r)) h := by
  obtain ⟨hj, rfl⟩ := List.getElem?_eq_some_iff.mp e
  unfold TT
  rw [ixV_t, atD_nat (by simpa using hj)]
  simp
theorem ix_row {r : List Int} {k : Nat} (hk : k < r.length) : ixV (.d (tupI r)) (V k) h = .ok (.d (.int (r.getD k 0))) h := by
  unfold tupI
  rw [ixV_t, atD_nat (by simpa using hk), List.getD_eq_getElem?_getD, List.getElem?_eq_getElem hk]
  simp
theorem at_row {T : List (List Int)} {j k : Nat} {r : List Int} (e : T[j]? = some r) : atT T j k = r.getD k 0 := by
  unfold atT
  rw [List.getD_eq_getElem?_getD (l := T), e]; rfl
/-! ### as the law counts -/
def kvD (g : Gr) : List (L2.Key × Val) := g.map fun q => (.inl q.1, .d (.list (q.2.map cD)))
theorem look_kvD (x : Int) : ∀ g : Gr, lookK (kvD g) (.inl x) = (g.find? fun q => decide (q.1 = x)).map fun q => .d (.list (q.2.map cD))
  | [] => rfl
  | q :: g => by
    have ih := look_kvD x g
    unfold lookK kvD at ih ⊢
    rw [List.map_cons, List.find?_cons, List.find?_cons]
    have : decide ((Sum.inl q.1 : L2.Key) = Sum.inl x) = decide (q.1 = x) := by
      by_cases e : q.1 = x
      · rw [e]; simp
      · rw [decide_eq_false e, decide_eq_false fun z => e (Sum.inl.inj z)]
    simp only [this]
    cases decide (q.1 = x) with
    | true => rfl
    | false => exact ih
theorem get_kvD (x : Int) (g : Gr) : (lookK (kvD g) (.inl x)).getD (.d (.list [])) = .d (.list ((gcells g x).map cD)) := by
  rw [look_kvD]
  unfold gcells
  cases g.find? (fun q => decide (q.1 = x)) <;> rfl
theorem stor_kvD (g : Gr) (x : Int) (p : Cell) : storK (kvD g) (.inl x) (.d (.list ((gcells g x ++ [p]).map cD))) = kvD (addG g x p) := by
  have ha : ((kvD g).any fun q => decide (q.1 = (Sum.inl x : L2.Key))) = g.any fun q => decide (q.1 = x) := by
    unfold kvD
    rw [List.any_map]
    congr 1
    funext q
    simp only [Function.comp]
    by_cases e : q.1 = x
    · rw [decide_eq_true e, decide_eq_true (congrArg Sum.inl e)]
    · rw [decide_eq_false e, decide_eq_false fun z => e (Sum.inl.inj z)]
  unfold storK addG
  rw [ha]
  split
  · unfold kvD
    rw [List.map_map, List.map_map]
    refine List.map_congr_left fun q _ => ?_
    simp only [Function.comp]
    by_cases e : q.1 = x
    · simp [e]
    · have : ¬ ((Sum.inl q.1 : L2.Key) = Sum.inl x) := fun z => e (Sum.inl.inj z)
      simp [e, this]
  · unfold kvD
    simp only [List.map_append, List.map_cons, List.map_nil]
def rBody : List Ip.St := [.six (.var 5) (.ix (.ix (.var 4) (.var 6)) (.var 8)) (.ofL (.cat (.dgt (.var 5) (.ix (.ix (.var 4) (.var 6)) (.var 8)) (.ofL (.dsp []))) (.ofL (.dsp [(.tup [(.var 6), (.var 8)])]))))]
theorem r_step {T : List (List Int)} {g : Gr} {n j kk : Nat} {r : List Int} {c0 c1 c2 c3 c7 c8 c9 c10 c11 c12 c13 c14 c15 : Option Val} (ok : Gok n g) (hn : n < 1000000) (er : T[j]? = some r) (hk : kk < r.length) :
    turnV (.nm 8) (bdy F C rBody) (V kk) [c0, c1, c2, c3, some (.d (TT T)), some (.ref 0), some (V j), c7, c8, c9, c10, c11, c12, c13, c14, c15] [.dct (.k (kvD g))] =
      .ok (.nx [c0, c1, c2, c3, some (.d (TT T)), some (.ref 0), some (V j), c7, some (V kk), c9, c10, c11, c12, c13, c14, c15]) [.dct (.k (kvD (addG g (atT T j kk) (j, kk))))] := by
  have e1 : ∀ h : Hq, ixV (.d (TT T)) (V j) h = .ok (.d (tupI r)) h := fun h => ix_TT er
  have e2 : ∀ h : Hq, ixV (.d (tupI r)) (V kk) h = .ok (.d (.int (atT T j kk))) h := fun h => by rw [at_row er]; exact ix_row hk
  generalize atT T j kk = x at *
  have ft0 : fits 0 = true := by decide
  have ft1 : fits 1 = true := by decide
  have dk : dctK (.ref 0) [.dct (.k (kvD g))] = .ok () [.dct (.k (kvD g))] := rfl
  have dg : dgtV (.ref 0) (.d (.int x)) (.d (.list [])) [.dct (.k (kvD g))] = .ok (.d (.list ((gcells g x).map cD))) [.dct (.k (kvD g))] := by
    rw [← get_kvD]; rfl
  have cl : ∀ h : Hq, catL (.d (.list ((gcells g x).map cD))) (.d (.list [.tuple [.int (j : Int), .int (kk : Int)]])) h = .ok (((gcells g x ++ [(j, kk)]).map cD).map .d) h := fun h => by
    have := ok.cells x
    have f : fits ((((gcells g x).map cD).map Val.d).length + ([PyData.tuple [.int (j : Int), .int (kk : Int)]].map Val.d).length) = true := fits_le (by simp; omega)
    show (if fits ((((gcells g x).map cD).map Val.d).length + ([PyData.tuple [.int (j : Int), .int (kk : Int)]].map Val.d).length) then R.ok (((gcells g x).map cD).map Val.d ++ [PyData.tuple [.int (j : Int), .int (kk : Int)]].map Val.d) h else .no) = _
    rw [f, if_pos rfl, List.map_append, List.map_append]; rfl
  have sv : setV (.ref 0) (.d (.int x)) (.d (.list ((gcells g x ++ [(j, kk)]).map cD))) [.dct (.k (kvD g))] = .ok () [.dct (.k (kvD (addG g x (j, kk))))] := by
    have l1 : (kvD g).length < 16777216 := by unfold kvD; rw [List.length_map]; have := ok.len; omega
    rw [← stor_kvD]
    show (match (if (kvD g).length < 16777216 then some (Dc.k (storK (kvD g) (.inl x) (.d (.list ((gcells g x ++ [(j, kk)]).map cD))))) else none) with | some c' => R.ok () [IO.dct c'] | none => R.no) = _
    rw [if_pos l1]
  unfold rBody
  simp only [ex_val, srcV_t, srcV_l, e_ofL, List.map_cons, List.map_nil, List.replicate, List.cons_append, List.nil_append, List.append_nil, xs_cons, xs_nil, x_set, x_exp, x_iff, x_ret, x_for, x_asg, cnd, tst, turnV, bdy, bindT_nm, es_cons, es_nil, e_var, e_lit, e_cmp, e_bin, e_and, e_or, e_not, e_tup, e_prm, e_ix, prmV_1, prm_int, List.getElem?_cons_zero, List.getElem?_cons_succ, R.bind_ok, R.thn_ok, List.set, RF.thn_nx, thn_rt, RF.turn_nx, turn_rt, binA_i, binV_d, binD_add, binD_sub, cmpV_d, cmpD_eqi, cmpD_nei, cmpD_le, cmpD_lt, cmpD_ge, cmpD_gt, tru_b, toDs_cons, toDs_nil, toD_d, if_true, if_false, Bool.false_eq_true, Bool.not_true, Bool.not_false, decide_true, decide_false, ev_call, and_true, true_and, and_false, false_and, not_true_eq_false, not_false_eq_true, ne_eq, x_six, el_cat, e_dgt, dk, e1, e2, el_dsp, List.length_nil, List.length_cons, Nat.zero_add, ft0, ft1, dg, cl, toDs_map, sv]
def fE (m n : Nat) : Ex := .ofL (.cmp [8] (.nm 8) (.rng (.bin .mul (.var 14) (.var 15))) [] (.tup [(.bin .add (.var 11) (.bin .fdiv (.var 8) (.var 15))), (.bin .add (.var 12) (.bin .mod (.prm .int [(.var 8)]) (.var 15)))]))
theorem fit_ev {m n : Nat} {p : Cell} {c0 c1 c2 c3 c4 c5 c6 c7 c8 c9 c10 c13 : Option Val} (hm : m < 1000) (hn : n < 1000) (h0 : 0 < n) :
    ev F C (.ofL (.cmp [8] (.nm 8) (.rng (.bin .mul (.var 14) (.var 15))) [] (.tup [(.bin .add (.var 11) (.bin .fdiv (.var 8) (.var 15))), (.bin .add (.var 12) (.bin .mod (.prm .int [(.var 8)]) (.var 15)))]))) [c0, c1, c2, c3, c4, c5, c6, c7, c8, c9, c10, some (V p.1), some (V p.2), c13, some (V m), some (V n)] h = .ok (.d (.list ((rect p m n).map cD))) h := by
  have m1 := okM m n (by omega) (by omega)
  have d1 := okD n (by omega) h0
  have n0 : ¬ ((n : Int) = 0) := by omega
  have mn : m * n < 1000000 := Nat.lt_of_lt_of_le (Nat.mul_lt_mul'' hm hn) (by decide)
  have r := okR (m * n) (by omega)
  have e0 : (m : Int) * (n : Int) = ((m * n : Nat) : Int) := by rw [Int.natCast_mul]
  have ft : fits (rangeL 0 (m * n)).length = true := fits_le (by rw [rangeL_len]; omega)
  have it := cmp_rng (h := h) (f := itm F C [8] (.nm 8) [] (.tup [(.bin .add (.var 11) (.bin .fdiv (.var 8) (.var 15))), (.bin .add (.var 12) (.bin .mod (.prm .int [(.var 8)]) (.var 15)))]) [c0, c1, c2, c3, c4, c5, c6, c7, c8, c9, c10, some (V p.1), some (V p.2), c13, some (V m), some (V n)]) (m * n) (fun i => cD (p.1 + i / n, p.2 + i % n)) (fun i hi => by
    have e1 : (PyData.tuple [.int ((p.1 : Int) + ((i / n : Nat) : Int)), .int ((p.2 : Int) + ((i % n : Nat) : Int))]) = cD (p.1 + i / n, p.2 + i % n) := by
      unfold cD N
      simp
    unfold itm
    simp only [ex_val, srcV_t, srcV_l, e_ofL, List.map_cons, List.map_nil, List.replicate, List.cons_append, List.nil_append, List.append_nil, xs_cons, xs_nil, x_set, x_exp, x_iff, x_ret, x_for, x_asg, cnd, tst, turnV, bdy, bindT_nm, es_cons, es_nil, e_var, e_lit, e_cmp, e_bin, e_and, e_or, e_not, e_tup, e_prm, e_ix, prmV_1, prm_int, List.getElem?_cons_zero, List.getElem?_cons_succ, R.bind_ok, R.thn_ok, List.set, RF.thn_nx, thn_rt, RF.turn_nx, turn_rt, binA_i, binV_d, binD_add, binD_sub, cmpV_d, cmpD_eqi, cmpD_nei, cmpD_le, cmpD_lt, cmpD_ge, cmpD_gt, tru_b, toDs_cons, toDs_nil, toD_d, if_true, if_false, Bool.false_eq_true, Bool.not_true, Bool.not_false, decide_true, decide_false, ev_call, and_true, true_and, and_false, false_and, not_true_eq_false, not_false_eq_true, ne_eq, wipe, ei_nil, binD_fdiv, binD_mod, d1, n0, fdiv_nat, fmod_nat, e1, R.quiet_ok])
  simp only [ex_val, srcV_t, srcV_l, e_ofL, List.map_cons, List.map_nil, List.replicate, List.cons_append, List.nil_append, List.append_nil, xs_cons, xs_nil, x_set, x_exp, x_iff, x_ret, x_for, x_asg, cnd, tst, turnV, bdy, bindT_nm, es_cons, es_nil, e_var, e_lit, e_cmp, e_bin, e_and, e_or, e_not, e_tup, e_prm, e_ix, prmV_1, prm_int, List.getElem?_cons_zero, List.getElem?_cons_succ, R.bind_ok, R.thn_ok, List.set, RF.thn_nx, thn_rt, RF.turn_nx, turn_rt, binA_i, binV_d, binD_add, binD_sub, cmpV_d, cmpD_eqi, cmpD_nei, cmpD_le, cmpD_lt, cmpD_ge, cmpD_gt, tru_b, toDs_cons, toDs_nil, toD_d, if_true, if_false, Bool.false_eq_true, Bool.not_true, Bool.not_false, decide_true, decide_false, ev_call, and_true, true_and, and_false, false_and, not_true_eq_false, not_false_eq_true, ne_eq, el_cmp, ex_rng, binD_mul, m1, e0, intV_i, r, Int.toNat_natCast, ft, it, toDs_fn]
  unfold rect
  rw [List.map_map]
  rfl
end
end K12

set_option linter.all false
set_option Elab.async false
set_option autoImplicit false
set_option maxRecDepth 100000
namespace K12
open PySem Ip
/-- a walk that may return, its state told by what it keeps -/
theorem forL_retP {α : Type} {f : Val → Sg → Hq → RF} {h : Hq} {P : Sg → Prop} (val : α → Val) (p : α → Bool) (r : α → Val) : ∀ (as : List α) (σ : Sg), P σ →
    (∀ a ∈ as, ∀ σ, P σ → (p a = true → f (val a) σ h = .ok (.rt (r a)) h) ∧ (p a = false → ∃ σ', P σ' ∧ f (val a) σ h = .ok (.nx σ') h)) →
    (∃ a, as.find? p = some a ∧ forL f (as.map val) σ h = .ok (.rt (r a)) h) ∨ (as.find? p = none ∧ ∃ σ', P σ' ∧ forL f (as.map val) σ h = .ok (.nx σ') h)
  | [], σ, hp, _ => .inr ⟨rfl, σ, hp, rfl⟩
  | a :: as, σ, hp, s => by
    obtain ⟨s1, s2⟩ := s a List.mem_cons_self σ hp
    rw [List.map_cons, forL_cons, List.find?_cons]
    cases e : p a with
    | true =>
      rw [s1 e]
      exact .inl ⟨a, rfl, rfl⟩
    | false =>
      obtain ⟨σ', p', e'⟩ := s2 e
      rw [e']
      exact forL_retP val p r as σ' p' fun x hx => s x (List.mem_cons_of_mem _ hx)
theorem all_find {α : Type} (p : α → Bool) : ∀ xs : List α, xs.all p = (xs.find? fun x => !p x).isNone
  | [] => rfl
  | x :: xs => by
    rw [List.all_cons, List.find?_cons, all_find p xs]
    cases p x <;> rfl
theorem any_not {α : Type} (p : α → Bool) : ∀ xs : List α, (xs.any fun x => !p x) = !xs.all p
  | [] => rfl
  | x :: xs => by rw [List.any_cons, List.all_cons, any_not p xs, Bool.not_and]
section
variable {F k : Nat} {C : List Orc} {h : Hq}
def kBody : List Ip.St := [.set 9 (.ix (.var 5) (.var 7)),
      .asg (.tp [11, 12]) (.ix (.var 9) (.lit (.int 0))),
      .set 10 (.ofL (.cmp [14, 15] (.tp [14, 15]) (.val (.ofL (.dsp [(.tup [(.var 2), (.var 3)]), (.tup [(.var 3), (.var 2)])]))) [] (.ofL (.cmp [8] (.nm 8) (.rng (.bin .mul (.var 14) (.var 15))) [] (.tup [(.bin .add (.var 11) (.bin .fdiv (.var 8) (.var 15))), (.bin .add (.var 12) (.bin .mod (.prm .int [(.var 8)]) (.var 15)))]))))),
      .iff (.cmp .nin (.var 9) (.var 10))
        [.ret (.lit (.bool false))]
        []]
theorem nin_fits (ps q1 q2 : List Cell) : cmpD .nin (.list (ps.map cD)) (.list [.list (q1.map cD), .list (q2.map cD)]) = some (!(decide (ps = q1) || decide (ps = q2))) := by
  have s1 := shp_cDs ps
  have a := lay_cDs q1
  have b := lay_cDs q2
  have s2 : SeqAt.shaped (.list [.list (q1.map cD), .list (q2.map cD)]) = true := by
    unfold SeqAt.shaped
    show ((PyData.canLayAll0 (q1.map cD) && (PyData.canLayAll0 (q2.map cD) && true)) && decide (max (PyData.depthAll (q1.map cD) + 1) (max (PyData.depthAll (q2.map cD) + 1) 0) + 1 ≤ 64)) = true
    rw [a.1, b.1]
    show decide _ = true
    exact decide_eq_true (by omega)
  show (if SeqAt.shaped (.list (ps.map cD)) && SeqAt.shaped (.list [.list (q1.map cD), .list (q2.map cD)]) then some (!(PyData.eqvAll (q1.map cD) (ps.map cD) || (PyData.eqvAll (q2.map cD) (ps.map cD) || false))) else none) = _
  rw [s1, s2, eqv_cDs, eqv_cDs, Bool.or_false]
  have c1 : decide (q1 = ps) = decide (ps = q1) := decide_eq_decide.mpr eq_comm
  have c2 : decide (q2 = ps) = decide (ps = q2) := decide_eq_decide.mpr eq_comm
  rw [c1, c2]; rfl
theorem k_step {g : Gr} {a b : Nat} {q : Int × List Cell} {c0 c1 c4 c6 c7 c8 c9 c10 c11 c12 c13 c14 c15 : Option Val} (ha : 0 < a) (hb : 0 < b) (ha2 : a < 1000) (hb2 : b < 1000) (hq : q ∈ g) (e : q.2 = gcells g q.1) (ne : q.2 ≠ []) :
    turnV (.nm 7) (bdy F C kBody) (.d (.int q.1)) [c0, c1, some (V a), some (V b), c4, some (.ref 0), c6, c7, c8, c9, c10, c11, c12, c13, c14, c15] [.dl (kvD g)] =
      if isB q.2 a b = true then .ok (.nx [c0, c1, some (V a), some (V b), c4, some (.ref 0), c6, some (.d (.int q.1)), c8, some (.d (.list (q.2.map cD))), some (.d (.list [.list ((rect (q.2.headD (0, 0)) a b).map cD), .list ((rect (q.2.headD (0, 0)) b a).map cD)])), some (V (q.2.headD (0, 0)).1), some (V (q.2.headD (0, 0)).2), c13, c14, c15]) [.dl (kvD g)] else .ok (.rt (.d (.bool false))) [.dl (kvD g)] := by
  have lk : ixV (.ref 0) (.d (.int q.1)) [.dl (kvD g)] = .ok (.d (.list (q.2.map cD))) [.dl (kvD g)] := by
    have hs : (g.find? fun z => decide (z.1 = q.1)).isSome = true := by
      rw [List.find?_isSome]
      exact ⟨q, hq, by simp⟩
    have : lookK (kvD g) (.inl q.1) = some (.d (.list (q.2.map cD))) := by
      rw [look_kvD, e]
      unfold gcells
      cases e3 : g.find? (fun z => decide (z.1 = q.1)) with
      | none => rw [e3] at hs; cases hs
      | some z => rfl
    show (match some (lookK (kvD g) (.inl q.1)) with | some (some v) => R.ok v [IO.dl (kvD g)] | _ => .no) = _
    rw [this]
  obtain ⟨p0, rest, hp⟩ := List.exists_cons_of_ne_nil ne
  have hh : q.2.headD (0, 0) = p0 := by rw [hp]; rfl
  have i0 : ∀ h : Hq, ixV (.d (.list (q.2.map cD))) (.d (.int 0)) h = .ok (.d (.tuple [N p0.1, N p0.2])) h := fun h => by rw [hp, ixV_l, List.map_cons, List.map_cons, atD_0]; rfl
  have nf := nin_fits q.2 (rect p0 a b) (rect p0 b a)
  unfold isB
  rw [hh]
  have f1 := fun h => fit_ev (F := F) (C := C) (h := h) (m := a) (n := b) (p := p0) (c0 := c0) (c1 := c1) (c2 := some (V a)) (c3 := some (V b)) (c4 := c4) (c5 := some (.ref 0)) (c6 := c6) (c7 := some (.d (.int q.1))) (c8 := c8) (c9 := some (.d (.list (q.2.map cD)))) (c10 := c10) (c13 := c13) ha2 hb2 hb
  have f2 := fun h => fit_ev (F := F) (C := C) (h := h) (m := b) (n := a) (p := p0) (c0 := c0) (c1 := c1) (c2 := some (V a)) (c3 := some (V b)) (c4 := c4) (c5 := some (.ref 0)) (c6 := c6) (c7 := some (.d (.int q.1))) (c8 := c8) (c9 := some (.d (.list (q.2.map cD)))) (c10 := c10) (c13 := c13) hb2 ha2 ha
  have ft2 : fits 2 = true := by decide
  have i1 := fun h : Hq => show itm F C [14, 15] (.tp [14, 15]) [] (.ofL (.cmp [8] (.nm 8) (.rng (.bin .mul (.var 14) (.var 15))) [] (.tup [(.bin .add (.var 11) (.bin .fdiv (.var 8) (.var 15))), (.bin .add (.var 12) (.bin .mod (.prm .int [(.var 8)]) (.var 15)))]))) [c0, c1, some (V a), some (V b), c4, some (.ref 0), c6, some (.d (.int q.1)), c8, some (.d (.list (q.2.map cD))), c10, some (V p0.1), some (V p0.2), c13, c14, c15] (.d (.tuple [.int (a : Int), .int (b : Int)])) h = .ok [.d (.list ((rect p0 a b).map cD))] h from by
    unfold itm
    simp only [wipe, List.set, bindT_2, ei_nil, R.bind_ok, if_true, f1, R.quiet_ok]
  have i2 := fun h : Hq => show itm F C [14, 15] (.tp [14, 15]) [] (.ofL (.cmp [8] (.nm 8) (.rng (.bin .mul (.var 14) (.var 15))) [] (.tup [(.bin .add (.var 11) (.bin .fdiv (.var 8) (.var 15))), (.bin .add (.var 12) (.bin .mod (.prm .int [(.var 8)]) (.var 15)))]))) [c0, c1, some (V a), some (V b), c4, some (.ref 0), c6, some (.d (.int q.1)), c8, some (.d (.list (q.2.map cD))), c10, some (V p0.1), some (V p0.2), c13, c14, c15] (.d (.tuple [.int (b : Int), .int (a : Int)])) h = .ok [.d (.list ((rect p0 b a).map cD))] h from by
    unfold itm
    simp only [wipe, List.set, bindT_2, ei_nil, R.bind_ok, if_true, f2, R.quiet_ok]
  unfold kBody
  simp only [ex_val, srcV_t, srcV_l, e_ofL, List.map_cons, List.map_nil, List.replicate, List.cons_append, List.nil_append, List.append_nil, xs_cons, xs_nil, x_set, x_exp, x_iff, x_ret, x_for, x_asg, cnd, tst, turnV, bdy, bindT_nm, es_cons, es_nil, e_var, e_lit, e_cmp, e_bin, e_and, e_or, e_not, e_tup, e_prm, e_ix, prmV_1, prm_int, List.getElem?_cons_zero, List.getElem?_cons_succ, R.bind_ok, R.thn_ok, List.set, RF.thn_nx, thn_rt, RF.turn_nx, turn_rt, binA_i, binV_d, binD_add, binD_sub, cmpV_d, cmpD_eqi, cmpD_nei, cmpD_le, cmpD_lt, cmpD_ge, cmpD_gt, tru_b, toDs_cons, toDs_nil, toD_d, if_true, if_false, Bool.false_eq_true, Bool.not_true, Bool.not_false, decide_true, decide_false, ev_call, and_true, true_and, and_false, false_and, not_true_eq_false, not_false_eq_true, ne_eq, lk, i0, bindT_2, el_cmp, el_dsp, List.length_cons, List.length_nil, Nat.zero_add, Nat.reduceAdd, ft2, cmpL_cons, cmpL_nil, i1, i2, nf]
  cases (decide (q.2 = rect p0 a b) || decide (q.2 = rect p0 b a)) <;> simp only [ex_val, srcV_t, srcV_l, e_ofL, List.map_cons, List.map_nil, List.replicate, List.cons_append, List.nil_append, List.append_nil, xs_cons, xs_nil, x_set, x_exp, x_iff, x_ret, x_for, x_asg, cnd, tst, turnV, bdy, bindT_nm, es_cons, es_nil, e_var, e_lit, e_cmp, e_bin, e_and, e_or, e_not, e_tup, e_prm, e_ix, prmV_1, prm_int, List.getElem?_cons_zero, List.getElem?_cons_succ, R.bind_ok, R.thn_ok, List.set, RF.thn_nx, thn_rt, RF.turn_nx, turn_rt, binA_i, binV_d, binD_add, binD_sub, cmpV_d, cmpD_eqi, cmpD_nei, cmpD_le, cmpD_lt, cmpD_ge, cmpD_gt, tru_b, toDs_cons, toDs_nil, toD_d, if_true, if_false, Bool.false_eq_true, Bool.not_true, Bool.not_false, decide_true, decide_false, ev_call, and_true, true_and, and_false, false_and, not_true_eq_false, not_false_eq_true, ne_eq]
theorem c_right {T : List (List Int)} {H W a b : Nat} (ha : 0 < a) (hb : 0 < b) (ha2 : a < 1000) (hb2 : b < 1000) (hH : H < 1000) (hW : W < 1000) (hT : T.length ≤ 10000) : callR F C f__law_right [V H, V W, V a, V b, .d (TT T)] h = .ok (.d (.bool (rightB T H W a b))) h := by
  suffices hr : ∃ h1, Ip.run F C f__law_right ([.int H, .int W, .int a, .int b, TT T].map .d) [] = .ok (.d (.bool (rightB T H W a b))) h1 by
    obtain ⟨h1, e⟩ := hr
    exact call_pd (ds := [.int H, .int W, .int a, .int b, TT T]) rfl rfl e
  have mm : (T.map tupI).map Val.d = T.map fun r => Val.d (tupI r) := by rw [List.map_map]; rfl
  have ft : fits T.length = true := fits_le (by omega)
  have it := cmp_fn (h := []) (f := itm F C [13] (.nm 13) [] (.cmp .ne (.prm .len [(.var 13)]) (.var 1)) [some (V H), some (V W), some (V a), some (V b), some (.d (TT T)), none, none, none, none, none, none, none, none, none, none, none]) tupI (fun r => .bool (!decide (r.length = W))) T (fun r _ => by
    unfold itm tupI
    simp only [ex_val, srcV_t, srcV_l, e_ofL, List.map_cons, List.map_nil, List.replicate, List.cons_append, List.nil_append, List.append_nil, xs_cons, xs_nil, x_set, x_exp, x_iff, x_ret, x_for, x_asg, cnd, tst, turnV, bdy, bindT_nm, es_cons, es_nil, e_var, e_lit, e_cmp, e_bin, e_and, e_or, e_not, e_tup, e_prm, e_ix, prmV_1, prm_int, List.getElem?_cons_zero, List.getElem?_cons_succ, R.bind_ok, R.thn_ok, List.set, RF.thn_nx, thn_rt, RF.turn_nx, turn_rt, binA_i, binV_d, binD_add, binD_sub, cmpV_d, cmpD_eqi, cmpD_nei, cmpD_le, cmpD_lt, cmpD_ge, cmpD_gt, tru_b, toDs_cons, toDs_nil, toD_d, if_true, if_false, Bool.false_eq_true, Bool.not_true, Bool.not_false, decide_true, decide_false, ev_call, and_true, true_and, and_false, false_and, not_true_eq_false, not_false_eq_true, ne_eq, wipe, ei_nil, prm_lent, List.length_map, dec_nat, R.quiet_ok])
  have cn : cnd F C (.or_ (.cmp .ne (.prm .len [(.var 4)]) (.var 0)) (.prm .any [(.ofL (.cmp [13] (.nm 13) (.val (.var 4)) [] (.cmp .ne (.prm .len [(.var 13)]) (.var 1))))])) [some (V H), some (V W), some (V a), some (V b), some (.d (TT T)), none, none, none, none, none, none, none, none, none, none, none] [] = .ok (!dimB T H W) [] := by
    unfold dimB
    have e1 : prmD .len [TT T] = some (.int (T.length : Int)) := by unfold TT; rw [prm_lent, List.length_map]
    have e2 : ∀ h, srcV (.d (TT T)) h = .ok (.data (T.map fun r => Val.d (tupI r))) h := fun h => by unfold TT; rw [srcV_t, mm]
    have e3 := any_not (fun r : List Int => decide (r.length = W)) T
    simp only [ex_val, srcV_t, srcV_l, e_ofL, List.map_cons, List.map_nil, List.replicate, List.cons_append, List.nil_append, List.append_nil, xs_cons, xs_nil, x_set, x_exp, x_iff, x_ret, x_for, x_asg, cnd, tst, turnV, bdy, bindT_nm, es_cons, es_nil, e_var, e_lit, e_cmp, e_bin, e_and, e_or, e_not, e_tup, e_prm, e_ix, prmV_1, prm_int, List.getElem?_cons_zero, List.getElem?_cons_succ, R.bind_ok, R.thn_ok, List.set, RF.thn_nx, thn_rt, RF.turn_nx, turn_rt, binA_i, binV_d, binD_add, binD_sub, cmpV_d, cmpD_eqi, cmpD_nei, cmpD_le, cmpD_lt, cmpD_ge, cmpD_gt, tru_b, toDs_cons, toDs_nil, toD_d, if_true, if_false, Bool.false_eq_true, Bool.not_true, Bool.not_false, decide_true, decide_false, ev_call, and_true, true_and, and_false, false_and, not_true_eq_false, not_false_eq_true, ne_eq, e_or, e1, dec_nat]
    by_cases hl : T.length = H
    · subst hl
      simp only [eq_self, ex_val, srcV_t, srcV_l, e_ofL, List.map_cons, List.map_nil, List.replicate, List.cons_append, List.nil_append, List.append_nil, xs_cons, xs_nil, x_set, x_exp, x_iff, x_ret, x_for, x_asg, cnd, tst, turnV, bdy, bindT_nm, es_cons, es_nil, e_var, e_lit, e_cmp, e_bin, e_and, e_or, e_not, e_tup, e_prm, e_ix, prmV_1, prm_int, List.getElem?_cons_zero, List.getElem?_cons_succ, R.bind_ok, R.thn_ok, List.set, RF.thn_nx, thn_rt, RF.turn_nx, turn_rt, binA_i, binV_d, binD_add, binD_sub, cmpV_d, cmpD_eqi, cmpD_nei, cmpD_le, cmpD_lt, cmpD_ge, cmpD_gt, tru_b, toDs_cons, toDs_nil, toD_d, if_true, if_false, Bool.false_eq_true, Bool.not_true, Bool.not_false, decide_true, decide_false, ev_call, and_true, true_and, and_false, false_and, not_true_eq_false, not_false_eq_true, ne_eq, el_cmp, e2, List.length_map, ft, it, toDs_fn, prmD, bools_map, Option.map_some, any_map, e3, Bool.true_and]
    · simp only [hl, ex_val, srcV_t, srcV_l, e_ofL, List.map_cons, List.map_nil, List.replicate, List.cons_append, List.nil_append, List.append_nil, xs_cons, xs_nil, x_set, x_exp, x_iff, x_ret, x_for, x_asg, cnd, tst, turnV, bdy, bindT_nm, es_cons, es_nil, e_var, e_lit, e_cmp, e_bin, e_and, e_or, e_not, e_tup, e_prm, e_ix, prmV_1, prm_int, List.getElem?_cons_zero, List.getElem?_cons_succ, R.bind_ok, R.thn_ok, List.set, RF.thn_nx, thn_rt, RF.turn_nx, turn_rt, binA_i, binV_d, binD_add, binD_sub, cmpV_d, cmpD_eqi, cmpD_nei, cmpD_le, cmpD_lt, cmpD_ge, cmpD_gt, tru_b, toDs_cons, toDs_nil, toD_d, if_true, if_false, Bool.false_eq_true, Bool.not_true, Bool.not_false, decide_true, decide_false, ev_call, and_true, true_and, and_false, false_and, not_true_eq_false, not_false_eq_true, ne_eq, Bool.false_and]
  have hb0 : b__law_right = .iff (.or_ (.cmp .ne (.prm .len [(.var 4)]) (.var 0)) (.prm .any [(.ofL (.cmp [13] (.nm 13) (.val (.var 4)) [] (.cmp .ne (.prm .len [(.var 13)]) (.var 1))))])) [.ret (.lit (.bool false))] [] :: [.set 5 (.dnew false), .for_ (.nm 6) (.rng (.var 0)) [.for_ (.nm 8) (.rng (.var 1)) rBody], .for_ (.nm 7) (.keys (.var 5)) kBody, .ret (.lit (.bool true))] := rfl
  suffices hr : ∃ h1, exs F C b__law_right [some (V H), some (V W), some (V a), some (V b), some (.d (TT T)), none, none, none, none, none, none, none, none, none, none, none] [] = .ok (.rt (.d (.bool (rightB T H W a b)))) h1 by
    obtain ⟨h1, e⟩ := hr
    refine ⟨h1, ?_⟩
    show (match exs F C b__law_right [some (V H), some (V W), some (V a), some (V b), some (.d (TT T)), none, none, none, none, none, none, none, none, none, none, none] [] with
      | .ok (.rt v) h1 => R.ok v h1
      | .ok (.nx _) h1 => .ok (.d .none) h1
      | .er e _ h1 => .er e h1
      | _ => .no) = _
    rw [e]
  rw [hb0, xs_cons, x_iff, cn]
  unfold rightB
  cases hd : dimB T H W with
  | false => exact ⟨[], by simp only [ex_val, srcV_t, srcV_l, e_ofL, List.map_cons, List.map_nil, List.replicate, List.cons_append, List.nil_append, List.append_nil, xs_cons, xs_nil, x_set, x_exp, x_iff, x_ret, x_for, x_asg, cnd, tst, turnV, bdy, bindT_nm, es_cons, es_nil, e_var, e_lit, e_cmp, e_bin, e_and, e_or, e_not, e_tup, e_prm, e_ix, prmV_1, prm_int, List.getElem?_cons_zero, List.getElem?_cons_succ, R.bind_ok, R.thn_ok, List.set, RF.thn_nx, thn_rt, RF.turn_nx, turn_rt, binA_i, binV_d, binD_add, binD_sub, cmpV_d, cmpD_eqi, cmpD_nei, cmpD_le, cmpD_lt, cmpD_ge, cmpD_gt, tru_b, toDs_cons, toDs_nil, toD_d, if_true, if_false, Bool.false_eq_true, Bool.not_true, Bool.not_false, decide_true, decide_false, ev_call, and_true, true_and, and_false, false_and, not_true_eq_false, not_false_eq_true, ne_eq, Bool.false_and]⟩
  | true =>
    have rH := okR H (by omega)
    have rW := okR W (by omega)
    obtain ⟨σ', h', ⟨c6, c8, rfl, rfl⟩, e1⟩ := forL_rng (f := turnV (.nm 6) (bdy F C [.for_ (.nm 8) (.rng (.var 1)) rBody])) (P := fun i σ h => ∃ c6 c8, σ = [some (V H), some (V W), some (V a), some (V b), some (.d (TT T)), some (.ref 0), c6, none, c8, none, none, none, none, none, none, none] ∧ h = [.dct (.k (kvD (tabG T W i)))]) H (σ := [some (V H), some (V W), some (V a), some (V b), some (.d (TT T)), some (.ref 0), none, none, none, none, none, none, none, none, none, none]) (h := [.dct (.k [])]) (fun j σ h hj hp => by
        obtain ⟨c6, c8, rfl, rfl⟩ := hp
        obtain ⟨r, er, hr⟩ := dim_row hd hj
        have g0 := gok_tab (T := T) (W := W) j
        have hjw : j * W < 1000 * 1000 := Nat.lt_of_le_of_lt (Nat.mul_le_mul (Nat.le_of_lt (Nat.lt_trans hj hH)) (Nat.le_refl W)) (by omega)
        have hjw2 : (j + 1) * W ≤ 999 * 999 := Nat.mul_le_mul (by omega) (by omega)
        rw [Nat.succ_mul] at hjw2
        obtain ⟨σ', h', ⟨c8', rfl, rfl⟩, e2⟩ := forL_rng (f := turnV (.nm 8) (bdy F C rBody)) (P := fun i σ h => ∃ c8, σ = [some (V H), some (V W), some (V a), some (V b), some (.d (TT T)), some (.ref 0), some (V j), none, c8, none, none, none, none, none, none, none] ∧ h = [.dct (.k (kvD (rowG T j i (tabG T W j))))]) W (σ := [some (V H), some (V W), some (V a), some (V b), some (.d (TT T)), some (.ref 0), some (V j), none, c8, none, none, none, none, none, none, none]) (h := [.dct (.k (kvD (tabG T W j)))]) (fun i σ h hi hp => by
          obtain ⟨c8, rfl, rfl⟩ := hp
          exact ⟨_, _, ⟨_, rfl, rfl⟩, r_step (gok_row g0 i) (by omega) er (by omega)⟩) ⟨c8, rfl, rfl⟩
        refine ⟨[some (V H), some (V W), some (V a), some (V b), some (.d (TT T)), some (.ref 0), some (V j), none, c8', none, none, none, none, none, none, none], [.dct (.k (kvD (tabG T W (j + 1))))], ⟨some (V j), c8', rfl, rfl⟩, ?_⟩
        have t1 : turnV (.nm 6) (bdy F C [.for_ (.nm 8) (.rng (.var 1)) rBody]) (V j) [some (V H), some (V W), some (V a), some (V b), some (.d (TT T)), some (.ref 0), c6, none, c8, none, none, none, none, none, none, none] [.dct (.k (kvD (tabG T W j)))] = (forL (turnV (.nm 8) (bdy F C rBody)) (rangeL 0 W) [some (V H), some (V W), some (V a), some (V b), some (.d (TT T)), some (.ref 0), some (V j), none, c8, none, none, none, none, none, none, none] [.dct (.k (kvD (tabG T W j)))]).thn fun σ h => .ok (.nx σ) h := by
          unfold turnV
          simp only [bindT_nm, List.set_cons_succ, List.set_cons_zero]
          unfold bdy
          simp only [xs_cons, xs_nil, x_for, ex_rng, e_var, List.getElem?_cons_zero, List.getElem?_cons_succ, R.bind_ok, intV_i, rW, if_true, Int.toNat_natCast, R.thn_ok]
          rfl
        rw [t1, e2]
        rfl) ⟨none, none, rfl, rfl⟩
    have g0 := gok_tab (T := T) (W := W) H
    have kv : keysV (.ref 0) [.dct (.k (kvD (tabG T W H)))] = .ok (.data ((tabG T W H).map fun q => Val.d (.int q.1))) [.dl (kvD (tabG T W H))] := by
      have : (kvD (tabG T W H)).map (fun p => keyV p.1) = (tabG T W H).map fun q => Val.d (.int q.1) := by
        unfold kvD
        rw [List.map_map]; rfl
      show R.ok (Sv.data ((kvD (tabG T W H)).map fun p => keyV p.1)) [IO.dl (kvD (tabG T W H))] = _
      rw [this]
    have lp := forL_retP (h := [.dl (kvD (tabG T W H))]) (f := turnV (.nm 7) (bdy F C kBody)) (P := fun σ => ∃ c6 c7 c8 c9 c10 c11 c12 c13 c14 c15, σ = [some (V H), some (V W), some (V a), some (V b), some (.d (TT T)), some (.ref 0), c6, c7, c8, c9, c10, c11, c12, c13, c14, c15]) (fun q : Int × List Cell => Val.d (.int q.1)) (fun q => !isB q.2 a b) (fun _ => .d (.bool false)) (tabG T W H) [some (V H), some (V W), some (V a), some (V b), some (.d (TT T)), some (.ref 0), c6, none, c8, none, none, none, none, none, none, none] ⟨_, _, _, _, _, _, _, _, _, _, rfl⟩ (fun q hq σ hp => by
        obtain ⟨c6, c7, c8, c9, c10, c11, c12, c13, c14, c15, rfl⟩ := hp
        obtain ⟨_, ne, e⟩ := g0.each q hq
        have ks := k_step (F := F) (C := C) (c0 := some (V H)) (c1 := some (V W)) (c4 := some (.d (TT T))) (c6 := c6) (c7 := c7) (c8 := c8) (c9 := c9) (c10 := c10) (c11 := c11) (c12 := c12) (c13 := c13) (c14 := c14) (c15 := c15) ha hb ha2 hb2 hq e ne
        constructor
        · intro z
          have z : isB q.2 a b = false := by simpa using z
          rw [ks, z]; rfl
        · intro z
          have z : isB q.2 a b = true := by simpa using z
          rw [ks, z]
          exact ⟨_, ⟨_, _, _, _, _, _, _, _, _, _, rfl⟩, rfl⟩)
    have tl : exs F C [.set 5 (.dnew false), .for_ (.nm 6) (.rng (.var 0)) [.for_ (.nm 8) (.rng (.var 1)) rBody], .for_ (.nm 7) (.keys (.var 5)) kBody, .ret (.lit (.bool true))] [some (V H), some (V W), some (V a), some (V b), some (.d (TT T)), none, none, none, none, none, none, none, none, none, none, none] [] = .ok (.rt (.d (.bool (rightG T H W a b)))) [.dl (kvD (tabG T W H))] := by
      have ra : rightG T H W a b = ((tabG T W H).find? fun q => !isB q.2 a b).isNone := all_find _ _
      rw [ra]
      simp only [xs_cons, xs_nil, x_set, e_dnew, Bool.false_eq_true, if_false, List.length_nil, List.nil_append, R.thn_ok, List.set, RF.thn_nx, x_for, ex_rng, e_var, List.getElem?_cons_zero, List.getElem?_cons_succ, R.bind_ok, intV_i, rH, if_true, Int.toNat_natCast, e1, ex_keys, kv]
      rcases lp with ⟨q, e3, e4⟩ | ⟨e3, σ', _, e4⟩
      · rw [e4, e3]; rfl
      · rw [e4, e3]; simp only [ex_val, srcV_t, srcV_l, e_ofL, List.map_cons, List.map_nil, List.replicate, List.cons_append, List.nil_append, List.append_nil, xs_cons, xs_nil, x_set, x_exp, x_iff, x_ret, x_for, x_asg, cnd, tst, turnV, bdy, bindT_nm, es_cons, es_nil, e_var, e_lit, e_cmp, e_bin, e_and, e_or, e_not, e_tup, e_prm, e_ix, prmV_1, prm_int, List.getElem?_cons_zero, List.getElem?_cons_succ, R.bind_ok, R.thn_ok, List.set, RF.thn_nx, thn_rt, RF.turn_nx, turn_rt, binA_i, binV_d, binD_add, binD_sub, cmpV_d, cmpD_eqi, cmpD_nei, cmpD_le, cmpD_lt, cmpD_ge, cmpD_gt, tru_b, toDs_cons, toDs_nil, toD_d, if_true, if_false, Bool.false_eq_true, Bool.not_true, Bool.not_false, decide_true, decide_false, ev_call, and_true, true_and, and_false, false_and, not_true_eq_false, not_false_eq_true, ne_eq]; rfl
    exact ⟨[.dl (kvD (tabG T W H))], by simp only [R.thn_ok, Bool.not_true, Bool.false_eq_true, if_false, xs_nil, RF.thn_nx, tl, Bool.true_and]⟩
end
end K12

set_option linter.all false
set_option Elab.async false
set_option autoImplicit false
set_option maxRecDepth 100000
namespace K12
open PySem Ip
def kvR (rf : Int → Nat) (g : Gr) : List (L2.Key × Val) := g.map fun q => (.inl q.1, .ref (rf q.1))
theorem look_kvR (rf : Int → Nat) (x : Int) : ∀ g : Gr, lookK (kvR rf g) (.inl x) = (g.find? fun q => decide (q.1 = x)).map fun q => .ref (rf q.1)
  | [] => rfl
  | q :: g => by
    have ih := look_kvR rf x g
    unfold lookK kvR at ih ⊢
    rw [List.map_cons, List.find?_cons, List.find?_cons]
    have : decide ((Sum.inl q.1 : L2.Key) = Sum.inl x) = decide (q.1 = x) := by
      by_cases e : q.1 = x
      · rw [decide_eq_true e, decide_eq_true (congrArg Sum.inl e)]
      · rw [decide_eq_false e, decide_eq_false fun z => e (Sum.inl.inj z)]
    simp only [this]
    cases decide (q.1 = x) with
    | true => rfl
    | false => exact ih
theorem any_kvR (rf : Int → Nat) (x : Int) (g : Gr) : ((kvR rf g).any fun q => decide (q.1 = (Sum.inl x : L2.Key))) = (g.find? fun q => decide (q.1 = x)).isSome := by
  have := look_kvR rf x g
  unfold lookK at this
  rw [any_find]
  cases e : List.find? (fun p => decide (p.1 = (Sum.inl x : L2.Key))) (kvR rf g) with
  | none =>
    rw [e] at this
    cases e2 : g.find? (fun q => decide (q.1 = x)) with
    | none => rfl
    | some q => rw [e2] at this; cases this
  | some y =>
    rw [e] at this
    cases e2 : g.find? (fun q => decide (q.1 = x)) with
    | none => rw [e2] at this; cases this
    | some q => rfl
/-- the dict of the judge, its lists -/
structure J (g : Gr) (rf : Int → Nat) (h : Hq) : Prop where
  d : h[0]? = some (.dct (.k (kvR rf g)))
  o : ∀ q ∈ g, h[rf q.1]? = some (obj (q.2.map cD))
  i : ∀ q ∈ g, ∀ q' ∈ g, rf q.1 = rf q'.1 → q.1 = q'.1
theorem J.lt {g : Gr} {rf : Int → Nat} {h : Hq} (j : J g rf h) {q : Int × List Cell} (hq : q ∈ g) : rf q.1 < h.length := (List.getElem?_eq_some_iff.mp (j.o q hq)).1
theorem J.nz {g : Gr} {rf : Int → Nat} {h : Hq} (j : J g rf h) {q : Int × List Cell} (hq : q ∈ g) : rf q.1 ≠ 0 := fun z => by
  have := j.o q hq
  rw [z, j.d] at this
  cases this
section
variable {F k : Nat} {C : List Orc} {h : Hq}
def jBody : List Ip.St := [.exp (.app (.sdf (.var 5) (.var 9) (.new (.dsp []))) (.tup [(.var 6), (.var 8)]))]
theorem j_step {g : Gr} {rf : Int → Nat} {n j kk : Nat} {x : Int} {c0 c1 c2 c3 c4 c7 c8 c9 c10 : Option Val} (ok : Gok n g) (hn : n < 1000000) (H : J g rf h) :
    ∃ rf' h', J (addG g x (j, kk)) rf' h' ∧ turnV (.tp [8, 9]) (bdy F C jBody) (.d (.tuple [.int (kk : Int), .int x])) [c0, c1, c2, c3, c4, some (.ref 0), some (V j), c7, c8, c9, c10] h =
      .ok (.nx [c0, c1, c2, c3, c4, some (.ref 0), some (V j), c7, some (V kk), some (.d (.int x)), c10]) h' := by
  have h0 : 0 < h.length := (List.getElem?_eq_some_iff.mp H.d).1
  have ft0 : fits 0 = true := by decide
  have dk : dctK (.ref 0) h = .ok () h := by
    unfold dctK dct
    simp only [H.d]
  have l1 : (kvR rf g).length < 16777216 := by unfold kvR; rw [List.length_map]; have := ok.len; omega
  have d1 : (h ++ [IO.lst []])[0]? = some (.dct (.k (kvR rf g))) := by rw [app_get h0]; exact H.d
  have gl := ok.cells x
  cases e : g.find? (fun q => decide (q.1 = x)) with
  | some q =>
    have hq : q ∈ g := List.mem_of_find?_eq_some e
    have q1 : q.1 = x := by simpa using List.find?_some e
    have q2 : gcells g x = q.2 := by unfold gcells; rw [e]; rfl
    have sd : sdfV (.ref 0) (.d (.int x)) (.ref h.length) (h ++ [IO.lst []]) = .ok (.ref (rf x)) (h ++ [IO.lst []]) := by
      unfold sdfV
      simp only [d1, keyK, l1, if_true, look_kvR, e, Option.map_some, q1]
    have o1 : (h ++ [IO.lst []])[rf x]? = some (obj (q.2.map cD)) := by rw [← q1, app_get (H.lt hq)]; exact H.o q hq
    have ls := lstV_obj o1
    have av := appV_obj (cD (j, kk)) o1 (by rw [List.length_map]; have := (ok.each q hq).1; omega)
    have nz := H.nz hq
    have ad : addG g x (j, kk) = g.map fun z => if z.1 = x then (z.1, gcells g x ++ [(j, kk)]) else z := by
      unfold addG
      rw [any_find_g, e]; rfl
    refine ⟨rf, (h ++ [IO.lst []]).set (rf x) (obj (q.2.map cD ++ [cD (j, kk)])), ⟨?_, fun z hz => ?_, fun z hz z' hz' => ?_⟩, ?_⟩
    · rw [List.getElem?_set_ne (by rw [← q1]; exact nz), d1, ad]
      congr 3
      unfold kvR
      rw [List.map_map]
      refine List.map_congr_left fun z _ => ?_
      simp only [Function.comp]
      split <;> rfl
    · rw [ad] at hz
      obtain ⟨z0, hz0, rfl⟩ := List.mem_map.mp hz
      by_cases c : z0.1 = x
      · simp only [c, if_true]
        rw [List.getElem?_set_self (by rw [List.length_append, ← q1]; have := H.lt hq; omega), q2]
        simp
      · simp only [c, if_false]
        have ne : rf x ≠ rf z0.1 := fun y => c (by rw [← q1]; exact (H.i q hq z0 hz0 (by rw [q1]; exact y)).symm)
        rw [List.getElem?_set_ne ne, app_get (H.lt hz0)]
        exact H.o z0 hz0
    · rw [ad] at hz hz'
      obtain ⟨z0, hz0, rfl⟩ := List.mem_map.mp hz
      obtain ⟨z1, hz1, rfl⟩ := List.mem_map.mp hz'
      have a0 : (if z0.1 = x then (z0.1, gcells g x ++ [(j, kk)]) else z0).1 = z0.1 := by split <;> rfl
      have a1 : (if z1.1 = x then (z1.1, gcells g x ++ [(j, kk)]) else z1).1 = z1.1 := by split <;> rfl
      rw [a0, a1]
      exact H.i z0 hz0 z1 hz1
    · have e1 : PyData.tuple [.int (j : Int), .int (kk : Int)] = cD (j, kk) := rfl
      unfold turnV
      simp only [bindT_2, List.set_cons_zero, List.set_cons_succ]
      unfold bdy jBody
      simp only [xs_cons, xs_nil, x_exp, e_app, e_sdf, e_var, List.getElem?_cons_zero, List.getElem?_cons_succ, R.bind_ok, dk, e_new, el_dsp, es_nil, List.length_nil, ft0, if_true, sd, ls, e_tup, es_cons, toDs_cons, toDs_nil, toD_d, e1, av, R.thn_ok, RF.thn_nx]
  | none =>
    have q2 : gcells g x = [] := by unfold gcells; rw [e]; rfl
    have ny : ∀ q ∈ g, q.1 ≠ x := fun q hq z => by
      have := List.find?_eq_none.mp e q hq
      simp [z] at this
    have sk : storK (kvR rf g) (.inl x) (.ref h.length) = kvR rf g ++ [(.inl x, .ref h.length)] := by
      unfold storK
      rw [any_kvR, e]; rfl
    have sd : sdfV (.ref 0) (.d (.int x)) (.ref h.length) (h ++ [IO.lst []]) = .ok (.ref h.length) ((h ++ [IO.lst []]).set 0 (.dct (.k (kvR rf g ++ [(.inl x, .ref h.length)])))) := by
      unfold sdfV
      simp only [d1, keyK, l1, if_true, look_kvR, e, Option.map_none, sk]
    have o1 : ((h ++ [IO.lst []]).set 0 (.dct (.k (kvR rf g ++ [(.inl x, .ref h.length)]))))[h.length]? = some (obj []) := by
      rw [List.getElem?_set_ne (by omega)]
      exact app_last
    have ls := lstV_obj o1
    have av := appV_obj (cD (j, kk)) o1 (by decide)
    have ad : addG g x (j, kk) = g ++ [(x, [(j, kk)])] := by
      unfold addG
      rw [any_find_g, e, q2]; rfl
    have rfo : ∀ q ∈ g, (if q.1 = x then h.length else rf q.1) = rf q.1 := fun q hq => if_neg (ny q hq)
    refine ⟨fun y => if y = x then h.length else rf y, ((h ++ [IO.lst []]).set 0 (.dct (.k (kvR rf g ++ [(.inl x, .ref h.length)])))).set h.length (obj ([] ++ [cD (j, kk)])), ⟨?_, fun z hz => ?_, fun z hz z' hz' => ?_⟩, ?_⟩
    · rw [List.getElem?_set_ne (by omega), List.getElem?_set_self (by rw [List.length_append]; omega), ad]
      congr 3
      unfold kvR
      rw [List.map_append]
      congr 1
      · exact List.map_congr_left fun q hq => by
          show (Sum.inl q.1, Val.ref (rf q.1)) = (Sum.inl q.1, Val.ref (if q.1 = x then h.length else rf q.1))
          rw [rfo q hq]
      · simp
    · rw [ad] at hz
      rcases List.mem_append.mp hz with m | m
      · rw [rfo z m]
        have l := H.lt m
        have nz := H.nz m
        rw [List.getElem?_set_ne (by omega), List.getElem?_set_ne (by omega), app_get l]
        exact H.o z m
      · rw [List.mem_singleton.mp m]
        simp only [if_true]
        rw [List.getElem?_set_self (by rw [List.length_set, List.length_append]; simp)]
        rfl
    · rw [ad] at hz hz'
      rcases List.mem_append.mp hz with m | m <;> rcases List.mem_append.mp hz' with m' | m'
      · rw [rfo z m, rfo z' m']
        exact H.i z m z' m'
      · rw [rfo z m, List.mem_singleton.mp m']
        have := H.lt m
        simp only [if_true]
        omega
      · rw [rfo z' m', List.mem_singleton.mp m]
        have := H.lt m'
        simp only [if_true]
        omega
      · rw [List.mem_singleton.mp m, List.mem_singleton.mp m']
        exact fun _ => rfl
    · have e1 : PyData.tuple [.int (j : Int), .int (kk : Int)] = cD (j, kk) := rfl
      unfold turnV
      simp only [bindT_2, List.set_cons_zero, List.set_cons_succ]
      unfold bdy jBody
      simp only [xs_cons, xs_nil, x_exp, e_app, e_sdf, e_var, List.getElem?_cons_zero, List.getElem?_cons_succ, R.bind_ok, dk, e_new, el_dsp, es_nil, List.length_nil, ft0, if_true, sd, ls, e_tup, es_cons, toDs_cons, toDs_nil, toD_d, e1, av, R.thn_ok, RF.thn_nx]
theorem call_pr {fn : Fn} {vs : List Val} {ds : List D} {x : D} {W : Nat} {h1 : Hq} (hp : fn.pure = true) (hl : vs.length = fn.ps) (hk : pks h 3 vs = some ds) (e : Ip.run W C fn (ds.map .d) [] = .ok (.d x) h1) (hf : flat x = true) : callR W C fn vs h = .ok (.d x) h := by
  unfold callR
  rw [if_pos hl, if_pos hp]
  simp only [hk, e, toD_d, hf, Bool.true_or, if_true]
theorem cmp_fnV {α : Type} {f : Val → Hq → R (List Val)} {h : Hq} (val : α → Val) (g : α → D) : ∀ (as : List α), (∀ a ∈ as, f (val a) h = .ok [.d (g a)] h) → cmpL f (as.map val) h = .ok (as.map fun a => .d (g a)) h
  | [], _ => rfl
  | a :: as, st => by
    rw [List.map_cons, cmpL_cons, st a List.mem_cons_self]
    simp only [R.bind_ok, cmp_fnV val g as fun v hv => st v (List.mem_cons_of_mem _ hv), List.cons_append, List.nil_append, List.map_cons]
theorem enum_get {xs : List D} {i : Nat} {v : Val} (hv : (enumD xs)[i]? = some v) : ∃ x, xs[i]? = some x ∧ v = .d (.tuple [.int (i : Int), x]) := by
  unfold enumD at hv
  rw [List.getElem?_map, List.getElem?_zipIdx, Option.map_map] at hv
  cases e : xs[i]? with
  | none => rw [e] at hv; cases hv
  | some x =>
    rw [e] at hv
    have hv := Option.some.inj hv
    refine ⟨x, rfl, ?_⟩
    rw [← hv]
    simp
theorem enum_len {xs : List D} : (enumD xs).length = xs.length := by unfold enumD; simp
end
end K12

set_option linter.all false
set_option Elab.async false
set_option autoImplicit false
set_option maxRecDepth 100000
namespace K12
open PySem Ip
section
variable {F k : Nat} {C : List Orc} {h : Hq}
theorem c_judge {T : List (List Int)} {H W a b : Nat} (z : Rg F H W a b) (hH : H < 1000) (hW : W < 1000) (hT : T.length ≤ 10000) : callR F (O F (k + 1)) f_judge_filling [V H, V W, V a, V b, .d (TT T)] h = .ok (.d (.bool (rightB T H W a b))) h := by
  suffices hr : ∃ h1, exs F (O F (k + 1)) b_judge_filling [some (V H), some (V W), some (V a), some (V b), some (.d (TT T)), none, none, none, none, none, none] [] = .ok (.rt (.d (.bool (rightB T H W a b)))) h1 by
    obtain ⟨h1, e⟩ := hr
    refine call_pd (ds := [.int H, .int W, .int a, .int b, TT T]) rfl rfl (h1 := h1) ?_
    show (match exs F (O F (k + 1)) b_judge_filling [some (V H), some (V W), some (V a), some (V b), some (.d (TT T)), none, none, none, none, none, none] [] with
      | .ok (.rt v) h1 => R.ok v h1
      | .ok (.nx _) h1 => .ok (.d .none) h1
      | .er e _ h1 => .er e h1
      | _ => .no) = _
    rw [e]
  have s1 := c_sides (F := F) (C := O F k) (h := []) (H : Int) (W : Int)
  have s2 := c_brick (F := F) (C := O F k) (h := []) (a : Int) (b : Int)
  rw [z.box, if_pos rfl] at s1
  rw [z.brick, if_pos rfl] at s2
  have mm : (T.map tupI).map Val.d = T.map fun r => Val.d (tupI r) := by rw [List.map_map]; rfl
  have ft : fits T.length = true := fits_le (by omega)
  have it := cmp_fn (h := []) (f := itm F (O F (k + 1)) [7] (.nm 7) [] (.cmp .eq (.prm .len [(.var 7)]) (.var 1)) [some (V H), some (V W), some (V a), some (V b), some (.d (TT T)), none, none, none, none, none, none]) tupI (fun r => .bool (decide (r.length = W))) T (fun r _ => by
    unfold itm tupI
    simp only [ex_val, srcV_t, srcV_l, e_ofL, List.map_cons, List.map_nil, List.replicate, List.cons_append, List.nil_append, List.append_nil, xs_cons, xs_nil, x_set, x_exp, x_iff, x_ret, x_for, x_asg, cnd, tst, turnV, bdy, bindT_nm, es_cons, es_nil, e_var, e_lit, e_cmp, e_bin, e_and, e_or, e_not, e_tup, e_prm, e_ix, prmV_1, prm_int, List.getElem?_cons_zero, List.getElem?_cons_succ, R.bind_ok, R.thn_ok, List.set, RF.thn_nx, thn_rt, RF.turn_nx, turn_rt, binA_i, binV_d, binD_add, binD_sub, cmpV_d, cmpD_eqi, cmpD_nei, cmpD_le, cmpD_lt, cmpD_ge, cmpD_gt, tru_b, toDs_cons, toDs_nil, toD_d, if_true, if_false, Bool.false_eq_true, Bool.not_true, Bool.not_false, decide_true, decide_false, ev_call, and_true, true_and, and_false, false_and, not_true_eq_false, not_false_eq_true, ne_eq, wipe, ei_nil, prm_lent, List.length_map, dec_nat, R.quiet_ok])
  have cn : cnd F (O F (k + 1)) (.or_ (.cmp .ne (.prm .len [(.var 4)]) (.var 0)) (.not_ (.prm .all [(.ofL (.cmp [7] (.nm 7) (.val (.var 4)) [] (.cmp .eq (.prm .len [(.var 7)]) (.var 1))))]))) [some (V H), some (V W), some (V a), some (V b), some (.d (TT T)), none, none, none, none, none, none] [] = .ok (!dimB T H W) [] := by
    unfold dimB
    have e1 : prmD .len [TT T] = some (.int (T.length : Int)) := by unfold TT; rw [prm_lent, List.length_map]
    have e2 : ∀ h, srcV (.d (TT T)) h = .ok (.data (T.map fun r => Val.d (tupI r))) h := fun h => by unfold TT; rw [srcV_t, mm]
    simp only [ex_val, srcV_t, srcV_l, e_ofL, List.map_cons, List.map_nil, List.replicate, List.cons_append, List.nil_append, List.append_nil, xs_cons, xs_nil, x_set, x_exp, x_iff, x_ret, x_for, x_asg, cnd, tst, turnV, bdy, bindT_nm, es_cons, es_nil, e_var, e_lit, e_cmp, e_bin, e_and, e_or, e_not, e_tup, e_prm, e_ix, prmV_1, prm_int, List.getElem?_cons_zero, List.getElem?_cons_succ, R.bind_ok, R.thn_ok, List.set, RF.thn_nx, thn_rt, RF.turn_nx, turn_rt, binA_i, binV_d, binD_add, binD_sub, cmpV_d, cmpD_eqi, cmpD_nei, cmpD_le, cmpD_lt, cmpD_ge, cmpD_gt, tru_b, toDs_cons, toDs_nil, toD_d, if_true, if_false, Bool.false_eq_true, Bool.not_true, Bool.not_false, decide_true, decide_false, ev_call, and_true, true_and, and_false, false_and, not_true_eq_false, not_false_eq_true, ne_eq, e_or, e1, dec_nat]
    by_cases hl : T.length = H
    · subst hl
      simp only [eq_self, ex_val, srcV_t, srcV_l, e_ofL, List.map_cons, List.map_nil, List.replicate, List.cons_append, List.nil_append, List.append_nil, xs_cons, xs_nil, x_set, x_exp, x_iff, x_ret, x_for, x_asg, cnd, tst, turnV, bdy, bindT_nm, es_cons, es_nil, e_var, e_lit, e_cmp, e_bin, e_and, e_or, e_not, e_tup, e_prm, e_ix, prmV_1, prm_int, List.getElem?_cons_zero, List.getElem?_cons_succ, R.bind_ok, R.thn_ok, List.set, RF.thn_nx, thn_rt, RF.turn_nx, turn_rt, binA_i, binV_d, binD_add, binD_sub, cmpV_d, cmpD_eqi, cmpD_nei, cmpD_le, cmpD_lt, cmpD_ge, cmpD_gt, tru_b, toDs_cons, toDs_nil, toD_d, if_true, if_false, Bool.false_eq_true, Bool.not_true, Bool.not_false, decide_true, decide_false, ev_call, and_true, true_and, and_false, false_and, not_true_eq_false, not_false_eq_true, ne_eq, el_cmp, e2, List.length_map, ft, it, toDs_fn, prmD, bools_map, Option.map_some, all_map, Bool.true_and]
    · simp only [hl, ex_val, srcV_t, srcV_l, e_ofL, List.map_cons, List.map_nil, List.replicate, List.cons_append, List.nil_append, List.append_nil, xs_cons, xs_nil, x_set, x_exp, x_iff, x_ret, x_for, x_asg, cnd, tst, turnV, bdy, bindT_nm, es_cons, es_nil, e_var, e_lit, e_cmp, e_bin, e_and, e_or, e_not, e_tup, e_prm, e_ix, prmV_1, prm_int, List.getElem?_cons_zero, List.getElem?_cons_succ, R.bind_ok, R.thn_ok, List.set, RF.thn_nx, thn_rt, RF.turn_nx, turn_rt, binA_i, binV_d, binD_add, binD_sub, cmpV_d, cmpD_eqi, cmpD_nei, cmpD_le, cmpD_lt, cmpD_ge, cmpD_gt, tru_b, toDs_cons, toDs_nil, toD_d, if_true, if_false, Bool.false_eq_true, Bool.not_true, Bool.not_false, decide_true, decide_false, ev_call, and_true, true_and, and_false, false_and, not_true_eq_false, not_false_eq_true, ne_eq, Bool.false_and]
  have hb0 : b_judge_filling = .exp (.call 0 [(.var 0), (.var 1)]) :: .exp (.call 1 [(.var 2), (.var 3)]) :: .iff (.or_ (.cmp .ne (.prm .len [(.var 4)]) (.var 0)) (.not_ (.prm .all [(.ofL (.cmp [7] (.nm 7) (.val (.var 4)) [] (.cmp .eq (.prm .len [(.var 7)]) (.var 1))))]))) [.ret (.lit (.bool false))] [] :: [.set 5 (.dnew false), .for_ (.tp [6, 7]) (.enm (.var 4)) [.for_ (.tp [8, 9]) (.enm (.var 7)) jBody], .ret (.prm .all [(.ofL (.cmp [10] (.nm 10) (.vals (.var 5)) [] (.call 12 [(.var 10), (.var 2), (.var 3)])))])] := rfl
  rw [hb0, xs_cons, x_exp]
  simp only [ev_call, t_0, es_cons, es_nil, e_var, List.getElem?_cons_zero, List.getElem?_cons_succ, R.bind_ok, s1, R.thn_ok, RF.thn_nx]
  rw [xs_cons, x_exp]
  simp only [ev_call, t_1, es_cons, es_nil, e_var, List.getElem?_cons_zero, List.getElem?_cons_succ, R.bind_ok, s2, R.thn_ok, RF.thn_nx]
  rw [xs_cons, x_iff, cn]
  unfold rightB
  cases hd : dimB T H W with
  | false => exact ⟨[], by simp only [ex_val, srcV_t, srcV_l, e_ofL, List.map_cons, List.map_nil, List.replicate, List.cons_append, List.nil_append, List.append_nil, xs_cons, xs_nil, x_set, x_exp, x_iff, x_ret, x_for, x_asg, cnd, tst, turnV, bdy, bindT_nm, es_cons, es_nil, e_var, e_lit, e_cmp, e_bin, e_and, e_or, e_not, e_tup, e_prm, e_ix, prmV_1, prm_int, List.getElem?_cons_zero, List.getElem?_cons_succ, R.bind_ok, R.thn_ok, List.set, RF.thn_nx, thn_rt, RF.turn_nx, turn_rt, binA_i, binV_d, binD_add, binD_sub, cmpV_d, cmpD_eqi, cmpD_nei, cmpD_le, cmpD_lt, cmpD_ge, cmpD_gt, tru_b, toDs_cons, toDs_nil, toD_d, if_true, if_false, Bool.false_eq_true, Bool.not_true, Bool.not_false, decide_true, decide_false, ev_call, and_true, true_and, and_false, false_and, not_true_eq_false, not_false_eq_true, ne_eq, Bool.false_and]⟩
  | true =>
    have hTH : T.length = H := by
      unfold dimB at hd
      rw [Bool.and_eq_true, decide_eq_true_eq] at hd
      exact hd.1
    obtain ⟨σ', h', ⟨rf, c6, c7, c8, c9, rfl, hJ⟩, e1⟩ := forL_ix (f := turnV (.tp [6, 7]) (bdy F (O F (k + 1)) [.for_ (.tp [8, 9]) (.enm (.var 7)) jBody])) (P := fun i σ h => ∃ rf c6 c7 c8 c9, σ = [some (V H), some (V W), some (V a), some (V b), some (.d (TT T)), some (.ref 0), c6, c7, c8, c9, none] ∧ J (tabG T W i) rf h) (enumD (T.map tupI)) 0 [some (V H), some (V W), some (V a), some (V b), some (.d (TT T)), some (.ref 0), none, none, none, none, none] [.dct (.k [])] (fun j v σ h hv hp => by
        obtain ⟨rf, c6, c7, c8, c9, rfl, hJ⟩ := hp
        rw [Nat.zero_add] at hJ ⊢
        obtain ⟨x, hx, rfl⟩ := enum_get hv
        rw [List.getElem?_map] at hx
        have hj : j < H := by
          have := (List.getElem?_eq_some_iff.mp hv).1
          rw [enum_len, List.length_map, hTH] at this
          exact this
        obtain ⟨r, er, hr⟩ := dim_row hd hj
        rw [er] at hx
        have hx := Option.some.inj hx
        subst hx
        have g0 := gok_tab (T := T) (W := W) j
        have hjw2 : (j + 1) * W ≤ 999 * 999 := Nat.mul_le_mul (by omega) (by omega)
        rw [Nat.succ_mul] at hjw2
        obtain ⟨σ', h', ⟨rf', c8', c9', rfl, hJ'⟩, e2⟩ := forL_ix (f := turnV (.tp [8, 9]) (bdy F (O F (k + 1)) jBody)) (P := fun i σ h => ∃ rf c8 c9, σ = [some (V H), some (V W), some (V a), some (V b), some (.d (TT T)), some (.ref 0), some (V j), some (.d (tupI r)), c8, c9, none] ∧ J (rowG T j i (tabG T W j)) rf h) (enumD (r.map .int)) 0 [some (V H), some (V W), some (V a), some (V b), some (.d (TT T)), some (.ref 0), some (V j), some (.d (tupI r)), c8, c9, none] h (fun i v σ h hv hp => by
          obtain ⟨rf, c8, c9, rfl, hJ⟩ := hp
          rw [Nat.zero_add] at hJ ⊢
          obtain ⟨x, hx, rfl⟩ := enum_get hv
          rw [List.getElem?_map] at hx
          have hi : i < W := by
            have := (List.getElem?_eq_some_iff.mp hv).1
            rw [enum_len, List.length_map, hr] at this
            exact this
          have hx2 : x = .int (atT T j i) := by
            rw [at_row er, List.getD_eq_getElem?_getD]
            rw [List.getElem?_eq_getElem (by omega)] at hx ⊢
            exact (Option.some.inj hx).symm
          subst hx2
          obtain ⟨rf', h', hJ', e3⟩ := j_step (F := F) (C := O F (k + 1)) (j := j) (kk := i) (x := atT T j i) (c0 := some (V H)) (c1 := some (V W)) (c2 := some (V a)) (c3 := some (V b)) (c4 := some (.d (TT T))) (c7 := some (.d (tupI r))) (c8 := c8) (c9 := c9) (c10 := none) (gok_row g0 i) (by omega) hJ
          exact ⟨_, h', ⟨rf', _, _, rfl, hJ'⟩, e3⟩) ⟨rf, c8, c9, rfl, hJ⟩
        rw [Nat.zero_add, enum_len, List.length_map, hr] at hJ'
        refine ⟨[some (V H), some (V W), some (V a), some (V b), some (.d (TT T)), some (.ref 0), some (V j), some (.d (tupI r)), c8', c9', none], h', ⟨rf', _, _, _, _, rfl, hJ'⟩, ?_⟩
        have t1 : turnV (.tp [6, 7]) (bdy F (O F (k + 1)) [.for_ (.tp [8, 9]) (.enm (.var 7)) jBody]) (.d (.tuple [.int (j : Int), tupI r])) [some (V H), some (V W), some (V a), some (V b), some (.d (TT T)), some (.ref 0), c6, c7, c8, c9, none] h = (forL (turnV (.tp [8, 9]) (bdy F (O F (k + 1)) jBody)) (enumD (r.map .int)) [some (V H), some (V W), some (V a), some (V b), some (.d (TT T)), some (.ref 0), some (V j), some (.d (tupI r)), c8, c9, none] h).thn fun σ h => .ok (.nx σ) h := by
          unfold turnV
          simp only [bindT_2, List.set_cons_succ, List.set_cons_zero]
          unfold bdy
          simp only [xs_cons, xs_nil, x_for, ex_enm, e_var, List.getElem?_cons_zero, List.getElem?_cons_succ, R.bind_ok, tupI, R.thn_ok]
          rfl
        rw [t1, e2]
        rfl) ⟨fun _ => 0, none, none, none, none, rfl, ⟨rfl, fun q hq => (by cases hq), fun q hq => (by cases hq)⟩⟩
    rw [Nat.zero_add, enum_len, List.length_map, hTH] at hJ
    have g0 := gok_tab (T := T) (W := W) H
    generalize hG : tabG T W H = g at *
    have hw : H * W ≤ 999 * 999 := Nat.mul_le_mul (by omega) (by omega)
    have vv : valsV (.ref 0) h' = .ok (.data (g.map fun q => Val.ref (rf q.1))) (h'.set 0 (.dl (kvR rf g))) := by
      have : (kvR rf g).map (fun p => p.2) = g.map fun q => Val.ref (rf q.1) := by
        unfold kvR
        rw [List.map_map]; rfl
      unfold valsV
      simp only [hJ.d, this]
    have ft2 : fits g.length = true := fits_le (by have := g0.len; omega)
    have it2 := cmp_fnV (h := h'.set 0 (.dl (kvR rf g))) (f := itm F (O F (k + 1)) [10] (.nm 10) [] (.call 12 [(.var 10), (.var 2), (.var 3)]) [some (V H), some (V W), some (V a), some (V b), some (.d (TT T)), some (.ref 0), c6, c7, c8, c9, none]) (fun q : Int × List Cell => Val.ref (rf q.1)) (fun q => .bool (isB q.2 a b)) g (fun q hq => by
      obtain ⟨l1, ne, _⟩ := g0.each q hq
      have nz := hJ.nz hq
      have o := hJ.o q hq
      have o2 : (h'.set 0 (.dl (kvR rf g)))[rf q.1]? = some (obj (q.2.map cD)) := by rw [List.getElem?_set_ne (by omega)]; exact o
      have pk1 := peek_obj o2
      have rn := c_isb (F := F) (C := O F k) (ps := q.2) (a := a) (b := b) ne z.a0 z.b0 z.ha z.hb (by omega)
      have cl := call_pr (fn := f_is_brick) (h := h'.set 0 (.dl (kvR rf g))) (vs := [.ref (rf q.1), V a, V b]) (ds := [.list (q.2.map cD), N a, N b]) (W := F) (C := O F k) rfl rfl (by
        show (match pk (h'.set 0 (.dl (kvR rf g))) 3 (.ref (rf q.1)), some [N a, N b] with | some x, some xs => some (x :: xs) | _, _ => none) = _
        rw [show pk (h'.set 0 (.dl (kvR rf g))) 3 (.ref (rf q.1)) = some (.list (q.2.map cD)) from pk1]) rn rfl
      unfold itm
      simp only [wipe, List.set, bindT_nm, ei_nil, R.bind_ok, if_true, ev_call, t_12, es_cons, es_nil, e_var, List.getElem?_cons_zero, List.getElem?_cons_succ, cl, R.quiet_ok])
    have e1' : forL (turnV (.tp [6, 7]) (bdy F (O F (k + 1)) [.for_ (.tp [8, 9]) (.enm (.var 7)) jBody])) (enumD (T.map tupI)) [some (V H), some (V W), some (V a), some (V b), some (.d (TT T)), some (.ref 0), none, none, none, none, none] [.dct (.k [])] = .ok (.nx [some (V H), some (V W), some (V a), some (V b), some (.d (TT T)), some (.ref 0), c6, c7, c8, c9, none]) h' := e1
    have tl : exs F (O F (k + 1)) [.set 5 (.dnew false), .for_ (.tp [6, 7]) (.enm (.var 4)) [.for_ (.tp [8, 9]) (.enm (.var 7)) jBody], .ret (.prm .all [(.ofL (.cmp [10] (.nm 10) (.vals (.var 5)) [] (.call 12 [(.var 10), (.var 2), (.var 3)])))])] [some (V H), some (V W), some (V a), some (V b), some (.d (TT T)), none, none, none, none, none, none] [] = .ok (.rt (.d (.bool (rightG T H W a b)))) (h'.set 0 (.dl (kvR rf g))) := by
      have ra : rightG T H W a b = g.all fun q => isB q.2 a b := by unfold rightG; rw [hG]
      rw [ra]
      have er : ∀ h, evS F (O F (k + 1)) (.enm (.var 4)) [some (V H), some (V W), some (V a), some (V b), some (.d (TT T)), some (.ref 0), none, none, none, none, none] h = .ok (.data (enumD (T.map tupI))) h := fun h => by
        simp only [ex_enm, e_var, List.getElem?_cons_zero, List.getElem?_cons_succ, R.bind_ok, TT]
      simp only [xs_cons, xs_nil, x_set, e_dnew, Bool.false_eq_true, if_false, List.length_nil, List.nil_append, R.thn_ok, List.set, RF.thn_nx, x_for, er, e1', x_ret, e_prm, es_cons, es_nil, e_ofL, el_cmp, ex_vals, e_var, List.getElem?_cons_zero, List.getElem?_cons_succ, R.bind_ok, vv, List.length_map, ft2, if_true, it2, toDs_fn, prmV_1, prmD, bools_map, Option.map_some, all_map, thn_rt]
    exact ⟨h'.set 0 (.dl (kvR rf g)), by simp only [R.thn_ok, Bool.not_true, Bool.false_eq_true, if_false, xs_nil, RF.thn_nx, tl, Bool.true_and]⟩
end
end K12

set_option linter.all false
set_option Elab.async false
set_option autoImplicit false
set_option maxRecDepth 100000
namespace K12
open PySem Ip
/-! ### the rows that a filling is laid in -/
abbrev Tf := Nat → Nat → D
def tbD (n : Nat) (f : Nat → D) : List D := (List.range n).map f
def HT (H W : Nat) (T : Tf) : Hq := (List.range H).map (fun r => obj (tbD W (T r))) ++ [IO.lst ((List.range H).map Val.ref)]
theorem HT_len (H W : Nat) (T : Tf) : (HT H W T).length = H + 1 := by simp [HT]
theorem HT_row {H W r : Nat} {T : Tf} (hr : r < H) : (HT H W T)[r]? = some (obj (tbD W (T r))) := by
  unfold HT
  rw [List.getElem?_append_left (by simpa using hr)]
  simp [hr]
theorem HT_out {H W : Nat} {T : Tf} : (HT H W T)[H]? = some (.lst ((List.range H).map Val.ref)) := by
  unfold HT
  rw [List.getElem?_append_right (by simp)]
  simp
theorem HT_ext {H W : Nat} {T T' : Tf} (h : ∀ r, r < H → ∀ c, c < W → T r c = T' r c) : HT H W T = HT H W T' := by
  unfold HT
  congr 1
  refine List.map_congr_left fun r hr => ?_
  unfold tbD
  congr 1
  exact List.map_congr_left fun c hc => h r (List.mem_range.mp hr) c (List.mem_range.mp hc)
theorem HT_set {H W r : Nat} {T : Tf} {g : Nat → D} (hr : r < H) : (HT H W T).set r (obj (tbD W g)) = HT H W fun x => if x = r then g else T x := by
  apply List.ext_getElem?
  intro i
  rw [List.getElem?_set]
  by_cases e : r = i
  · subst e
    rw [if_pos rfl, if_pos (by rw [HT_len]; omega), HT_row hr]
    simp
  · rw [if_neg e]
    by_cases hi : i < H
    · rw [HT_row hi, HT_row hi]
      have : ¬ (i = r) := fun z => e z.symm
      simp [this]
    · by_cases h2 : i = H
      · subst h2
        rw [HT_out, HT_out]
      · rw [List.getElem?_eq_none (by rw [HT_len]; omega), List.getElem?_eq_none (by rw [HT_len]; omega)]
theorem tbD_set {n i : Nat} {f : Nat → D} {v : D} : (tbD n f).set i v = tbD n fun x => if x = i then v else f x := by
  apply List.ext_getElem
  · simp [tbD]
  · intro j h1 h2
    rw [List.getElem_set]
    simp only [tbD, List.getElem_map, List.getElem_range]
    by_cases e : i = j
    · subst e; simp
    · rw [if_neg e, if_neg (fun z => e z.symm)]
theorem closed_app {n : Nat} : ∀ (a b : Hq), closed n (a ++ b) = (closed n a && closed n b)
  | [], b => by simp [closed]
  | x :: a, b => by
    rw [List.cons_append]
    cases x with
    | lst vs => simp only [closed, closed_app a b, Bool.and_assoc]
    | dead d => simp only [closed, closed_app a b]
    | dct c => cases c <;> simp only [closed, closed_app a b, Bool.and_assoc]
    | tx ds => simp only [closed, closed_app a b]
    | dl k => simp only [closed, closed_app a b, Bool.and_assoc]
theorem HT_closed {H W n : Nat} {T : Tf} (hn : H ≤ n) : closed n (HT H W T) = true := by
  unfold HT
  rw [closed_app, Bool.and_eq_true]
  constructor
  · have : ∀ rs : List Nat, closed n (rs.map fun r => obj (tbD W (T r))) = true := fun rs => by
      induction rs with
      | nil => rfl
      | cons r rs ih =>
        rw [List.map_cons]
        show (((tbD W (T r)).map Val.d).all (below n) && closed n (rs.map fun r => obj (tbD W (T r)))) = true
        rw [ih, Bool.and_true, List.all_eq_true]
        intro v hv
        obtain ⟨x, _, rfl⟩ := List.mem_map.mp hv
        rfl
    exact this _
  · show (((List.range H).map Val.ref).all (below n) && true) = true
    rw [Bool.and_true, List.all_eq_true]
    intro v hv
    obtain ⟨x, hx, rfl⟩ := List.mem_map.mp hv
    have := List.mem_range.mp hx
    exact decide_eq_true (by omega)
/-- a rectangle gets a number -/
def paint (T : Tf) (t l s0 s1 : Nat) (v : D) : Tf := fun r c => if t ≤ r ∧ r < t + s0 ∧ l ≤ c ∧ c < l + s1 then v else T r c
section
variable {F k : Nat} {C : List Orc} {h : Hq}
theorem set_HT {H W r c : Nat} {T : Tf} {v : D} (hr : r < H) (hc : c < W) : setV (.ref r) (V c) (.d v) (HT H W T) = .ok () (HT H W fun x y => if x = r ∧ y = c then v else T x y) := by
  have e := HT_row (W := W) (T := T) hr
  unfold setV
  rw [dct_o e (fun c z => by cases z)]
  unfold setW
  have e2 : (HT H W T)[r]? = some (IO.lst ((tbD W (T r)).map Val.d)) := e
  simp only [e2]
  have : ixn ((tbD W (T r)).map Val.d).length (c : Int) = some c := by
    unfold ixn
    rw [if_pos (by omega), if_pos (by simp [tbD]; omega)]
    simp
  rw [this]
  have e3 : IO.lst (((tbD W (T r)).map Val.d).set c (.d v)) = obj (tbD W fun x => if x = c then v else T r x) := by
    rw [← tbD_set]
    unfold obj
    rw [List.map_set]
  simp only [e3]
  rw [HT_set hr]
  congr 1
  refine HT_ext fun x _ y _ => ?_
  by_cases h1 : x = r
  · subst h1; simp
  · simp [h1]
theorem ix_HT {H W r : Nat} {T : Tf} (hr : r < H) : ixV (.ref H) (V r) (HT H W T) = .ok (.ref r) (HT H W T) := by
  refine ixV_at (vs := (List.range H).map Val.ref) ?_ ?_
  · unfold els
    simp only [HT_out]
  · rw [atD_nat (by simpa using hr)]
    simp
def pBody : List Ip.St := [.six (.ix (.var 0) (.bin .add (.var 1) (.var 5))) (.bin .add (.var 2) (.var 6)) (.var 4)]
theorem c_put {H W t l s0 s1 num : Nat} {T : Tf} (h1 : t + s0 ≤ H) (h2 : l + s1 ≤ W) (hH : H < 1000) (hW : W < 1000) :
    callR F C f_put [.ref H, V t, V l, .d (.tuple [.int (s0 : Int), .int (s1 : Int)]), V num] (HT H W T) = .ok (.d .none) (HT H W (paint T t l s0 s1 (N num))) := by
  have r0 := okR s0 (by omega)
  have r1 := okR s1 (by omega)
  have i0 : ∀ h : Hq, ixV (.d (.tuple [.int (s0 : Int), .int (s1 : Int)])) (.d (.int 0)) h = .ok (V s0) h := fun h => rfl
  have i1 : ∀ h : Hq, ixV (.d (.tuple [.int (s0 : Int), .int (s1 : Int)])) (.d (.int 1)) h = .ok (V s1) h := fun h => rfl
  have lp := forL_rng (f := turnV (.nm 5) (bdy F C [.for_ (.nm 6) (.rng (.ix (.var 3) (.lit (.int 1)))) pBody])) (P := fun i σ h => ∃ c5 c6 T', σ = [some (.ref H), some (V t), some (V l), some (.d (.tuple [.int (s0 : Int), .int (s1 : Int)])), some (V num), c5, c6] ∧ h = HT H W T' ∧ ∀ r c, T' r c = if t ≤ r ∧ r < t + i ∧ l ≤ c ∧ c < l + s1 then N num else T r c) s0 (σ := [some (.ref H), some (V t), some (V l), some (.d (.tuple [.int (s0 : Int), .int (s1 : Int)])), some (V num), none, none]) (h := HT H W T) (fun i σ h hi hp => by
    obtain ⟨c5, c6, T', rfl, rfl, hT⟩ := hp
    obtain ⟨σ', h', ⟨c6', T2, rfl, rfl, hT2⟩, e⟩ := forL_rng (f := turnV (.nm 6) (bdy F C pBody)) (P := fun k σ h => ∃ c6 T2, σ = [some (.ref H), some (V t), some (V l), some (.d (.tuple [.int (s0 : Int), .int (s1 : Int)])), some (V num), some (V i), c6] ∧ h = HT H W T2 ∧ ∀ r c, T2 r c = if r = t + i ∧ l ≤ c ∧ c < l + k then N num else T' r c) s1 (σ := [some (.ref H), some (V t), some (V l), some (.d (.tuple [.int (s0 : Int), .int (s1 : Int)])), some (V num), some (V i), c6]) (h := HT H W T') (fun k σ h hk hp => by
      obtain ⟨c6, T2, rfl, rfl, hT2⟩ := hp
      have a1 : (t : Int) + (i : Int) = ((t + i : Nat) : Int) := by omega
      have a2 : (l : Int) + (k : Int) = ((l + k : Nat) : Int) := by omega
      have ix := ix_HT (H := H) (W := W) (r := t + i) (T := T2) (by omega)
      have st := set_HT (H := H) (W := W) (r := t + i) (c := l + k) (T := T2) (v := N num) (by omega) (by omega)
      refine ⟨[some (.ref H), some (V t), some (V l), some (.d (.tuple [.int (s0 : Int), .int (s1 : Int)])), some (V num), some (V i), some (V k)], HT H W fun x y => if x = t + i ∧ y = l + k then N num else T2 x y, ⟨some (V k), _, rfl, rfl, fun r c => ?_⟩, ?_⟩
      · rw [hT2]
        by_cases h1 : r = t + i ∧ c = l + k
        · rw [if_pos h1, if_pos (by omega)]
        · rw [if_neg h1]
          by_cases h2 : r = t + i ∧ l ≤ c ∧ c < l + k
          · rw [if_pos h2, if_pos (by omega)]
          · rw [if_neg h2, if_neg (by omega)]
      · unfold turnV
        simp only [bindT_nm, List.set_cons_succ, List.set_cons_zero]
        unfold bdy pBody
        simp only [xs_cons, xs_nil, x_six, e_var, e_ix, e_bin, List.getElem?_cons_zero, List.getElem?_cons_succ, R.bind_ok, R.thn_ok, binA_i, binV_d, binD_add, a1, a2, ix, st, RF.thn_nx]) ⟨c6, T', rfl, rfl, fun r c => by rw [if_neg (by omega)]⟩
    refine ⟨[some (.ref H), some (V t), some (V l), some (.d (.tuple [.int (s0 : Int), .int (s1 : Int)])), some (V num), some (V i), c6'], HT H W T2, ⟨some (V i), c6', T2, rfl, rfl, fun r c => ?_⟩, ?_⟩
    · rw [hT2, hT]
      by_cases h1 : r = t + i ∧ l ≤ c ∧ c < l + s1
      · rw [if_pos h1, if_pos (by omega)]
      · rw [if_neg h1]
        by_cases h2 : t ≤ r ∧ r < t + i ∧ l ≤ c ∧ c < l + s1
        · rw [if_pos h2, if_pos (by omega)]
        · rw [if_neg h2, if_neg (by omega)]
    · have t1 : turnV (.nm 5) (bdy F C [.for_ (.nm 6) (.rng (.ix (.var 3) (.lit (.int 1)))) pBody]) (V i) [some (.ref H), some (V t), some (V l), some (.d (.tuple [.int (s0 : Int), .int (s1 : Int)])), some (V num), c5, c6] (HT H W T') = (forL (turnV (.nm 6) (bdy F C pBody)) (rangeL 0 s1) [some (.ref H), some (V t), some (V l), some (.d (.tuple [.int (s0 : Int), .int (s1 : Int)])), some (V num), some (V i), c6] (HT H W T')).thn fun σ h => .ok (.nx σ) h := by
        unfold turnV
        simp only [bindT_nm, List.set_cons_succ, List.set_cons_zero]
        unfold bdy
        simp only [xs_cons, xs_nil, x_for, ex_rng, e_ix, e_lit, e_var, List.getElem?_cons_zero, List.getElem?_cons_succ, R.bind_ok, i1, intV_i, r1, if_true, Int.toNat_natCast, R.thn_ok]
        rfl
      rw [t1, e]
      rfl) ⟨none, none, T, rfl, rfl, fun r c => by rw [if_neg (by omega)]⟩
  obtain ⟨σ', h', ⟨c5, c6, T', rfl, rfl, hT⟩, e⟩ := lp
  have rn : Ip.run F C f_put [.ref H, V t, V l, .d (.tuple [.int (s0 : Int), .int (s1 : Int)]), V num] (HT H W T) = .ok (.d .none) (HT H W T') := by
    have hb0 : b_put = [.for_ (.nm 5) (.rng (.ix (.var 3) (.lit (.int 0)))) [.for_ (.nm 6) (.rng (.ix (.var 3) (.lit (.int 1)))) pBody]] := rfl
    unfold Ip.run f_put
    simp only [hb0, List.map_cons, List.map_nil, List.replicate, List.cons_append, List.nil_append, xs_cons, xs_nil, x_for, ex_rng, e_ix, e_lit, e_var, List.getElem?_cons_zero, List.getElem?_cons_succ, R.bind_ok, i0, intV_i, r0, if_true, Int.toNat_natCast, R.thn_ok, e, RF.thn_nx]
  have tk : (HT H W T').take (HT H W T).length = HT H W T' := List.take_of_length_le (by rw [HT_len, HT_len]; omega)
  have := call_s (W := F) (C := C) (fn := f_put) (vs := [.ref H, V t, V l, .d (.tuple [.int (s0 : Int), .int (s1 : Int)]), V num]) (h := HT H W T) rfl rfl rn rfl (by rw [tk, HT_len]; exact HT_closed (by omega))
  rw [tk] at this
  rw [this]
  congr 1
  exact HT_ext fun r _ c _ => hT r c
end
end K12

set_option linter.all false
set_option Elab.async false
set_option autoImplicit false
set_option maxRecDepth 100000
namespace K12
open PySem Ip
structure Bk where
  t : Nat
  l : Nat
  m : Nat
  n : Nat
  fl : Bool
def bkD (x : Bk) : D := .tuple [N x.t, N x.l, N x.m, N x.n, .bool x.fl]
def blkOf (H W a b : Nat) : Option (List Bk) :=
  if H % a = 0 ∧ W % b = 0 then some [⟨0, 0, H, W, true⟩] else
  if H % b = 0 ∧ W % a = 0 then some [⟨0, 0, H, W, false⟩] else
  if H % a = 0 ∧ H % b = 0 then (sumOf W a b).map fun p => [⟨0, 0, H, p.1 * a, false⟩, ⟨0, p.1 * a, H, p.2 * b, true⟩] else
  (sumOf H a b).map fun p => [⟨0, 0, p.1 * a, W, true⟩, ⟨p.1 * a, 0, p.2 * b, W, false⟩]
def s0F (a b : Nat) (x : Bk) : Nat := if x.fl then a else b
def s1F (a b : Nat) (x : Bk) : Nat := if x.fl then b else a
def rowF (T : Tf) (t l s0 s1 n0 : Nat) : Nat → Tf
  | 0 => T
  | j + 1 => paint (rowF T t l s0 s1 n0 j) t (l + j * s1) s0 s1 (N (n0 + j))
def blkF (T : Tf) (t l s0 s1 m n0 : Nat) : Nat → Tf
  | 0 => T
  | i + 1 => rowF (blkF T t l s0 s1 m n0 i) (t + i * s0) l s0 s1 (n0 + i * m) m
def bkF (a b : Nat) (T : Tf) (n0 : Nat) (x : Bk) : Tf := blkF T x.t x.l (s0F a b x) (s1F a b x) (x.n / s1F a b x) n0 (x.m / s0F a b x)
def bkN (a b : Nat) (n0 : Nat) (x : Bk) : Nat := n0 + x.m / s0F a b x * (x.n / s1F a b x)
def fillF (a b : Nat) : Tf → Nat → List Bk → Tf
  | T, _, [] => T
  | T, n0, x :: bs => fillF a b (bkF a b T n0 x) (bkN a b n0 x) bs
structure Bok (H W a b : Nat) (x : Bk) : Prop where
  r : x.t + x.m ≤ H
  c : x.l + x.n ≤ W
  d0 : x.m % s0F a b x = 0
  d1 : x.n % s1F a b x = 0
theorem rangeC_get : ∀ (n : Nat) (i c : Int) (k : Nat), (rangeC i c n)[k]? = if k < n then some (.d (.int (i + k * c))) else none
  | 0, i, c, k => by simp [rangeC]
  | n + 1, i, c, 0 => by simp [rangeC]
  | n + 1, i, c, k + 1 => by
    unfold rangeC
    rw [List.getElem?_cons_succ, rangeC_get n]
    have : i + c + (k : Int) * c = i + ((k + 1 : Nat) : Int) * c := by
      rw [Int.natCast_add, Int.add_mul]; simp; omega
    rw [this]
    by_cases h : k < n
    · rw [if_pos h, if_pos (by omega)]
    · rw [if_neg h, if_neg (by omega)]
theorem rangeC_len : ∀ (n : Nat) (i c : Int), (rangeC i c n).length = n
  | 0, _, _ => rfl
  | n + 1, i, c => by unfold rangeC; rw [List.length_cons, rangeC_len n]
theorem stepN_is {t q s : Nat} (hs : 0 < s) : stepN (t : Int) ((t : Int) + ((q * s : Nat) : Int)) (s : Int) = q := by
  unfold stepN
  cases q with
  | zero => rw [if_neg (by simp)]
  | succ q =>
    have hp : 0 < (q + 1) * s := Nat.mul_pos (by omega) hs
    rw [if_pos (by omega)]
    have e : (t : Int) + (((q + 1) * s : Nat) : Int) - (t : Int) - 1 = (((q + 1) * s - 1 : Nat) : Int) := by omega
    rw [e]
    have d : ((q + 1) * s - 1) / s = q := Nat.div_eq_of_lt_le (by rw [Nat.succ_mul]; omega) (by omega)
    have : ((((q + 1) * s - 1 : Nat) : Int) / (s : Int)) = (((q + 1) * s - 1) / s : Nat) := rfl
    rw [this, d]
    omega
section
variable {F k : Nat} {C : List Orc} {h : Hq}
theorem c_blocks {H W a b : Nat} {bs : List Bk} (z : Sz F H W a b) (hb : blkOf H W a b = some bs) (hH : H < 100000) (hW : W < 100000) : callR F (O F (k + 1)) f_blocks [V H, V W, V a, V b] h = .ok (.d (.list (bs.map bkD))) h := by
  refine call_pd (ds := [.int H, .int W, .int a, .int b]) (h1 := []) rfl rfl ?_
  have a0 : ¬ ((a : Int) = 0) := by have := z.a0; omega
  have b0 : ¬ ((b : Int) = 0) := by have := z.b0; omega
  have s1 := c_sum (C := O F k) (h := []) (F := F) (n := W) (a := a) (b := b) z.b0 z.hW z.ha z.hb
  have s2 := c_sum (C := O F k) (h := []) (F := F) (n := H) (a := a) (b := b) z.b0 z.hH z.ha z.hb
  have ft1 : fits 1 = true := by decide
  have ft2 : fits 2 = true := by decide
  have le : ∀ n p, sumOf n a b = some p → n < 100000 → okMul (p.1 : Int) (a : Int) = true ∧ okMul (p.2 : Int) (b : Int) = true := fun n p e hn => by
    unfold sumOf at e
    cases e2 : findS n a b with
    | none => rw [e2] at e; cases e
    | some m =>
      rw [e2] at e
      cases e
      unfold findS at e2
      have hm := List.mem_range.mp (List.mem_of_find?_eq_some e2)
      have := z.hb
      have := z.ha
      have : (n - m * a) / b ≤ n - m * a := Nat.div_le_self _ _
      exact ⟨okM _ _ (by simp only; omega) (by omega), okM _ _ (by simp only; omega) (by omega)⟩
  unfold blkOf at hb
  by_cases h1 : H % a = 0 <;> by_cases h2 : W % b = 0 <;> by_cases h3 : H % b = 0 <;> by_cases h4 : W % a = 0 <;> simp only [h1, h2, h3, h4, and_true, true_and, and_false, false_and, if_true, if_false] at hb
  all_goals first
    | (cases hb
       simp only [Ip.run, f_blocks, b_blocks, ex_val, srcV_t, srcV_l, e_ofL, List.map_cons, List.map_nil, List.replicate, List.cons_append, List.nil_append, List.append_nil, xs_cons, xs_nil, x_set, x_exp, x_iff, x_ret, x_for, x_asg, cnd, tst, turnV, bdy, bindT_nm, es_cons, es_nil, e_var, e_lit, e_cmp, e_bin, e_and, e_or, e_not, e_tup, e_prm, e_ix, prmV_1, prm_int, List.getElem?_cons_zero, List.getElem?_cons_succ, R.bind_ok, R.thn_ok, List.set, RF.thn_nx, thn_rt, RF.turn_nx, turn_rt, binA_i, binV_d, binD_add, binD_sub, cmpV_d, cmpD_eqi, cmpD_nei, cmpD_le, cmpD_lt, cmpD_ge, cmpD_gt, tru_b, toDs_cons, toDs_nil, toD_d, if_true, if_false, Bool.false_eq_true, Bool.not_true, Bool.not_false, decide_true, decide_false, ev_call, and_true, true_and, and_false, false_and, not_true_eq_false, not_false_eq_true, ne_eq, binD_mod, a0, b0, fmod_nat, dec_0, h1, h2, h3, h4, el_dsp, List.length_cons, List.length_nil, Nat.zero_add, ft1, bkD, N]
       all_goals rfl)
    | (cases e : sumOf W a b with
       | none => rw [e] at hb; cases hb
       | some p =>
         rw [e] at hb
         cases hb
         obtain ⟨m1, m2⟩ := le W p e hW
         rw [e] at s1
         simp only [Ip.run, f_blocks, b_blocks, ex_val, srcV_t, srcV_l, e_ofL, List.map_cons, List.map_nil, List.replicate, List.cons_append, List.nil_append, List.append_nil, xs_cons, xs_nil, x_set, x_exp, x_iff, x_ret, x_for, x_asg, cnd, tst, turnV, bdy, bindT_nm, es_cons, es_nil, e_var, e_lit, e_cmp, e_bin, e_and, e_or, e_not, e_tup, e_prm, e_ix, prmV_1, prm_int, List.getElem?_cons_zero, List.getElem?_cons_succ, R.bind_ok, R.thn_ok, List.set, RF.thn_nx, thn_rt, RF.turn_nx, turn_rt, binA_i, binV_d, binD_add, binD_sub, cmpV_d, cmpD_eqi, cmpD_nei, cmpD_le, cmpD_lt, cmpD_ge, cmpD_gt, tru_b, toDs_cons, toDs_nil, toD_d, if_true, if_false, Bool.false_eq_true, Bool.not_true, Bool.not_false, decide_true, decide_false, ev_call, and_true, true_and, and_false, false_and, not_true_eq_false, not_false_eq_true, ne_eq, binD_mod, a0, b0, fmod_nat, dec_0, h1, h2, h3, h4, el_dsp, List.length_cons, List.length_nil, Nat.zero_add, Nat.reduceAdd, ft2, bkD, N, t_3, s1, sumD, bindT_2, binD_mul, m1, m2, Int.natCast_mul]
         all_goals rfl)
    | (cases e : sumOf H a b with
       | none => rw [e] at hb; cases hb
       | some p =>
         rw [e] at hb
         cases hb
         obtain ⟨m1, m2⟩ := le H p e hH
         rw [e] at s2
         simp only [Ip.run, f_blocks, b_blocks, ex_val, srcV_t, srcV_l, e_ofL, List.map_cons, List.map_nil, List.replicate, List.cons_append, List.nil_append, List.append_nil, xs_cons, xs_nil, x_set, x_exp, x_iff, x_ret, x_for, x_asg, cnd, tst, turnV, bdy, bindT_nm, es_cons, es_nil, e_var, e_lit, e_cmp, e_bin, e_and, e_or, e_not, e_tup, e_prm, e_ix, prmV_1, prm_int, List.getElem?_cons_zero, List.getElem?_cons_succ, R.bind_ok, R.thn_ok, List.set, RF.thn_nx, thn_rt, RF.turn_nx, turn_rt, binA_i, binV_d, binD_add, binD_sub, cmpV_d, cmpD_eqi, cmpD_nei, cmpD_le, cmpD_lt, cmpD_ge, cmpD_gt, tru_b, toDs_cons, toDs_nil, toD_d, if_true, if_false, Bool.false_eq_true, Bool.not_true, Bool.not_false, decide_true, decide_false, ev_call, and_true, true_and, and_false, false_and, not_true_eq_false, not_false_eq_true, ne_eq, binD_mod, a0, b0, fmod_nat, dec_0, h1, h2, h3, h4, el_dsp, List.length_cons, List.length_nil, Nat.zero_add, Nat.reduceAdd, ft2, bkD, N, t_3, s2, sumD, bindT_2, binD_mul, m1, m2, Int.natCast_mul]
         all_goals rfl)
end
end K12

set_option linter.all false
set_option Elab.async false
set_option autoImplicit false
set_option maxRecDepth 100000
namespace K12
open PySem Ip
def T0 : Tf := fun _ _ => .none
section
variable {F k : Nat} {C : List Orc} {h : Hq}
def fB1 : List Ip.St := [.exp (.call 9 [(.var 4), (.var 12), (.var 14), (.var 11), (.var 5)]), .set 5 (.bin .add (.var 5) (.lit (.int 1)))]
def fB2 : List Ip.St := [.for_ (.nm 14) (.rng3 (.var 7) (.bin .add (.var 7) (.var 9)) (.ix (.var 11) (.lit (.int 1)))) fB1]
def fB3 : List Ip.St := [.set 11 (.ife (.var 10) (.tup [(.var 2), (.var 3)]) (.tup [(.var 3), (.var 2)])), .for_ (.nm 12) (.rng3 (.var 6) (.bin .add (.var 6) (.var 8)) (.ix (.var 11) (.lit (.int 0)))) fB2]
abbrev σf (H W a b num t l m n : Nat) (fl : Bool) (s0 s1 : Nat) (c12 c14 : Option Val) : Sg := [some (V H), some (V W), some (V a), some (V b), some (.ref H), some (V num), some (V t), some (V l), some (V m), some (V n), some (.d (.bool fl)), some (.d (.tuple [.int (s0 : Int), .int (s1 : Int)])), c12, none, c14, none]
theorem okSt (s : Nat) (hs : 0 < s) (h2 : s < 100000) : okStep (s : Int) = true := by
  unfold okStep
  have : Sm 20 (s : Int) := by unfold Sm; omega
  have := this.log
  rw [decide_eq_true (by omega), decide_eq_true (by omega)]; rfl
/-- one row of bricks -/
theorem f_row {H W a b t l m n q num s0 s1 at0 : Nat} {fl : Bool} {T : Tf} {c14 : Option Val} (h1 : at0 + s0 ≤ H) (h2 : l + q * s1 ≤ W) (hq : n = q * s1) (p1 : 0 < s1) (p2 : s1 < 100000) (hH : H < 1000) (hW : W < 1000) :
    ∃ c14', exs F (O F (k + 1)) fB2 (σf H W a b num t l m n fl s0 s1 (some (V at0)) c14) (HT H W T) = .ok (.nx (σf H W a b (num + q) t l m n fl s0 s1 (some (V at0)) c14')) (HT H W (rowF T at0 l s0 s1 num q)) := by
  have sn := stepN_is (t := l) (q := q) (s := s1) p1
  have hs : q * s1 < 1000 := by omega
  have lp := forL_ix (f := turnV (.nm 14) (bdy F (O F (k + 1)) fB1)) (P := fun i σ h => ∃ c14, σ = σf H W a b (num + i) t l m n fl s0 s1 (some (V at0)) c14 ∧ h = HT H W (rowF T at0 l s0 s1 num i)) (rangeC (l : Int) (s1 : Int) q) 0 (σf H W a b num t l m n fl s0 s1 (some (V at0)) c14) (HT H W T) (fun i v σ h hv hp => by
    obtain ⟨c14, rfl, rfl⟩ := hp
    rw [rangeC_get] at hv
    split at hv
    · rename_i hi
      cases hv
      rw [Nat.zero_add]
      have e1 : (l : Int) + (i : Int) * (s1 : Int) = ((l + i * s1 : Nat) : Int) := by rw [Int.natCast_add, Int.natCast_mul]
      have hi2 : (i + 1) * s1 ≤ q * s1 := Nat.mul_le_mul_right _ hi
      rw [Nat.succ_mul] at hi2
      have cp := c_put (F := F) (C := O F k) (H := H) (W := W) (t := at0) (l := l + i * s1) (s0 := s0) (s1 := s1) (num := num + i) (T := rowF T at0 l s0 s1 num i) h1 (by omega) hH hW
      refine ⟨σf H W a b (num + (i + 1)) t l m n fl s0 s1 (some (V at0)) (some (V (l + i * s1))), HT H W (rowF T at0 l s0 s1 num (i + 1)), ⟨_, rfl, rfl⟩, ?_⟩
      rw [e1]
      have e2 : ((num + i : Nat) : Int) + 1 = ((num + (i + 1) : Nat) : Int) := by omega
      unfold turnV
      simp only [bindT_nm, σf, List.set_cons_succ, List.set_cons_zero]
      unfold bdy fB1
      simp only [xs_cons, xs_nil, x_exp, x_set, ev_call, t_9, es_cons, es_nil, e_var, e_bin, e_lit, List.getElem?_cons_zero, List.getElem?_cons_succ, R.bind_ok, cp, R.thn_ok, RF.thn_nx, binA_i, binV_d, binD_add, List.set, e2]
      rfl
    · cases hv) ⟨c14, rfl, rfl⟩
  rw [Nat.zero_add, rangeC_len] at lp
  obtain ⟨σ', h', ⟨c14', rfl, rfl⟩, e⟩ := lp
  refine ⟨c14', ?_⟩
  subst hq
  have r1 := okR l (by omega)
  have r2 := okR (l + q * s1) (by omega)
  have r3 := okSt s1 p1 p2
  have i1 : ∀ h : Hq, ixV (.d (.tuple [.int (s0 : Int), .int (s1 : Int)])) (.d (.int 1)) h = .ok (V s1) h := fun h => rfl
  have e1 : (l : Int) + ((q * s1 : Nat) : Int) = ((l + q * s1 : Nat) : Int) := by omega
  rw [e1] at sn
  unfold fB2
  simp only [xs_cons, xs_nil, x_for, ex_rng3, e_ix, e_lit, e_bin, e_var, List.getElem?_cons_zero, List.getElem?_cons_succ, R.bind_ok, σf, binA_i, binV_d, binD_add, intV_i, i1, e1, r1, r2, r3, Bool.and_self, if_true, sn, R.thn_ok]
  rw [show forL (turnV (.nm 14) (bdy F (O F (k + 1)) fB1)) (rangeC (l : Int) (s1 : Int) q) _ _ = _ from e]
  rfl
/-- one block -/
theorem f_blk {H W a b num : Nat} {x : Bk} {T : Tf} {c6 c7 c8 c9 c10 c11 c12 c14 : Option Val} (ok : Bok H W a b x) (a0 : 0 < a) (b0 : 0 < b) (a2 : a < 100000) (b2 : b < 100000) (hH : H < 1000) (hW : W < 1000) :
    ∃ c6' c7' c8' c9' c10' c11' c12' c14', turnV (.tp [6, 7, 8, 9, 10]) (bdy F (O F (k + 1)) fB3) (.d (bkD x)) [some (V H), some (V W), some (V a), some (V b), some (.ref H), some (V num), c6, c7, c8, c9, c10, c11, c12, none, c14, none] (HT H W T) =
      .ok (.nx [some (V H), some (V W), some (V a), some (V b), some (.ref H), some (V (bkN a b num x)), c6', c7', c8', c9', c10', c11', c12', none, c14', none]) (HT H W (bkF a b T num x)) := by
  obtain ⟨t, l, m, n, fl⟩ := x
  obtain ⟨kr, kc, d0, d1⟩ := ok
  generalize hs0 : s0F a b ⟨t, l, m, n, fl⟩ = s0 at *
  generalize hs1 : s1F a b ⟨t, l, m, n, fl⟩ = s1 at *
  unfold bkN bkF
  rw [hs0, hs1]
  simp only at kr kc d0 d1 ⊢
  have p0 : 0 < s0 := by rw [← hs0]; unfold s0F; cases fl <;> simp [a0, b0]
  have p1 : 0 < s1 := by rw [← hs1]; unfold s1F; cases fl <;> simp [a0, b0]
  have p2 : s0 < 100000 := by rw [← hs0]; unfold s0F; cases fl <;> simp [a2, b2]
  have p3 : s1 < 100000 := by rw [← hs1]; unfold s1F; cases fl <;> simp [a2, b2]
  have hm : m = m / s0 * s0 := (Nat.div_mul_cancel (Nat.dvd_of_mod_eq_zero d0)).symm
  have hn : n = n / s1 * s1 := (Nat.div_mul_cancel (Nat.dvd_of_mod_eq_zero d1)).symm
  generalize m / s0 = q0 at *
  generalize n / s1 = q1 at *
  have sn := stepN_is (t := t) (q := q0) (s := s0) p0
  rw [← hm] at sn
  have lp := forL_ix (f := turnV (.nm 12) (bdy F (O F (k + 1)) fB2)) (P := fun i σ h => ∃ c12 c14, σ = σf H W a b (num + i * q1) t l m n fl s0 s1 c12 c14 ∧ h = HT H W (blkF T t l s0 s1 q1 num i)) (rangeC (t : Int) (s0 : Int) q0) 0 (σf H W a b num t l m n fl s0 s1 c12 c14) (HT H W T) (fun i v σ h hv hp => by
    obtain ⟨c12, c14, rfl, rfl⟩ := hp
    rw [rangeC_get] at hv
    split at hv
    · rename_i hi
      cases hv
      rw [Nat.zero_add]
      have e1 : (t : Int) + (i : Int) * (s0 : Int) = ((t + i * s0 : Nat) : Int) := by rw [Int.natCast_add, Int.natCast_mul]
      have hi2 : (i + 1) * s0 ≤ q0 * s0 := Nat.mul_le_mul_right _ hi
      rw [Nat.succ_mul] at hi2
      obtain ⟨c14', fr⟩ := f_row (F := F) (k := k) (H := H) (W := W) (a := a) (b := b) (t := t) (l := l) (m := m) (n := n) (q := q1) (num := num + i * q1) (s0 := s0) (s1 := s1) (at0 := t + i * s0) (fl := fl) (T := blkF T t l s0 s1 q1 num i) (c14 := c14) (by omega) (by omega) hn p1 p3 hH hW
      have e2 : num + i * q1 + q1 = num + (i + 1) * q1 := by rw [Nat.succ_mul]; omega
      rw [e2] at fr
      refine ⟨σf H W a b (num + (i + 1) * q1) t l m n fl s0 s1 (some (V (t + i * s0))) c14', HT H W (blkF T t l s0 s1 q1 num (i + 1)), ⟨_, _, rfl, rfl⟩, ?_⟩
      rw [e1]
      unfold turnV
      simp only [bindT_nm, σf, List.set_cons_succ, List.set_cons_zero]
      unfold bdy
      exact fr
    · cases hv) ⟨c12, c14, by rw [Nat.zero_mul]; rfl, rfl⟩
  rw [Nat.zero_add, rangeC_len] at lp
  obtain ⟨σ', h', ⟨c12', c14', rfl, rfl⟩, e⟩ := lp
  refine ⟨some (V t), some (V l), some (V m), some (V n), some (.d (.bool fl)), some (.d (.tuple [.int (s0 : Int), .int (s1 : Int)])), c12', c14', ?_⟩
  have r1 := okR t (by omega)
  have r2 := okR (t + m) (by omega)
  have r3 := okSt s0 p0 p2
  have i1 : ∀ h : Hq, ixV (.d (.tuple [.int (s0 : Int), .int (s1 : Int)])) (.d (.int 0)) h = .ok (V s0) h := fun h => rfl
  have e1 : (t : Int) + (m : Int) = ((t + m : Nat) : Int) := by omega
  rw [e1] at sn
  have bt : ∀ (x0 x1 x2 x3 x4 : D) (σ : Sg) (h : Hq), bindT h (.tp [6, 7, 8, 9, 10]) (.d (.tuple [x0, x1, x2, x3, x4])) σ = some (((((σ.set 6 (some (.d x0))).set 7 (some (.d x1))).set 8 (some (.d x2))).set 9 (some (.d x3))).set 10 (some (.d x4))) := fun _ _ _ _ _ _ _ => by simp [bindT, els]
  have sd : ∀ h, ev F (O F (k + 1)) (.ife (.var 10) (.tup [(.var 2), (.var 3)]) (.tup [(.var 3), (.var 2)])) [some (V H), some (V W), some (V a), some (V b), some (.ref H), some (V num), some (V t), some (V l), some (V m), some (V n), some (.d (.bool fl)), c11, c12, none, c14, none] h = .ok (.d (.tuple [.int (s0 : Int), .int (s1 : Int)])) h := fun h => by
    rw [← hs0, ← hs1]
    unfold s0F s1F
    cases fl <;> simp only [e_ife, ex_val, srcV_t, srcV_l, e_ofL, List.map_cons, List.map_nil, List.replicate, List.cons_append, List.nil_append, List.append_nil, xs_cons, xs_nil, x_set, x_exp, x_iff, x_ret, x_for, x_asg, cnd, tst, turnV, bdy, bindT_nm, es_cons, es_nil, e_var, e_lit, e_cmp, e_bin, e_and, e_or, e_not, e_tup, e_prm, e_ix, prmV_1, prm_int, List.getElem?_cons_zero, List.getElem?_cons_succ, R.bind_ok, R.thn_ok, List.set, RF.thn_nx, thn_rt, RF.turn_nx, turn_rt, binA_i, binV_d, binD_add, binD_sub, cmpV_d, cmpD_eqi, cmpD_nei, cmpD_le, cmpD_lt, cmpD_ge, cmpD_gt, tru_b, toDs_cons, toDs_nil, toD_d, if_true, if_false, Bool.false_eq_true, Bool.not_true, Bool.not_false, decide_true, decide_false, ev_call, and_true, true_and, and_false, false_and, not_true_eq_false, not_false_eq_true, ne_eq]
  unfold turnV bkD
  simp only [bt, List.set_cons_succ, List.set_cons_zero]
  unfold bdy fB3
  rw [xs_cons, x_set]
  rw [show ev F (O F (k + 1)) (.ife (.var 10) (.tup [(.var 2), (.var 3)]) (.tup [(.var 3), (.var 2)])) _ _ = _ from sd _]
  simp only [xs_cons, xs_nil, R.thn_ok, RF.thn_nx, List.set_cons_succ, List.set_cons_zero, x_for, ex_rng3, e_ix, e_lit, e_bin, e_var, List.getElem?_cons_zero, List.getElem?_cons_succ, R.bind_ok, binA_i, binV_d, binD_add, intV_i, i1, e1, r1, r2, r3, Bool.and_self, if_true, sn]
  rw [show forL (turnV (.nm 12) (bdy F (O F (k + 1)) fB2)) (rangeC (t : Int) (s0 : Int) q0) _ _ = _ from e]
  rfl
theorem f_blks {H W a b : Nat} (a0 : 0 < a) (b0 : 0 < b) (a2 : a < 100000) (b2 : b < 100000) (hH : H < 1000) (hW : W < 1000) : ∀ (bs : List Bk) (num : Nat) (T : Tf) (c6 c7 c8 c9 c10 c11 c12 c14 : Option Val), (∀ x ∈ bs, Bok H W a b x) →
    ∃ c5' c6' c7' c8' c9' c10' c11' c12' c14', forL (turnV (.tp [6, 7, 8, 9, 10]) (bdy F (O F (k + 1)) fB3)) ((bs.map bkD).map .d) [some (V H), some (V W), some (V a), some (V b), some (.ref H), some (V num), c6, c7, c8, c9, c10, c11, c12, none, c14, none] (HT H W T) =
      .ok (.nx [some (V H), some (V W), some (V a), some (V b), some (.ref H), c5', c6', c7', c8', c9', c10', c11', c12', none, c14', none]) (HT H W (fillF a b T num bs))
  | [], num, T, c6, c7, c8, c9, c10, c11, c12, c14, _ => ⟨_, _, _, _, _, _, _, _, _, rfl⟩
  | x :: bs, num, T, c6, c7, c8, c9, c10, c11, c12, c14, ok => by
    obtain ⟨c6', c7', c8', c9', c10', c11', c12', c14', e⟩ := f_blk (F := F) (k := k) (num := num) (T := T) (c6 := c6) (c7 := c7) (c8 := c8) (c9 := c9) (c10 := c10) (c11 := c11) (c12 := c12) (c14 := c14) (ok x List.mem_cons_self) a0 b0 a2 b2 hH hW
    obtain ⟨d5, d6, d7, d8, d9, d10, d11, d12, d14, e2⟩ := f_blks a0 b0 a2 b2 hH hW bs (bkN a b num x) (bkF a b T num x) c6' c7' c8' c9' c10' c11' c12' c14' fun y hy => ok y (List.mem_cons_of_mem _ hy)
    refine ⟨d5, d6, d7, d8, d9, d10, d11, d12, d14, ?_⟩
    rw [List.map_cons, List.map_cons, forL_cons, e]
    exact e2
/-! ### the rows become data -/
theorem toDs_rows {xs : Nat → List D} : ∀ (rs : List Nat) (h : Hq), rs.Nodup → (∀ r ∈ rs, h[r]? = some (obj (xs r))) → ∃ h', toDs (rs.map .ref) h = .ok (rs.map fun r => .list (xs r)) h' ∧ ∀ q, q ∉ rs → h'[q]? = h[q]?
  | [], h, _, _ => ⟨h, rfl, fun _ _ => rfl⟩
  | r :: rs, h, nd, e => by
    have e1 := toD_obj (e r List.mem_cons_self)
    rw [List.nodup_cons] at nd
    obtain ⟨h', e2, keep⟩ := toDs_rows (xs := xs) rs (h.set r (.dead (.list (xs r)))) nd.2 fun q hq => by
      have : r ≠ q := fun z => nd.1 (z ▸ hq)
      rw [List.getElem?_set_ne this]
      exact e q (List.mem_cons_of_mem _ hq)
    refine ⟨h', ?_, fun q hq => ?_⟩
    · rw [List.map_cons, toDs_cons, e1]
      simp only [R.bind_ok, e2, List.map_cons]
    · rw [List.mem_cons, not_or] at hq
      rw [keep q hq.2, List.getElem?_set_ne (fun z => hq.1 z.symm)]
theorem rows_data {H W : Nat} {T : Tf} : ∃ h', toDD (.ref H) (HT H W T) = .ok (.list ((List.range H).map fun r => .list (tbD W (T r)))) h' := by
  obtain ⟨h1, e, keep⟩ := toDs_rows (xs := fun r => tbD W (T r)) (List.range H) (HT H W T) List.nodup_range fun r hr => HT_row (List.mem_range.mp hr)
  have k := keep H (by simp)
  rw [HT_out] at k
  refine ⟨h1.set H (.dead (.list ((List.range H).map fun r => .list (tbD W (T r))))), ?_⟩
  unfold toDD
  simp only [HT_out, e, R.bind_ok, k]
def nRow (W : Nat) : IO := obj (List.replicate W .none)
theorem new_row {W : Nat} {σ : Sg} (h1 : σ[1]? = some (some (V W))) (hW : W < 1000) (h : Hq) : ev F C (.new (.rep (.dsp [(.lit .none)]) (.var 1))) σ h = .ok (.ref h.length) (h ++ [nRow W]) := by
  have r := okR W (by omega)
  have f1 : fits 1 = true := by decide
  have f2 : fits W = true := fits_le (by omega)
  have e : (List.replicate W [Val.d .none]).flatten = (List.replicate W PyData.none).map .d := by rw [rep_flat, List.map_replicate]
  simp only [e_new, el_rep, el_dsp, es_cons, es_nil, e_lit, R.bind_ok, List.length_cons, List.length_nil, Nat.zero_add, f1, if_true, e_var, h1, repL, r, Int.toNat_natCast, Nat.one_mul, f2, Bool.and_self, e, nRow, obj]
theorem new_rows {W : Nat} {σ : Sg} (hσ : 13 < σ.length) (h1 : σ[1]? = some (some (V W))) (hW : W < 1000) : ∀ (n i : Nat) (h : Hq), h.length = i →
    cmpL (itm F C [13] (.nm 13) [] (.new (.rep (.dsp [(.lit .none)]) (.var 1))) σ) (rangeL (i : Int) n) h = .ok ((List.range' i n).map .ref) (h ++ List.replicate n (nRow W))
  | 0, i, h, _ => by simp [rangeL]
  | n + 1, i, h, hl => by
    have ih := new_rows hσ h1 hW n (i + 1) (h ++ [nRow W]) (by rw [List.length_append, hl]; rfl)
    have it : itm F C [13] (.nm 13) [] (.new (.rep (.dsp [(.lit .none)]) (.var 1))) σ (.d (.int (i : Int))) h = .ok [.ref i] (h ++ [nRow W]) := by
      have nr := new_row (F := F) (C := C) (W := W) (σ := ((σ.set 13 none).set 13 (some (.d (.int (i : Int)))))) (by
        rw [List.getElem?_set_ne (by decide), List.getElem?_set_ne (by decide)]; exact h1) hW h
      unfold itm
      simp only [wipe, bindT_nm, ei_nil, R.bind_ok, if_true, nr, hl, R.quiet_ok]
    unfold rangeL
    rw [cmpL_cons, it]
    simp only [R.bind_ok]
    rw [show ((i : Int) + 1) = ((i + 1 : Nat) : Int) by omega, ih]
    simp only [R.bind_ok, List.range'_succ, List.map_cons, List.cons_append, List.nil_append, List.replicate_succ, List.append_assoc]
theorem HT_0 {H W : Nat} : List.replicate H (nRow W) ++ [IO.lst ((List.range' 0 H).map Val.ref)] = HT H W T0 := by
  unfold HT T0 tbD nRow
  rw [List.map_const', List.map_const', List.length_range, List.length_range, List.range_eq_range']
theorem c_filling {H W a b : Nat} {bs : List Bk} (z : Rg F H W a b) (hH : H ≤ 60) (hW : W ≤ 60) (hb : barOf H W a b = none) (hbs : blkOf H W a b = some bs) (ok : ∀ x ∈ bs, Bok H W a b x) :
    callR F (O F (k + 4)) f_filling [V H, V W, V a, V b] h = .ok (.d (.tuple ((List.range H).map fun r => .tuple (tbD W (fillF a b T0 0 bs r))))) h := by
  suffices hr : ∃ h1, exs F (O F (k + 4)) b_filling [some (V H), some (V W), some (V a), some (V b), none, none, none, none, none, none, none, none, none, none, none, none] [] = .ok (.rt (.d (.tuple ((List.range H).map fun r => .tuple (tbD W (fillF a b T0 0 bs r)))))) h1 by
    obtain ⟨h1, e⟩ := hr
    refine call_pd (ds := [.int H, .int W, .int a, .int b]) rfl rfl (h1 := h1) ?_
    show (match exs F (O F (k + 4)) b_filling [some (V H), some (V W), some (V a), some (V b), none, none, none, none, none, none, none, none, none, none, none, none] [] with
      | .ok (.rt v) h1 => R.ok v h1
      | .ok (.nx _) h1 => .ok (.d .none) h1
      | .er e _ h1 => .er e h1
      | _ => .no) = _
    rw [e]
  have cf := fun h => c_can (F := F) (k := k) (h := h) z
  rw [hb] at cf
  have bl := fun h => c_blocks (F := F) (k := k + 2) (h := h) z.toSz hbs (by omega) (by omega)
  have rH := okR H (by omega)
  have ftH : fits (rangeL 0 H).length = true := fits_le (by rw [rangeL_len]; omega)
  have ftH2 : fits H = true := fits_le (by omega)
  have nr := new_rows (F := F) (C := O F (k + 4)) (W := W) (σ := [some (V H), some (V W), some (V a), some (V b), none, none, none, none, none, none, none, none, none, none, none, none]) (by simp) rfl (by omega) H 0 [] rfl
  obtain ⟨d5, d6, d7, d8, d9, d10, d11, d12, d14, fb⟩ := f_blks (F := F) (k := k + 3) (H := H) (W := W) (a := a) (b := b) z.a0 z.b0 z.ha z.hb (by omega) (by omega) bs 0 T0 none none none none none none none none ok
  obtain ⟨h1, rd⟩ := rows_data (H := H) (W := W) (T := fillF a b T0 0 bs)
  have n60 : ¬ ((60 : Int) < (H : Int)) := by omega
  have n61 : ¬ ((60 : Int) < (W : Int)) := by omega
  have it := cmp_fn (h := h1) (f := itm F (O F (k + 4)) [15] (.nm 15) [] (.tupO (.var 15)) [some (V H), some (V W), some (V a), some (V b), some (.ref H), d5, d6, d7, d8, d9, d10, d11, d12, none, d14, none]) (fun r : Nat => .list (tbD W (fillF a b T0 0 bs r))) (fun r => .tuple (tbD W (fillF a b T0 0 bs r))) (List.range H) (fun r _ => by
    have tv : tupV (.d (.list (tbD W (fillF a b T0 0 bs r)))) h1 = .ok (.d (.tuple (tbD W (fillF a b T0 0 bs r)))) h1 := by
      show ((toDs ((tbD W (fillF a b T0 0 bs r)).map Val.d) h1).bind fun ds h1 => R.ok (Val.d (.tuple ds)) h1) = _
      rw [toDs_map]; rfl
    unfold itm
    simp only [wipe, List.set, bindT_nm, ei_nil, R.bind_ok, if_true, e_tupO, e_var, List.getElem?_cons_zero, List.getElem?_cons_succ, tv, R.quiet_ok])
  have mm : ((List.range H).map fun r => PyData.list (tbD W (fillF a b T0 0 bs r))).map Val.d = (List.range H).map fun r => Val.d (.list (tbD W (fillF a b T0 0 bs r))) := by rw [List.map_map]; rfl
  have tv : ∀ (xs : List D) (h : Hq), tupV (.d (.list xs)) h = .ok (.d (.tuple xs)) h := fun xs h => by
    show ((toDs (xs.map Val.d) h).bind fun ds h1 => R.ok (Val.d (.tuple ds)) h1) = _
    rw [toDs_map]; rfl
  have hb0 : b_filling = [.iff (.not_ (.call 5 [(.var 0), (.var 1), (.var 2), (.var 3)])) [.rse 2] [],
   .iff (.or_ (.cmp .gt (.var 0) (.lit (.int 60))) (.cmp .gt (.var 1) (.lit (.int 60)))) [.rse 1] [],
   .set 4 (.new (.cmp [13] (.nm 13) (.rng (.var 0)) [] (.new (.rep (.dsp [(.lit .none)]) (.var 1))))),
   .set 5 (.lit (.int 0)),
   .for_ (.tp [6, 7, 8, 9, 10]) (.val (.call 10 [(.var 0), (.var 1), (.var 2), (.var 3)])) fB3,
   .ret (.tupO (.ofL (.cmp [15] (.nm 15) (.val (.frzD (.var 4))) [] (.tupO (.var 15)))))] := rfl
  refine ⟨h1, ?_⟩
  rw [hb0]
  simp only [xs_cons, xs_nil, x_iff, cnd, tst, e_not, ev_call, t_5, t_10, es_cons, es_nil, e_var, List.getElem?_cons_zero, List.getElem?_cons_succ, R.bind_ok, cf, Option.isNone_none, tru_b, Bool.not_true, Bool.false_eq_true, if_false, R.thn_ok, RF.thn_nx, e_or, e_cmp, e_lit, cmpV_d, cmpD_gt, n60, n61, decide_false, x_set, e_new, el_cmp, ex_rng, intV_i, rH, if_true, Int.toNat_natCast, ftH]
  rw [show cmpL (itm F (O F (k + 4)) [13] (.nm 13) [] (Ex.new (.rep (.dsp [(.lit .none)]) (.var 1))) _) (rangeL 0 H) [] = _ from nr]
  simp only [R.bind_ok, List.nil_append, List.length_replicate, HT_0, R.thn_ok, RF.thn_nx, List.set, x_for, ex_val, ev_call, t_10, es_cons, es_nil, e_var, List.getElem?_cons_zero, List.getElem?_cons_succ, bl, srcV_l]
  rw [show forL (turnV (.tp [6, 7, 8, 9, 10]) (bdy F (O F (k + 4)) fB3)) ((bs.map bkD).map .d) [some (V H), some (V W), some (V a), some (V b), some (.ref H), some (.d (.int 0)), none, none, none, none, none, none, none, none, none, none] (HT H W T0) = _ from fb]
  simp only [RF.thn_nx, x_ret, e_tupO, e_ofL, el_cmp, ex_val, e_frzD, e_var, List.getElem?_cons_zero, List.getElem?_cons_succ, R.bind_ok, rd, srcV_l, mm, List.length_map, List.length_range, ftH2, if_true, it, toDs_fn, tv, R.thn_ok, thn_rt]
end
end K12

set_option linter.all false
set_option Elab.async false
set_option autoImplicit false
set_option maxRecDepth 100000
namespace K12
open PySem Ip
/-! ### the numbers laid -/
theorem dv {s u i : Nat} (hs : 0 < s) : u / s = i ↔ i * s ≤ u ∧ u < i * s + s := by
  constructor
  · intro h
    subst h
    have := Nat.div_add_mod u s
    have := Nat.mod_lt u hs
    rw [Nat.mul_comm]
    omega
  · intro ⟨h1, h2⟩
    exact Nat.div_eq_of_lt_le h1 (by rw [Nat.succ_mul]; exact h2)
theorem rowF_is {T : Tf} {t l s0 s1 n0 r c : Nat} (h1 : 0 < s1) : ∀ j, rowF T t l s0 s1 n0 j r c = if t ≤ r ∧ r < t + s0 ∧ l ≤ c ∧ c < l + j * s1 then N (n0 + (c - l) / s1) else T r c
  | 0 => by rw [if_neg (by omega)]; rfl
  | j + 1 => by
    show (if t ≤ r ∧ r < t + s0 ∧ l + j * s1 ≤ c ∧ c < l + j * s1 + s1 then N (n0 + j) else rowF T t l s0 s1 n0 j r c) = _
    rw [rowF_is h1 j, Nat.succ_mul]
    by_cases k : t ≤ r ∧ r < t + s0 ∧ l + j * s1 ≤ c ∧ c < l + j * s1 + s1
    · rw [if_pos k, if_pos (by omega), (dv h1).mpr (⟨by omega, by omega⟩ : j * s1 ≤ c - l ∧ c - l < j * s1 + s1)]
    · rw [if_neg k]
      by_cases k2 : t ≤ r ∧ r < t + s0 ∧ l ≤ c ∧ c < l + j * s1
      · rw [if_pos k2, if_pos (by omega)]
      · rw [if_neg k2, if_neg (by omega)]
theorem blkF_is {T : Tf} {t l s0 s1 m n0 r c : Nat} (h0 : 0 < s0) (h1 : 0 < s1) : ∀ i, blkF T t l s0 s1 m n0 i r c = if t ≤ r ∧ r < t + i * s0 ∧ l ≤ c ∧ c < l + m * s1 then N (n0 + (r - t) / s0 * m + (c - l) / s1) else T r c
  | 0 => by rw [if_neg (by omega)]; rfl
  | i + 1 => by
    show rowF (blkF T t l s0 s1 m n0 i) (t + i * s0) l s0 s1 (n0 + i * m) m r c = _
    rw [rowF_is h1, blkF_is h0 h1 i, Nat.succ_mul]
    by_cases k : t + i * s0 ≤ r ∧ r < t + i * s0 + s0 ∧ l ≤ c ∧ c < l + m * s1
    · rw [if_pos k, if_pos (by omega), (dv h0).mpr (⟨by omega, by omega⟩ : i * s0 ≤ r - t ∧ r - t < i * s0 + s0)]
    · rw [if_neg k]
      by_cases k2 : t ≤ r ∧ r < t + i * s0 ∧ l ≤ c ∧ c < l + m * s1
      · rw [if_pos k2, if_pos (by omega)]
      · rw [if_neg k2, if_neg (by omega)]
def inBk (x : Bk) (r c : Nat) : Prop := x.t ≤ r ∧ r < x.t + x.m ∧ x.l ≤ c ∧ c < x.l + x.n
instance (x : Bk) (r c : Nat) : Decidable (inBk x r c) := inferInstanceAs (Decidable (_ ∧ _))
def bkNum (a b : Nat) (x : Bk) (n0 r c : Nat) : Nat := n0 + (r - x.t) / s0F a b x * (x.n / s1F a b x) + (c - x.l) / s1F a b x
section
variable {H W a b : Nat} {x y : Bk}
theorem s0_pos (a0 : 0 < a) (b0 : 0 < b) : 0 < s0F a b x := by unfold s0F; split <;> assumption
theorem s1_pos (a0 : 0 < a) (b0 : 0 < b) : 0 < s1F a b x := by unfold s1F; split <;> assumption
theorem bkF_is {T : Tf} {n0 r c : Nat} (a0 : 0 < a) (b0 : 0 < b) (ok : Bok H W a b x) : bkF a b T n0 x r c = if inBk x r c then N (bkNum a b x n0 r c) else T r c := by
  unfold bkF bkNum inBk
  rw [blkF_is (s0_pos a0 b0) (s1_pos a0 b0), Nat.div_mul_cancel (Nat.dvd_of_mod_eq_zero ok.d0), Nat.div_mul_cancel (Nat.dvd_of_mod_eq_zero ok.d1)]
  rfl
def numF (a b : Nat) (x y : Bk) (r c : Nat) : Nat := if inBk y r c then bkNum a b y (bkN a b 0 x) r c else bkNum a b x 0 r c
theorem fill_num {r c : Nat} (a0 : 0 < a) (b0 : 0 < b) (okx : Bok H W a b x) (oky : Bok H W a b y) (cv : inBk x r c ∨ inBk y r c) : fillF a b T0 0 [x, y] r c = N (numF a b x y r c) := by
  show bkF a b (bkF a b T0 0 x) (bkN a b 0 x) y r c = _
  rw [bkF_is a0 b0 oky, bkF_is a0 b0 okx]
  unfold numF
  by_cases hy : inBk y r c
  · rw [if_pos hy, if_pos hy]
  · rw [if_neg hy, if_neg hy, if_pos (cv.resolve_right hy)]
theorem num_lt {n0 r c : Nat} (a0 : 0 < a) (b0 : 0 < b) (ok : Bok H W a b x) (h : inBk x r c) : n0 ≤ bkNum a b x n0 r c ∧ bkNum a b x n0 r c < bkN a b n0 x := by
  have p0 := s0_pos (x := x) a0 b0
  have p1 := s1_pos (x := x) a0 b0
  have d0 := Nat.div_mul_cancel (Nat.dvd_of_mod_eq_zero ok.d0)
  have d1 := Nat.div_mul_cancel (Nat.dvd_of_mod_eq_zero ok.d1)
  obtain ⟨h1, h2, h3, h4⟩ := h
  unfold bkNum bkN
  generalize s0F a b x = s0 at *
  generalize s1F a b x = s1 at *
  have i1 : (r - x.t) / s0 < x.m / s0 := by
    rw [Nat.div_lt_iff_lt_mul p0, d0]; omega
  have i2 : (c - x.l) / s1 < x.n / s1 := by
    rw [Nat.div_lt_iff_lt_mul p1, d1]; omega
  generalize (r - x.t) / s0 = i at *
  generalize (c - x.l) / s1 = j at *
  generalize x.m / s0 = m at *
  generalize x.n / s1 = n at *
  have : (i + 1) * n ≤ m * n := Nat.mul_le_mul_right _ i1
  rw [Nat.succ_mul] at this
  omega
/-- the brick over a place -/
def orgF (a b : Nat) (x : Bk) (r c : Nat) : Cell := (x.t + (r - x.t) / s0F a b x * s0F a b x, x.l + (c - x.l) / s1F a b x * s1F a b x)
def inRc (o : Cell) (s0 s1 r c : Nat) : Prop := o.1 ≤ r ∧ r < o.1 + s0 ∧ o.2 ≤ c ∧ c < o.2 + s1
theorem blk_same {n0 r c r' c' : Nat} (a0 : 0 < a) (b0 : 0 < b) (ok : Bok H W a b x) (h : inBk x r c) (h' : inBk x r' c') : bkNum a b x n0 r' c' = bkNum a b x n0 r c ↔ inRc (orgF a b x r c) (s0F a b x) (s1F a b x) r' c' := by
  have p0 := s0_pos (x := x) a0 b0
  have p1 := s1_pos (x := x) a0 b0
  have d1 := Nat.div_mul_cancel (Nat.dvd_of_mod_eq_zero ok.d1)
  obtain ⟨h1, h2, h3, h4⟩ := h
  obtain ⟨k1, k2, k3, k4⟩ := h'
  unfold bkNum orgF inRc
  generalize s0F a b x = s0 at *
  generalize s1F a b x = s1 at *
  have i2 : (c - x.l) / s1 < x.n / s1 := by
    rw [Nat.div_lt_iff_lt_mul p1, d1]; omega
  have i3 : (c' - x.l) / s1 < x.n / s1 := by
    rw [Nat.div_lt_iff_lt_mul p1, d1]; omega
  have e0 := @dv s0 (r' - x.t) ((r - x.t) / s0) p0
  have e1 := @dv s1 (c' - x.l) ((c - x.l) / s1) p1
  have key : n0 + (r' - x.t) / s0 * (x.n / s1) + (c' - x.l) / s1 = n0 + (r - x.t) / s0 * (x.n / s1) + (c - x.l) / s1 ↔ (r' - x.t) / s0 = (r - x.t) / s0 ∧ (c' - x.l) / s1 = (c - x.l) / s1 := by
    generalize (r - x.t) / s0 = i at *
    generalize (c - x.l) / s1 = j at *
    generalize (r' - x.t) / s0 = i' at *
    generalize (c' - x.l) / s1 = j' at *
    generalize x.n / s1 = n at *
    constructor
    · intro e
      have e : i' * n + j' = i * n + j := by omega
      have q1 : (i' * n + j') / n = i' := by rw [Nat.mul_comm, Nat.mul_add_div (by omega), Nat.div_eq_of_lt i3]; rfl
      have q2 : (i * n + j) / n = i := by rw [Nat.mul_comm, Nat.mul_add_div (by omega), Nat.div_eq_of_lt i2]; rfl
      have : i' = i := by rw [← q1, ← q2, e]
      subst this
      exact ⟨rfl, by omega⟩
    · intro ⟨e1, e2⟩
      rw [e1, e2]
  rw [key, e0, e1]
  simp only
  omega
/-- a brick that starts in a block stays in it -/
theorem org_in {r c r' c' : Nat} (a0 : 0 < a) (b0 : 0 < b) (ok : Bok H W a b x) (h : inBk x r c) (h' : inRc (orgF a b x r c) (s0F a b x) (s1F a b x) r' c') : inBk x r' c' := by
  have p0 := s0_pos (x := x) a0 b0
  have p1 := s1_pos (x := x) a0 b0
  have d0 := Nat.div_mul_cancel (Nat.dvd_of_mod_eq_zero ok.d0)
  have d1 := Nat.div_mul_cancel (Nat.dvd_of_mod_eq_zero ok.d1)
  obtain ⟨h1, h2, h3, h4⟩ := h
  unfold inRc orgF at h'
  unfold inBk
  generalize s0F a b x = s0 at *
  generalize s1F a b x = s1 at *
  have i1 : (r - x.t) / s0 < x.m / s0 := by
    rw [Nat.div_lt_iff_lt_mul p0, d0]; omega
  have i2 : (c - x.l) / s1 < x.n / s1 := by
    rw [Nat.div_lt_iff_lt_mul p1, d1]; omega
  have e1 : ((r - x.t) / s0 + 1) * s0 ≤ x.m / s0 * s0 := Nat.mul_le_mul_right _ i1
  have e2 : ((c - x.l) / s1 + 1) * s1 ≤ x.n / s1 * s1 := Nat.mul_le_mul_right _ i2
  rw [Nat.succ_mul] at e1 e2
  simp only at h'
  omega
theorem org_fit {r c : Nat} (a0 : 0 < a) (b0 : 0 < b) (ok : Bok H W a b x) (h : inBk x r c) : (orgF a b x r c).1 + s0F a b x ≤ H ∧ (orgF a b x r c).2 + s1F a b x ≤ W := by
  have p0 := s0_pos (x := x) a0 b0
  have p1 := s1_pos (x := x) a0 b0
  have := org_in (r' := (orgF a b x r c).1 + s0F a b x - 1) (c' := (orgF a b x r c).2 + s1F a b x - 1) a0 b0 ok h ⟨by omega, by omega, by omega, by omega⟩
  obtain ⟨k1, k2, k3, k4⟩ := this
  have := ok.r
  have := ok.c
  omega
end
end K12

set_option linter.all false
set_option Elab.async false
set_option autoImplicit false
set_option maxRecDepth 100000
namespace K12
open PySem Ip
theorem rect_succ (p : Cell) (m n : Nat) : rect p (m + 1) n = rect p m n ++ (List.range' p.2 n).map fun k => (p.1 + m, k) := by
  unfold rect
  rw [Nat.succ_mul, List.range_add, List.map_append, List.map_map]
  congr 1
  rw [List.range'_eq_map_range, List.map_map]
  refine List.map_congr_left fun i hi => ?_
  have hi := List.mem_range.mp hi
  simp only [Function.comp]
  have e1 : (m * n + i) / n = m := by rw [Nat.mul_comm, Nat.mul_add_div (by omega), Nat.div_eq_of_lt hi]; rfl
  have e2 : (m * n + i) % n = i := by rw [Nat.mul_comm, Nat.mul_add_mod, Nat.mod_eq_of_lt hi]
  rw [e1, e2]
section
variable {T : List (List Int)} {x : Int}
/-- one row's places -/
theorem row_cells {o : Cell} {s0 s1 j : Nat} {g : Gr} : ∀ k, (∀ c, c < k → (atT T j c = x ↔ inRc o s0 s1 j c)) → gcells (rowG T j k g) x = gcells g x ++ if o.1 ≤ j ∧ j < o.1 + s0 then (List.range' o.2 (min (k - o.2) s1)).map (fun c => (j, c)) else []
  | 0, _ => by
    show gcells g x = _
    split <;> simp
  | k + 1, h => by
    have ih := row_cells (o := o) (s0 := s0) (s1 := s1) (j := j) (g := g) k fun c hc => h c (by omega)
    show gcells (addG (rowG T j k g) (atT T j k) (j, k)) x = _
    rw [gcells_add]
    have hk := h k (by omega)
    by_cases e : atT T j k = x
    · obtain ⟨h1, h2, h3, h4⟩ := hk.mp e
      rw [if_pos e.symm, e, ih, if_pos ⟨h1, h2⟩, if_pos ⟨h1, h2⟩]
      have a1 : min (k + 1 - o.2) s1 = min (k - o.2) s1 + 1 := by omega
      have a2 : min (k - o.2) s1 = k - o.2 := by omega
      rw [a1, List.range'_concat, List.map_append, List.append_assoc, a2]
      simp only [List.map_cons, List.map_nil, Nat.one_mul]
      rw [show o.2 + (k - o.2) = k by omega]
    · rw [if_neg (fun z => e z.symm), ih]
      congr 1
      by_cases r : o.1 ≤ j ∧ j < o.1 + s0
      · rw [if_pos r, if_pos r]
        have nk : ¬ (o.2 ≤ k ∧ k < o.2 + s1) := fun z => e (hk.mpr ⟨r.1, r.2, z.1, z.2⟩)
        have : min (k + 1 - o.2) s1 = min (k - o.2) s1 := by omega
        rw [this]
      · rw [if_neg r, if_neg r]
theorem tab_cells {o : Cell} {s0 s1 H W : Nat} (fw : o.2 + s1 ≤ W) (h : ∀ r, r < H → ∀ c, c < W → (atT T r c = x ↔ inRc o s0 s1 r c)) : ∀ j, j ≤ H → gcells (tabG T W j) x = rect o (min (j - o.1) s0) s1
  | 0, _ => by
    show gcells [] x = _
    have : min (0 - o.1) s0 = 0 := by omega
    rw [this]
    unfold gcells rect
    simp
  | j + 1, hj => by
    have ih := tab_cells fw h j (by omega)
    show gcells (rowG T j W (tabG T W j)) x = _
    rw [row_cells (o := o) (s0 := s0) (s1 := s1) W fun c hc => h j (by omega) c hc, ih]
    have w : min (W - o.2) s1 = s1 := by omega
    rw [w]
    by_cases r : o.1 ≤ j ∧ j < o.1 + s0
    · rw [if_pos r]
      have a1 : min (j + 1 - o.1) s0 = min (j - o.1) s0 + 1 := by omega
      rw [a1, rect_succ]
      congr 1
      refine List.map_congr_left fun c _ => ?_
      rw [show o.1 + min (j - o.1) s0 = j by omega]
    · rw [if_neg r, List.append_nil]
      have : min (j + 1 - o.1) s0 = min (j - o.1) s0 := by omega
      rw [this]
theorem mem_row {p : Cell} {j : Nat} {g : Gr} : ∀ k, p ∈ gcells (rowG T j k g) x → p ∈ gcells g x ∨ (p.1 = j ∧ p.2 < k ∧ atT T j p.2 = x)
  | 0, h => .inl h
  | k + 1, h => by
    have h : p ∈ gcells (addG (rowG T j k g) (atT T j k) (j, k)) x := h
    rw [gcells_add] at h
    split at h
    · rename_i e
      rcases List.mem_append.mp h with h | h
      · rw [← e] at h
        rcases mem_row k h with h | ⟨h1, h2, h3⟩
        · exact .inl h
        · exact .inr ⟨h1, by omega, h3⟩
      · have := List.mem_singleton.mp h
        subst this
        exact .inr ⟨rfl, by simp, e.symm⟩
    · rcases mem_row k h with h | ⟨h1, h2, h3⟩
      · exact .inl h
      · exact .inr ⟨h1, by omega, h3⟩
theorem mem_tab {p : Cell} {W : Nat} : ∀ j, p ∈ gcells (tabG T W j) x → p.1 < j ∧ p.2 < W ∧ atT T p.1 p.2 = x
  | 0, h => by simp [tabG, gcells] at h
  | j + 1, h => by
    rcases mem_row W h with h | ⟨h1, h2, h3⟩
    · obtain ⟨a, b, c⟩ := mem_tab j h
      exact ⟨by omega, b, c⟩
    · exact ⟨by omega, h2, by rw [h1]; exact h3⟩
end
theorem right_of {T : List (List Int)} {H W a b : Nat} (a0 : 0 < a) (b0 : 0 < b) (h : ∀ r, r < H → ∀ c, c < W → ∃ (o : Cell) (s0 s1 : Nat), ((s0 = a ∧ s1 = b) ∨ (s0 = b ∧ s1 = a)) ∧ o.1 + s0 ≤ H ∧ o.2 + s1 ≤ W ∧ ∀ r', r' < H → ∀ c', c' < W → (atT T r' c' = atT T r c ↔ inRc o s0 s1 r' c')) : rightG T H W a b = true := by
  unfold rightG
  rw [List.all_eq_true]
  intro q hq
  obtain ⟨_, ne, e⟩ := (gok_tab (T := T) (W := W) H).each q hq
  obtain ⟨p, rest, hp⟩ := List.exists_cons_of_ne_nil ne
  have mp : p ∈ gcells (tabG T W H) q.1 := by rw [← e, hp]; exact List.mem_cons_self
  obtain ⟨m1, m2, m3⟩ := mem_tab H mp
  obtain ⟨o, s0, s1, hs, f0, f1, hh⟩ := h p.1 m1 p.2 m2
  rw [m3] at hh
  have tc := tab_cells f1 hh H (Nat.le_refl _)
  have e0 : min (H - o.1) s0 = s0 := by omega
  rw [e0, ← e] at tc
  have p0 : 0 < s0 := by rcases hs with ⟨h1, h2⟩ | ⟨h1, h2⟩ <;> omega
  have p1 : 0 < s1 := by rcases hs with ⟨h1, h2⟩ | ⟨h1, h2⟩ <;> omega
  have hd : q.2.headD (0, 0) = o := by
    obtain ⟨m, rfl⟩ : ∃ k, s0 = k + 1 := ⟨s0 - 1, by omega⟩
    obtain ⟨n, rfl⟩ : ∃ k, s1 = k + 1 := ⟨s1 - 1, by omega⟩
    rw [tc]
    unfold rect
    have : (m + 1) * (n + 1) = (m * (n + 1) + n) + 1 := by rw [Nat.succ_mul]; omega
    rw [this, List.range_succ_eq_map]
    simp
  unfold isB
  rw [hd]
  rcases hs with ⟨rfl, rfl⟩ | ⟨rfl, rfl⟩
  · rw [decide_eq_true tc, Bool.true_or]
  · rw [decide_eq_true tc, Bool.or_true]
/-- a table of numbers -/
def tabN (H W : Nat) (f : Nat → Nat → Nat) : List (List Int) := (List.range H).map fun r => tb W fun c => ((f r c : Nat) : Int)
theorem at_tabN {H W r c : Nat} {f : Nat → Nat → Nat} (hr : r < H) (hc : c < W) : atT (tabN H W f) r c = (f r c : Int) := by
  unfold atT tabN tb
  rw [List.getD_eq_getElem?_getD, List.getD_eq_getElem?_getD]
  simp [hr, hc]
theorem dim_tabN {H W : Nat} {f : Nat → Nat → Nat} : dimB (tabN H W f) H W = true := by
  unfold dimB tabN
  rw [Bool.and_eq_true, decide_eq_true_eq, List.all_eq_true]
  refine ⟨by simp, fun r hr => ?_⟩
  obtain ⟨i, _, rfl⟩ := List.mem_map.mp hr
  exact decide_eq_true (tb_len _ _)
/-- two blocks that fill the box -/
structure Two (H W a b : Nat) (x y : Bk) : Prop where
  kx : Bok H W a b x
  ky : Bok H W a b y
  cv : ∀ r, r < H → ∀ c, c < W → (inBk x r c ∧ ¬ inBk y r c) ∨ (inBk y r c ∧ ¬ inBk x r c)
theorem sF_or (a b : Nat) (x : Bk) : (s0F a b x = a ∧ s1F a b x = b) ∨ (s0F a b x = b ∧ s1F a b x = a) := by
  unfold s0F s1F
  cases x.fl
  · exact .inr ⟨rfl, rfl⟩
  · exact .inl ⟨rfl, rfl⟩
theorem two_right {H W a b : Nat} {x y : Bk} (a0 : 0 < a) (b0 : 0 < b) (t : Two H W a b x y) : rightB (tabN H W (numF a b x y)) H W a b = true := by
  unfold rightB
  rw [dim_tabN, Bool.true_and]
  refine right_of a0 b0 fun r hr c hc => ?_
  rcases t.cv r hr c hc with ⟨hx, hy⟩ | ⟨hy, hx⟩
  · obtain ⟨f0, f1⟩ := org_fit a0 b0 t.kx hx
    refine ⟨orgF a b x r c, s0F a b x, s1F a b x, sF_or a b x, f0, f1, fun r' hr' c' hc' => ?_⟩
    rw [at_tabN hr hc, at_tabN hr' hc']
    have e1 : numF a b x y r c = bkNum a b x 0 r c := if_neg hy
    rw [e1]
    rcases t.cv r' hr' c' hc' with ⟨hx', hy'⟩ | ⟨hy', hx'⟩
    · have e2 : numF a b x y r' c' = bkNum a b x 0 r' c' := if_neg hy'
      rw [e2, ← blk_same (n0 := 0) a0 b0 t.kx hx hx']
      omega
    · have e2 : numF a b x y r' c' = bkNum a b y (bkN a b 0 x) r' c' := if_pos hy'
      rw [e2]
      have l1 := num_lt (n0 := 0) a0 b0 t.kx hx
      have l2 := num_lt (n0 := bkN a b 0 x) a0 b0 t.ky hy'
      constructor
      · intro z; omega
      · intro z; exact absurd (org_in a0 b0 t.kx hx z) hx'
  · obtain ⟨f0, f1⟩ := org_fit a0 b0 t.ky hy
    refine ⟨orgF a b y r c, s0F a b y, s1F a b y, sF_or a b y, f0, f1, fun r' hr' c' hc' => ?_⟩
    rw [at_tabN hr hc, at_tabN hr' hc']
    have e1 : numF a b x y r c = bkNum a b y (bkN a b 0 x) r c := if_pos hy
    rw [e1]
    rcases t.cv r' hr' c' hc' with ⟨hx', hy'⟩ | ⟨hy', hx'⟩
    · have e2 : numF a b x y r' c' = bkNum a b x 0 r' c' := if_neg hy'
      rw [e2]
      have l1 := num_lt (n0 := 0) a0 b0 t.kx hx'
      have l2 := num_lt (n0 := bkN a b 0 x) a0 b0 t.ky hy
      constructor
      · intro z; omega
      · intro z; exact absurd (org_in a0 b0 t.ky hy z) hy'
    · have e2 : numF a b x y r' c' = bkNum a b y (bkN a b 0 x) r' c' := if_pos hy'
      rw [e2, ← blk_same (n0 := bkN a b 0 x) a0 b0 t.ky hy hy']
      omega
end K12

set_option linter.all false
set_option Elab.async false
set_option autoImplicit false
set_option maxRecDepth 100000
namespace K12
open PySem Ip
theorem sum_is {n a b : Nat} {p : Nat × Nat} (h : sumOf n a b = some p) : p.1 * a + p.2 * b = n := by
  unfold sumOf at h
  cases e : findS n a b with
  | none => rw [e] at h; cases h
  | some m =>
    rw [e] at h
    cases h
    unfold findS at e
    have := List.find?_some e
    unfold okS at this
    rw [Bool.and_eq_true, decide_eq_true_eq, decide_eq_true_eq] at this
    have d := Nat.div_mul_cancel (Nat.dvd_of_mod_eq_zero this.2)
    simp only
    omega
/-- what a box that is not barred has -/
def boxB (H W a b : Nat) : Bool := (decide (H % a = 0) || decide (W % a = 0)) && (decide (H % b = 0) || decide (W % b = 0)) && (sumOf H a b).isSome && (sumOf W a b).isSome
theorem box_fin : ((List.range 14).all fun H => (List.range 14).all fun W => (List.range 4).all fun a => (List.range 5).all fun b => (barOf (H + 1) (W + 1) (a + 1) (b + 1)).isSome || boxB (H + 1) (W + 1) (a + 1) (b + 1)) = true := by decide +kernel
structure Small (H W a b : Nat) : Prop where
  H0 : 0 < H
  W0 : 0 < W
  a0 : 0 < a
  b0 : 0 < b
  H1 : H ≤ 14
  W1 : W ≤ 14
  a1 : a ≤ 4
  b1 : b ≤ 5
theorem Small.rg {F H W a b : Nat} (s : Small H W a b) (hF : 1000000 ≤ F) : Rg F H W a b := by
  have := s.H0; have := s.W0; have := s.a0; have := s.b0; have := s.H1; have := s.W1; have := s.a1; have := s.b1
  exact ⟨⟨by omega, by omega, by omega, by omega, by omega, by omega, hF⟩, by omega, by omega, by omega, by omega, by omega, by omega⟩
theorem fin4 {p : Nat → Nat → Nat → Nat → Bool} (h : ((List.range 14).all fun H => (List.range 14).all fun W => (List.range 4).all fun a => (List.range 5).all fun b => p (H + 1) (W + 1) (a + 1) (b + 1)) = true) {H W a b : Nat} (s : Small H W a b) : p H W a b = true := by
  have := s.H0; have := s.W0; have := s.a0; have := s.b0; have := s.H1; have := s.W1; have := s.a1; have := s.b1
  have h1 := List.all_eq_true.mp h (H - 1) (List.mem_range.mpr (by omega))
  have h2 := List.all_eq_true.mp h1 (W - 1) (List.mem_range.mpr (by omega))
  have h3 := List.all_eq_true.mp h2 (a - 1) (List.mem_range.mpr (by omega))
  have h4 := List.all_eq_true.mp h3 (b - 1) (List.mem_range.mpr (by omega))
  rw [Nat.sub_add_cancel s.H0, Nat.sub_add_cancel s.W0, Nat.sub_add_cancel s.a0, Nat.sub_add_cancel s.b0] at h4
  exact h4
def nil2 : Bk := ⟨0, 0, 0, 0, true⟩
theorem bok_nil {H W a b : Nat} : Bok H W a b nil2 := ⟨Nat.zero_le _, Nat.zero_le _, Nat.zero_mod _, Nat.zero_mod _⟩
theorem two_nil {H W a b : Nat} {x : Bk} (ok : Bok H W a b x) (h : x.t = 0 ∧ x.l = 0 ∧ x.m = H ∧ x.n = W) : Two H W a b x nil2 := by
  refine ⟨ok, bok_nil, fun r hr c hc => .inl ⟨?_, ?_⟩⟩
  · obtain ⟨h1, h2, h3, h4⟩ := h
    unfold inBk
    omega
  · unfold inBk nil2
    simp only
    omega
theorem fill_nil {a b n0 : Nat} {x : Bk} {T : Tf} : fillF a b T n0 [x] = fillF a b T n0 [x, nil2] := by
  show bkF a b T n0 x = bkF a b (bkF a b T n0 x) (bkN a b n0 x) nil2
  generalize bkF a b T n0 x = T'
  unfold bkF nil2
  simp only [Nat.zero_div]
  rfl
theorem blk_two {H W a b : Nat} (a0 : 0 < a) (b0 : 0 < b) (hb : boxB H W a b = true) : ∃ bs x y, blkOf H W a b = some bs ∧ fillF a b T0 0 bs = fillF a b T0 0 [x, y] ∧ (∀ z ∈ bs, Bok H W a b z) ∧ Two H W a b x y := by
  unfold boxB at hb
  simp only [Bool.and_eq_true, Bool.or_eq_true, decide_eq_true_eq, Option.isSome_iff_exists] at hb
  obtain ⟨⟨⟨k1, k2⟩, p, e1⟩, p', e2⟩ := hb
  unfold blkOf
  by_cases h1 : H % a = 0 ∧ W % b = 0
  · rw [if_pos h1]
    have ok : Bok H W a b ⟨0, 0, H, W, true⟩ := ⟨by simp, by simp, h1.1, h1.2⟩
    exact ⟨_, _, nil2, rfl, fill_nil, fun z hz => by rw [List.mem_singleton.mp hz]; exact ok, two_nil ok ⟨rfl, rfl, rfl, rfl⟩⟩
  · rw [if_neg h1]
    by_cases h2 : H % b = 0 ∧ W % a = 0
    · rw [if_pos h2]
      have ok : Bok H W a b ⟨0, 0, H, W, false⟩ := ⟨by simp, by simp, h2.1, h2.2⟩
      exact ⟨_, _, nil2, rfl, fill_nil, fun z hz => by rw [List.mem_singleton.mp hz]; exact ok, two_nil ok ⟨rfl, rfl, rfl, rfl⟩⟩
    · rw [if_neg h2]
      by_cases h3 : H % a = 0 ∧ H % b = 0
      · rw [if_pos h3, e2]
        have sm := sum_is e2
        have okx : Bok H W a b ⟨0, 0, H, p'.1 * a, false⟩ := ⟨by simp, by simp only; omega, h3.2, Nat.mul_mod_left _ _⟩
        have oky : Bok H W a b ⟨0, p'.1 * a, H, p'.2 * b, true⟩ := ⟨by simp, by simp only; omega, h3.1, Nat.mul_mod_left _ _⟩
        refine ⟨_, _, _, rfl, rfl, fun z hz => ?_, okx, oky, fun r hr c hc => ?_⟩
        · simp only [List.mem_cons, List.not_mem_nil, or_false] at hz
          rcases hz with rfl | rfl <;> assumption
        · unfold inBk
          simp only
          omega
      · rw [if_neg h3, e1]
        have sm := sum_is e1
        have w1 : W % a = 0 := by omega
        have w2 : W % b = 0 := by omega
        have okx : Bok H W a b ⟨0, 0, p.1 * a, W, true⟩ := ⟨by simp only; omega, by simp, Nat.mul_mod_left _ _, w2⟩
        have oky : Bok H W a b ⟨p.1 * a, 0, p.2 * b, W, false⟩ := ⟨by simp only; omega, by simp, Nat.mul_mod_left _ _, w1⟩
        refine ⟨_, _, _, rfl, rfl, fun z hz => ?_, okx, oky, fun r hr c hc => ?_⟩
        · simp only [List.mem_cons, List.not_mem_nil, or_false] at hz
          rcases hz with rfl | rfl <;> assumption
        · unfold inBk
          simp only
          omega
section
variable {F k : Nat} {C : List Orc} {h : Hq}
/-- a filling is told, and it is right -/
theorem c_fill {H W a b : Nat} (s : Small H W a b) (hF : 1000000 ≤ F) (hb : barOf H W a b = none) : ∃ f : Nat → Nat → Nat, rightB (tabN H W f) H W a b = true ∧ ∀ h : Hq, callR F (O F (k + 4)) f_filling [V H, V W, V a, V b] h = .ok (.d (TT (tabN H W f))) h := by
  have bx : boxB H W a b = true := by
    have := fin4 (p := fun H W a b => (barOf H W a b).isSome || boxB H W a b) box_fin s
    simpa [hb] using this
  obtain ⟨bs, x, y, e1, e2, e3, tw⟩ := blk_two s.a0 s.b0 bx
  refine ⟨numF a b x y, two_right s.a0 s.b0 tw, fun h => ?_⟩
  rw [c_filling (s.rg hF) (by have := s.H1; omega) (by have := s.W1; omega) hb e1 e3, e2]
  congr 2
  unfold TT tabN
  rw [List.map_map]
  congr 1
  refine List.map_congr_left fun r hr => ?_
  have hr := List.mem_range.mp hr
  show PyData.tuple _ = PyData.tuple _
  congr 1
  unfold tbD tb
  rw [List.map_map]
  refine List.map_congr_left fun c hc => ?_
  have hc := List.mem_range.mp hc
  have := tw.cv r hr c hc
  exact fill_num s.a0 s.b0 tw.kx tw.ky (by rcases this with ⟨h1, _⟩ | ⟨h1, _⟩; exact .inl h1; exact .inr h1)
/-- a barred box is missing -/
theorem x_fill {H W a b : Nat} {x : Str × Nat} (z : Rg F H W a b) (hb : barOf H W a b = some x) : callR F (O F (k + 4)) f_filling [V H, V W, V a, V b] h = .er ⟨2, none⟩ h := by
  refine call_pe (ds := [.int H, .int W, .int a, .int b]) (h1 := []) rfl rfl ?_
  have cf := c_can (F := F) (k := k) (h := []) z
  rw [hb] at cf
  simp only [Ip.run, f_filling, b_filling, ex_val, srcV_t, srcV_l, e_ofL, List.map_cons, List.map_nil, List.replicate, List.cons_append, List.nil_append, List.append_nil, xs_cons, xs_nil, x_set, x_exp, x_iff, x_ret, x_for, x_asg, cnd, tst, turnV, bdy, bindT_nm, es_cons, es_nil, e_var, e_lit, e_cmp, e_bin, e_and, e_or, e_not, e_tup, e_prm, e_ix, prmV_1, prm_int, List.getElem?_cons_zero, List.getElem?_cons_succ, R.bind_ok, R.thn_ok, List.set, RF.thn_nx, thn_rt, RF.turn_nx, turn_rt, binA_i, binV_d, binD_add, binD_sub, cmpV_d, cmpD_eqi, cmpD_nei, cmpD_le, cmpD_lt, cmpD_ge, cmpD_gt, tru_b, toDs_cons, toDs_nil, toD_d, if_true, if_false, Bool.false_eq_true, Bool.not_true, Bool.not_false, decide_true, decide_false, ev_call, and_true, true_and, and_false, false_and, not_true_eq_false, not_false_eq_true, ne_eq, t_5, cf, Option.isNone_some, x_rse, thn_er]
/-- a great box is not shown -/
theorem g_fill {H W a b : Nat} (z : Rg F H W a b) (hb : barOf H W a b = none) (hH : 60 < H) : callR F (O F (k + 4)) f_filling [V H, V W, V a, V b] h = .er ⟨1, none⟩ h := by
  refine call_pe (ds := [.int H, .int W, .int a, .int b]) (h1 := []) rfl rfl ?_
  have cf := c_can (F := F) (k := k) (h := []) z
  rw [hb] at cf
  have h60 : (60 : Int) < (H : Int) := by omega
  simp only [Ip.run, f_filling, b_filling, ex_val, srcV_t, srcV_l, e_ofL, List.map_cons, List.map_nil, List.replicate, List.cons_append, List.nil_append, List.append_nil, xs_cons, xs_nil, x_set, x_exp, x_iff, x_ret, x_for, x_asg, cnd, tst, turnV, bdy, bindT_nm, es_cons, es_nil, e_var, e_lit, e_cmp, e_bin, e_and, e_or, e_not, e_tup, e_prm, e_ix, prmV_1, prm_int, List.getElem?_cons_zero, List.getElem?_cons_succ, R.bind_ok, R.thn_ok, List.set, RF.thn_nx, thn_rt, RF.turn_nx, turn_rt, binA_i, binV_d, binD_add, binD_sub, cmpV_d, cmpD_eqi, cmpD_nei, cmpD_le, cmpD_lt, cmpD_ge, cmpD_gt, tru_b, toDs_cons, toDs_nil, toD_d, if_true, if_false, Bool.false_eq_true, Bool.not_true, Bool.not_false, decide_true, decide_false, ev_call, and_true, true_and, and_false, false_and, not_true_eq_false, not_false_eq_true, ne_eq, t_5, cf, Option.isNone_none, e_or, h60, x_rse, thn_er]
end
end K12

set_option linter.all false
set_option Elab.async false
set_option autoImplicit false
set_option maxRecDepth 100000
namespace K12
open PySem Ip
/-! ### the search for a filling -/
def minN : Nat → List Nat → Nat
  | m, [] => m
  | m, x :: r => minN (if x < m then x else m) r
def maxN : Nat → List Nat → Nat
  | m, [] => m
  | m, x :: r => maxN (if x > m then x else m) r
def lowF : Stt → Nat
  | [] => 0
  | x :: r => minN x r
def topF : Stt → Nat
  | [] => 0
  | x :: r => maxN x r
def colF (f : Stt) : Nat := (f.findIdx? (· == lowF f)).getD 0
def stepF (H W : Nat) (f : Stt) (m n : Nat) : Option Stt :=
  if lowF f + m ≤ H ∧ colF f + n ≤ W ∧ topF ((f.drop (colF f)).take n) = lowF f then some (f.take (colF f) ++ List.replicate n (lowF f + m) ++ f.drop (colF f + n)) else none
def addS (x : List Stt × List Stt) : Option Stt → List Stt × List Stt
  | some s => if s ∈ x.2 then x else (x.1 ++ [s], x.2 ++ [s])
  | none => x
def sumF (f : Stt) : Nat := f.sum
def nextS (H W a b : Nat) (f : Stt) (x : List Stt × List Stt) : List Stt × List Stt := addS (addS x (stepF H W f a b)) (stepF H W f b a)
def srch (H W a b : Nat) : Nat → List Stt × List Stt → Option Bool
  | 0, _ => none
  | n + 1, x => match x.1.getLast? with
    | none => some false
    | some f => if sumF f = H * W then some true else srch H W a b n (nextS H W a b f (x.1.dropLast, x.2))
/-! ### as they lie -/
theorem minI_N : ∀ (r : List Nat) (m : Nat), minI (m : Int) (si r) = (minN m r : Int)
  | [], m => rfl
  | x :: r, m => by
    show minI (if (x : Int) < (m : Int) then (x : Int) else (m : Int)) (si r) = (minN (if x < m then x else m) r : Int)
    rw [← minI_N r]
    congr 1
    by_cases h : x < m
    · rw [if_pos h, if_pos (by omega)]
    · rw [if_neg h, if_neg (by omega)]
theorem maxI_N : ∀ (r : List Nat) (m : Nat), maxI (m : Int) (si r) = (maxN m r : Int)
  | [], m => rfl
  | x :: r, m => by
    show maxI (if (x : Int) > (m : Int) then (x : Int) else (m : Int)) (si r) = (maxN (if x > m then x else m) r : Int)
    rw [← maxI_N r]
    congr 1
    by_cases h : x > m
    · rw [if_pos h, if_pos (by omega)]
    · rw [if_neg h, if_neg (by omega)]
theorem sumI_N : ∀ r : List Nat, sumI (si r) = (sumF r : Int)
  | [] => rfl
  | x :: r => by
    show (x : Int) + sumI (si r) = ((x + r.sum : Nat) : Int)
    rw [sumI_N r]
    unfold sumF
    omega
theorem find_si (p : Stt) (m : Nat) : (si p).findIdx? (· == (m : Int)) = p.findIdx? (· == m) := by
  unfold si
  rw [List.findIdx?_map]
  congr 1
  funext x
  show (((x : Nat) : Int) == (m : Int)) = (x == m)
  by_cases z : x = m
  · subst z; simp
  · have a : ((x : Int) == (m : Int)) = false := by simpa using (by omega : ¬ (x : Int) = (m : Int))
    have b : (x == m) = false := by simpa using z
    rw [a, b]
theorem minN_mem : ∀ (r : List Nat) (m : Nat), minN m r ∈ m :: r
  | [], m => by simp [minN]
  | x :: r, m => by
    have := minN_mem r (if x < m then x else m)
    show minN (if x < m then x else m) r ∈ _
    rcases List.mem_cons.mp this with h | h
    · rw [h]
      split <;> simp
    · simp [h]
theorem minN_le : ∀ (r : List Nat) (m : Nat), minN m r ≤ m ∧ ∀ x ∈ r, minN m r ≤ x
  | [], m => ⟨Nat.le_refl _, fun x hx => by cases hx⟩
  | x :: r, m => by
    obtain ⟨h1, h2⟩ := minN_le r (if x < m then x else m)
    have e : minN m (x :: r) = minN (if x < m then x else m) r := rfl
    rw [e]
    have : (if x < m then x else m) ≤ m ∧ (if x < m then x else m) ≤ x := by split <;> omega
    refine ⟨by omega, fun y hy => ?_⟩
    rcases List.mem_cons.mp hy with rfl | hy
    · omega
    · exact h2 y hy
theorem maxN_le : ∀ (r : List Nat) (m : Nat), m ≤ maxN m r ∧ ∀ x ∈ r, x ≤ maxN m r
  | [], m => ⟨Nat.le_refl _, fun x hx => by cases hx⟩
  | x :: r, m => by
    obtain ⟨h1, h2⟩ := maxN_le r (if x > m then x else m)
    have e : maxN m (x :: r) = maxN (if x > m then x else m) r := rfl
    rw [e]
    have : m ≤ (if x > m then x else m) ∧ x ≤ (if x > m then x else m) := by split <;> omega
    refine ⟨by omega, fun y hy => ?_⟩
    rcases List.mem_cons.mp hy with rfl | hy
    · omega
    · exact h2 y hy
theorem low_mem {f : Stt} (h : f ≠ []) : lowF f ∈ f := by
  cases f with
  | nil => exact absurd rfl h
  | cons x r => exact minN_mem r x
theorem low_le {f : Stt} {x : Nat} (h : x ∈ f) : lowF f ≤ x := by
  cases f with
  | nil => cases h
  | cons y r =>
    rcases List.mem_cons.mp h with rfl | h
    · exact (minN_le r _).1
    · exact (minN_le r y).2 x h
theorem top_ge {f : Stt} {x : Nat} (h : x ∈ f) : x ≤ topF f := by
  cases f with
  | nil => cases h
  | cons y r =>
    rcases List.mem_cons.mp h with rfl | h
    · exact (maxN_le r _).1
    · exact (maxN_le r y).2 x h
theorem col_is {f : Stt} (h : f ≠ []) : f.findIdx? (· == lowF f) = some (colF f) ∧ ∃ hc : colF f < f.length, f[colF f] = lowF f := by
  unfold colF
  cases e : f.findIdx? (· == lowF f) with
  | none =>
    have := List.findIdx?_eq_none_iff.mp e (lowF f) (low_mem h)
    simp at this
  | some i =>
    obtain ⟨h1, h2, _⟩ := List.findIdx?_eq_some_iff_getElem.mp e
    exact ⟨rfl, h1, by simpa using h2⟩
theorem lay_ints : ∀ p : Stt, PyData.canLayAll0 ((si p).map .int) = true ∧ PyData.depthAll ((si p).map .int) = 0
  | [] => ⟨rfl, rfl⟩
  | x :: p => by
    have ih := lay_ints p
    exact ⟨by show (true && _) = true; rw [Bool.true_and]; exact ih.1, by show max 0 _ = 0; rw [Nat.zero_max]; exact ih.2⟩
theorem lay_sts : ∀ ps : List Stt, PyData.canLayAll0 (ps.map pD) = true ∧ PyData.depthAll (ps.map pD) ≤ 1
  | [] => ⟨rfl, Nat.zero_le _⟩
  | p :: ps => by
    have a := lay_ints p
    have ih := lay_sts ps
    refine ⟨by show (PyData.canLayAll0 ((si p).map .int) && _) = true; rw [a.1, Bool.true_and]; exact ih.1, ?_⟩
    show max (PyData.depthAll ((si p).map .int) + 1) _ ≤ 1
    rw [a.2]
    exact Nat.max_le.mpr ⟨by omega, ih.2⟩
theorem cut_mid {α : Type} {xs : List α} {d n : Nat} (h : d + n ≤ xs.length) : cutD xs (some (d : Int)) (some ((d + n : Nat) : Int)) = (xs.drop d).take n := by
  unfold cutD cutIx
  simp only
  rw [if_neg (by omega), if_neg (by omega)]
  have e1 : min (d : Int).toNat xs.length = d := by omega
  have e2 : min ((d + n : Nat) : Int).toNat xs.length = d + n := by omega
  rw [e1, e2, show d + n - d = n by omega]
theorem cut_end {α : Type} {xs : List α} {d : Nat} (h : d ≤ xs.length) : cutD xs (some (d : Int)) none = xs.drop d := by
  unfold cutD cutIx
  simp only
  rw [if_neg (by omega)]
  have e1 : min (d : Int).toNat xs.length = d := by omega
  rw [e1]
  exact List.take_of_length_le (by rw [List.length_drop]; omega)
section
variable {F k : Nat} {C : List Orc} {h : Hq}
theorem eq_nil {h : Hq} {l : Nat} {line : List Stt} (e : h[l]? = some (obj (line.map pD))) : cmpV .eq (.ref l) (.d (.list [])) h = .ok line.isEmpty h := by
  have pk1 := peek_obj e
  have sh : SeqAt.shaped (.list (line.map pD)) = true := by
    have a := lay_sts line
    unfold SeqAt.shaped
    show (PyData.canLayAll0 (line.map pD) && decide (PyData.depthAll (line.map pD) + 1 ≤ 64)) = true
    rw [a.1, Bool.true_and]
    exact decide_eq_true (by omega)
  have c : cmpD .eq (.list (line.map pD)) (.list []) = some line.isEmpty := by
    show (if SeqAt.shaped (.list (line.map pD)) && SeqAt.shaped (.list []) then some (PyData.eqv (.list (line.map pD)) (.list [])) else none) = _
    rw [sh]
    cases line <;> rfl
  unfold cmpV
  simp only [show dct h (.d (.list [])) = none from rfl]
  unfold cmpW
  simp only [peek_d, pk1, c]
theorem dct_kn {h : Hq} {kn : Nat} {known : List Stt} (e : h[kn]? = some (.dct (.t (kvK known)))) : dct h (.ref kn) = some (.t (kvK known)) := by unfold dct; simp only [e]
theorem nin_kn {h : Hq} {kn : Nat} {known : List Stt} {s : Stt} (e : h[kn]? = some (.dct (.t (kvK known)))) : cmpV .nin (.d (pD s)) (.ref kn) h = .ok (!decide (s ∈ known)) h := by
  have k : keyT (pD s) = some (kz s) := keyT_p s
  unfold cmpV
  simp only [dct_kn e]
  unfold dinV Dc.get
  simp only [k, Option.map_some, look_kvK, R.bind_ok]
  by_cases z : s ∈ known <;> simp [z]
theorem set_kn {h : Hq} {kn : Nat} {known : List Stt} {s : Stt} (e : h[kn]? = some (.dct (.t (kvK known)))) (hs : s ∉ known) (hl : known.length < 16000000) : setV (.ref kn) (.d (pD s)) (.d (.bool true)) h = .ok () (h.set kn (.dct (.t (kvK (known ++ [s]))))) := by
  have k : keyT (pD s) = some (kz s) := keyT_p s
  have l1 : (kvK known).length < 16777216 := by unfold kvK; rw [List.length_map]; omega
  unfold setV
  simp only [dct_kn e]
  unfold setD
  simp only [e]
  unfold Dc.put
  simp only [k, l1, if_true, stor_kvK hs]
/-- the floors, what is known -/
abbrev HL (line known : List Stt) : Hq := [obj (line.map pD), .dct (.t (kvK known))]
abbrev fl (f : Stt) : List D := (si f).map .int
def gB1 : List Ip.St := [.iff (.and_ (.cmp .le (.bin .add (.var 9) (.var 11)) (.var 0)) (.and_ (.cmp .le (.bin .add (.var 10) (.var 12)) (.var 1)) (.cmp .eq (.prm .max1 [(.slc (.var 8) (some (.var 10)) (some (.bin .add (.var 10) (.var 12))))]) (.var 9))))
           [.set 13 (.tupO (.ofL (.cat (.ofL (.cat (.slc (.var 8) none (some (.var 10))) (.ofL (.rep (.dsp [(.bin .add (.var 9) (.var 11))]) (.var 12))))) (.slc (.var 8) (some (.bin .add (.var 10) (.var 12))) none)))),
            .iff (.cmp .nin (.var 13) (.var 6))
              [.six (.var 6) (.var 13) (.lit (.bool true)),
               .exp (.app (.var 5) (.var 13))]
              []]
           []]
abbrev σg (H W : Nat) (f : Stt) (c2 c3 c4 c7 c11 c12 c13 : Option Val) : Sg := [some (V H), some (V W), c2, c3, c4, some (.ref 0), some (.ref 1), c7, some (.d (.list (fl f))), some (V (lowF f)), some (V (colF f)), c11, c12, c13]
theorem g_step {H W m n : Nat} {f : Stt} {line known : List Stt} {c2 c3 c4 c7 c11 c12 c13 : Option Val} (hf : f.length = W) (hW : W ≤ 1000) (hW0 : 0 < W) (hn : 0 < n) (b1 : line.length < 16000000) (b2 : known.length < 16000000) :
    ∃ c13', turnV (.tp [11, 12]) (bdy F C gB1) (.d (.tuple [.int (m : Int), .int (n : Int)])) (σg H W f c2 c3 c4 c7 c11 c12 c13) (HL line known) =
      .ok (.nx (σg H W f c2 c3 c4 c7 (some (V m)) (some (V n)) c13')) (HL (addS (line, known) (stepF H W f m n)).1 (addS (line, known) (stepF H W f m n)).2) := by
  have a1 : ((lowF f : Nat) : Int) + (m : Int) = ((lowF f + m : Nat) : Int) := by omega
  have a2 : ((colF f : Nat) : Int) + (n : Int) = ((colF f + n : Nat) : Int) := by omega
  have ne : f ≠ [] := fun z => by subst z; simp at hf; omega
  obtain ⟨_, hc, _⟩ := col_is ne
  have lenf : (fl f).length = W := by unfold fl si; rw [List.length_map, List.length_map, hf]
  have d1 : decide (((lowF f + m : Nat) : Int) ≤ (H : Int)) = decide (lowF f + m ≤ H) := decide_eq_decide.mpr (by omega)
  have d2 : decide (((colF f + n : Nat) : Int) ≤ (W : Int)) = decide (colF f + n ≤ W) := decide_eq_decide.mpr (by omega)
  have tb : turnV (.tp [11, 12]) (bdy F C gB1) (.d (.tuple [.int (m : Int), .int (n : Int)])) (σg H W f c2 c3 c4 c7 c11 c12 c13) (HL line known) = bdy F C gB1 (σg H W f c2 c3 c4 c7 (some (V m)) (some (V n)) c13) (HL line known) := by
    unfold turnV
    simp only [bindT_2, σg, List.set_cons_succ, List.set_cons_zero]
  rw [tb]
  unfold bdy gB1
  rw [xs_cons, x_iff]
  by_cases h1 : lowF f + m ≤ H
  · by_cases h2 : colF f + n ≤ W
    · have cm := cut_mid (xs := fl f) (d := colF f) (n := n) (by rw [lenf]; exact h2)
      have e3 : ((fl f).drop (colF f)).take n = fl ((f.drop (colF f)).take n) := by
        unfold fl si
        rw [← List.map_drop, ← List.map_drop, ← List.map_take, ← List.map_take]
      rw [e3] at cm
      have mx : prmD .max1 [.list (fl ((f.drop (colF f)).take n))] = some (.int (topF ((f.drop (colF f)).take n) : Int)) := by
        have hne : (f.drop (colF f)).take n ≠ [] := fun z => by
          have := congrArg List.length z
          rw [List.length_take, List.length_drop] at this
          simp at this
          omega
        obtain ⟨x, r, hx⟩ := List.exists_cons_of_ne_nil hne
        rw [hx]
        show (match intsOf (fl (x :: r)) with | some (n :: ns) => some (PyData.int (maxI n ns)) | _ => none) = _
        have : intsOf (fl (x :: r)) = some ((x : Int) :: si r) := ints_map' (si (x :: r))
        rw [this]
        show some (PyData.int (maxI (x : Int) (si r))) = _
        rw [maxI_N]; rfl
      have cn : cnd F C (.and_ (.cmp .le (.bin .add (.var 9) (.var 11)) (.var 0)) (.and_ (.cmp .le (.bin .add (.var 10) (.var 12)) (.var 1)) (.cmp .eq (.prm .max1 [(.slc (.var 8) (some (.var 10)) (some (.bin .add (.var 10) (.var 12))))]) (.var 9)))) (σg H W f c2 c3 c4 c7 (some (V m)) (some (V n)) c13) (HL line known) = .ok (decide (topF ((f.drop (colF f)).take n) = lowF f)) (HL line known) := by
        unfold cnd tst
        simp only [σg, e_and, e_cmp, e_bin, e_prm, es_cons, es_nil, e_slc, eo_some, e_var, List.getElem?_cons_zero, List.getElem?_cons_succ, R.bind_ok, binA_i, binV_d, binD_add, a1, a2, cmpV_d, cmpD_le, d1, d2, h1, h2, decide_true, tru_b, if_true, intV_i, slcV_l, cm, prmV_1, mx, cmpD_eqi, dec_nat]
      rw [cn]
      by_cases h3 : topF ((f.drop (colF f)).take n) = lowF f
      · have st : stepF H W f m n = some (f.take (colF f) ++ List.replicate n (lowF f + m) ++ f.drop (colF f + n)) := if_pos ⟨h1, h2, h3⟩
        rw [st, decide_eq_true h3]
        generalize hs : f.take (colF f) ++ List.replicate n (lowF f + m) ++ f.drop (colF f + n) = s
        have ct := cut_take (xs := fl f) (d := colF f) (by rw [lenf]; omega)
        have ce := cut_end (xs := fl f) (d := colF f + n) (by rw [lenf]; exact h2)
        have rr := okR n (by omega)
        have f1 : fits 1 = true := by decide
        have f2 : fits n = true := fits_le (by omega)
        have er : (List.replicate n [Val.d (.int ((lowF f + m : Nat) : Int))]).flatten = (List.replicate n (PyData.int ((lowF f + m : Nat) : Int))).map .d := by rw [rep_flat, List.map_replicate]
        have cl : ∀ (xs ys : List D) (h : Hq), xs.length + ys.length ≤ 16777216 → catL (.d (.list xs)) (.d (.list ys)) h = .ok ((xs ++ ys).map .d) h := fun xs ys h hl => by
          show (if fits ((xs.map Val.d).length + (ys.map Val.d).length) then R.ok (xs.map Val.d ++ ys.map Val.d) h else .no) = _
          rw [List.length_map, List.length_map, fits_le hl, List.map_append]; rfl
        have l1 : ((fl f).take (colF f)).length ≤ 1000 := by rw [List.length_take]; omega
        have l2 : ((fl f).drop (colF f + n)).length ≤ 1000 := by rw [List.length_drop]; omega
        have c1 := fun h => cl ((fl f).take (colF f)) (List.replicate n (PyData.int ((lowF f + m : Nat) : Int))) h (by rw [List.length_replicate]; omega)
        have c2' := fun h => cl ((fl f).take (colF f) ++ List.replicate n (PyData.int ((lowF f + m : Nat) : Int))) ((fl f).drop (colF f + n)) h (by rw [List.length_append, List.length_replicate]; omega)
        have es : PyData.tuple ((fl f).take (colF f) ++ List.replicate n (PyData.int ((lowF f + m : Nat) : Int)) ++ (fl f).drop (colF f + n)) = pD s := by
          rw [← hs]
          unfold pD tupI fl si
          simp only [List.map_append, List.map_take, List.map_drop, List.map_replicate]
        have tv : ∀ (xs : List D) (h : Hq), tupV (.d (.list xs)) h = .ok (.d (.tuple xs)) h := fun xs h => by
          show ((toDs (xs.map Val.d) h).bind fun ds h1 => R.ok (Val.d (.tuple ds)) h1) = _
          rw [toDs_map]; rfl
        have ev1 : ev F C (.tupO (.ofL (.cat (.ofL (.cat (.slc (.var 8) none (some (.var 10))) (.ofL (.rep (.dsp [(.bin .add (.var 9) (.var 11))]) (.var 12))))) (.slc (.var 8) (some (.bin .add (.var 10) (.var 12))) none)))) (σg H W f c2 c3 c4 c7 (some (V m)) (some (V n)) c13) (HL line known) = .ok (.d (pD s)) (HL line known) := by
          simp only [σg, e_tupO, e_ofL, el_cat, e_slc, eo_none, eo_some, el_rep, el_dsp, es_cons, es_nil, e_bin, e_var, List.getElem?_cons_zero, List.getElem?_cons_succ, R.bind_ok, binA_i, binV_d, binD_add, a1, a2, intV_i, slcV_l, ct, ce, List.length_cons, List.length_nil, Nat.zero_add, f1, if_true, repL, rr, Int.toNat_natCast, Nat.one_mul, f2, Bool.and_self, er, toDs_map, c1, c2', tv, es]
        have nk := nin_kn (h := HL line known) (kn := 1) (s := s) rfl
        have cn2 : cnd F C (.cmp .nin (.var 13) (.var 6)) (σg H W f c2 c3 c4 c7 (some (V m)) (some (V n)) (some (.d (pD s)))) (HL line known) = .ok (!decide (s ∈ known)) (HL line known) := by
          unfold cnd tst
          simp only [σg, e_cmp, e_var, List.getElem?_cons_zero, List.getElem?_cons_succ, R.bind_ok, nk, tru_b]
        refine ⟨some (.d (pD s)), ?_⟩
        simp only [R.thn_ok, if_true, xs_cons, x_set]
        rw [ev1]
        simp only [R.thn_ok, RF.thn_nx, σg, List.set_cons_zero, List.set_cons_succ, x_iff]
        rw [show cnd F C (.cmp .nin (.var 13) (.var 6)) _ _ = _ from cn2]
        by_cases hm : s ∈ known
        · have ad : addS (line, known) (some s) = (line, known) := by unfold addS; exact if_pos hm
          rw [ad, decide_eq_true hm]
          simp only [R.thn_ok, Bool.not_true, Bool.false_eq_true, if_false, xs_nil, RF.thn_nx]
        · have ad : addS (line, known) (some s) = (line ++ [s], known ++ [s]) := by unfold addS; exact if_neg hm
          rw [ad, decide_eq_false hm]
          have sk := set_kn (h := HL line known) (kn := 1) (s := s) rfl hm b2
          have sk2 : (HL line known).set 1 (.dct (.t (kvK (known ++ [s])))) = HL line (known ++ [s]) := rfl
          rw [sk2] at sk
          have lv : lstV (.ref 0) (HL line (known ++ [s])) = .ok () (HL line (known ++ [s])) := lstV_obj rfl
          have av := appV_obj (h := HL line (known ++ [s])) (n := 0) (pD s) rfl (by rw [List.length_map]; omega)
          have av2 : (HL line (known ++ [s])).set 0 (obj (line.map pD ++ [pD s])) = HL (line ++ [s]) (known ++ [s]) := by
            show [obj (line.map pD ++ [pD s]), _] = [obj ((line ++ [s]).map pD), _]
            rw [List.map_append]; rfl
          rw [av2] at av
          simp only [R.thn_ok, Bool.not_false, if_true, xs_cons, xs_nil, x_six, x_exp, e_lit, e_app, e_var, List.getElem?_cons_zero, List.getElem?_cons_succ, R.bind_ok, sk, lv, av, RF.thn_nx]
      · have st : stepF H W f m n = none := if_neg fun z => h3 z.2.2
        rw [st, decide_eq_false h3]
        exact ⟨c13, by simp only [R.thn_ok, Bool.false_eq_true, if_false, xs_nil, RF.thn_nx, addS]⟩
    · have st : stepF H W f m n = none := if_neg fun z => h2 z.2.1
      rw [st]
      refine ⟨c13, ?_⟩
      unfold cnd tst
      simp only [σg, e_and, e_cmp, e_bin, e_var, List.getElem?_cons_zero, List.getElem?_cons_succ, R.bind_ok, binA_i, binV_d, binD_add, a1, a2, cmpV_d, cmpD_le, d1, d2, h1, h2, decide_true, decide_false, tru_b, if_true, if_false, Bool.false_eq_true, R.thn_ok, xs_nil, RF.thn_nx, addS]
  · have st : stepF H W f m n = none := if_neg fun z => h1 z.1
    rw [st]
    refine ⟨c13, ?_⟩
    unfold cnd tst
    simp only [σg, e_and, e_cmp, e_bin, e_var, List.getElem?_cons_zero, List.getElem?_cons_succ, R.bind_ok, binA_i, binV_d, binD_add, a1, cmpV_d, cmpD_le, d1, h1, decide_false, tru_b, if_false, Bool.false_eq_true, R.thn_ok, xs_nil, RF.thn_nx, addS]
end
end K12

set_option linter.all false
set_option Elab.async false
set_option autoImplicit false
set_option maxRecDepth 100000
namespace K12
open PySem Ip
theorem step_len {H W m n : Nat} {f s : Stt} (hf : f.length = W) (hW : 0 < W) (h : stepF H W f m n = some s) : s.length = W := by
  unfold stepF at h
  split at h
  · rename_i c
    cases h
    have ne : f ≠ [] := fun z => by subst z; simp at hf; omega
    obtain ⟨_, hc, _⟩ := col_is ne
    rw [List.length_append, List.length_append, List.length_take, List.length_replicate, List.length_drop]
    omega
  · cases h
theorem add_ok {W : Nat} {x : List Stt × List Stt} {o : Option Stt} (hx : ∀ s ∈ x.1, s.length = W) (ho : ∀ s, o = some s → s.length = W) : (∀ s ∈ (addS x o).1, s.length = W) ∧ (addS x o).1.length ≤ x.1.length + 1 ∧ (addS x o).2.length ≤ x.2.length + 1 := by
  cases o with
  | none => exact ⟨hx, Nat.le_succ _, Nat.le_succ _⟩
  | some s =>
    unfold addS
    simp only
    split
    · exact ⟨hx, Nat.le_succ _, Nat.le_succ _⟩
    · refine ⟨fun t ht => ?_, by simp, by simp⟩
      rcases List.mem_append.mp ht with ht | ht
      · exact hx t ht
      · rw [List.mem_singleton.mp ht]
        exact ho s rfl
section
variable {F k : Nat} {C : List Orc} {h : Hq}
def gB : List Ip.St := [.iff (.cmp .eq (.var 5) (.ofL (.dsp []))) [.ret (.lit (.bool false))] [],
      .set 8 (.ofL (.lst (.pop (.var 5)))),
      .iff (.cmp .eq (.prm .sum [(.var 8)]) (.var 4)) [.ret (.lit (.bool true))] [],
      .set 9 (.prm .min1 [(.var 8)]),
      .set 10 (.lidx (.var 8) (.var 9)),
      .for_ (.tp [11, 12]) (.val (.ofL (.dsp [(.tup [(.var 2), (.var 3)]), (.tup [(.var 3), (.var 2)])]))) gB1]
abbrev σh (H W a b : Nat) (c7 c8 c9 c10 c11 c12 c13 : Option Val) : Sg := [some (V H), some (V W), some (V a), some (V b), some (V (H * W)), some (.ref 0), some (.ref 1), c7, c8, c9, c10, c11, c12, c13]
theorem g_nil {H W a b : Nat} {known : List Stt} {v : Val} {c7 c8 c9 c10 c11 c12 c13 : Option Val} : turnV (.nm 7) (bdy F C gB) v (σh H W a b c7 c8 c9 c10 c11 c12 c13) (HL [] known) = .ok (.rt (.d (.bool false))) (HL [] known) := by
  have en := eq_nil (h := HL [] known) (l := 0) (line := []) rfl
  have f0 : fits 0 = true := by decide
  unfold turnV
  simp only [bindT_nm, σh, List.set_cons_zero, List.set_cons_succ]
  unfold bdy gB
  simp only [xs_cons, x_iff, cnd, tst, e_cmp, e_ofL, el_dsp, es_nil, List.length_nil, f0, if_true, toDs_nil, e_var, List.getElem?_cons_zero, List.getElem?_cons_succ, R.bind_ok, en, List.isEmpty_nil, tru_b, R.thn_ok, x_ret, e_lit, thn_rt]
theorem g_turn {H W a b : Nat} {line known : List Stt} {f : Stt} {v : Val} {c7 c8 c9 c10 c11 c12 c13 : Option Val} (hl : line.getLast? = some f) (hf : f.length = W) (hW : W ≤ 1000) (hW0 : 0 < W) (a0 : 0 < a) (b0 : 0 < b) (b1 : line.length < 15000000) (b2 : known.length < 15000000) (hx : ∀ s ∈ line, s.length = W) :
    (sumF f = H * W → ∃ h', turnV (.nm 7) (bdy F C gB) v (σh H W a b c7 c8 c9 c10 c11 c12 c13) (HL line known) = .ok (.rt (.d (.bool true))) h') ∧
    (sumF f ≠ H * W → ∃ d7 d8 d9 d10 d11 d12 d13, turnV (.nm 7) (bdy F C gB) v (σh H W a b c7 c8 c9 c10 c11 c12 c13) (HL line known) = .ok (.nx (σh H W a b d7 d8 d9 d10 d11 d12 d13)) (HL (nextS H W a b f (line.dropLast, known)).1 (nextS H W a b f (line.dropLast, known)).2)) := by
  have ne : f ≠ [] := fun z => by subst z; simp at hf; omega
  have en := eq_nil (h := HL line known) (l := 0) (line := line) rfl
  have em : line.isEmpty = false := by cases line with | nil => cases hl | cons _ _ => rfl
  rw [em] at en
  have f0 : fits 0 = true := by decide
  have f2 : fits 2 = true := by decide
  have pv : popV (.ref 0) (HL line known) = .ok (.d (pD f)) (HL line.dropLast known) := by
    have e1 : ((line.map pD).map Val.d).getLast? = some (.d (pD f)) := by rw [List.getLast?_map, List.getLast?_map, hl]; rfl
    have e2 : ((line.map pD).map Val.d).dropLast = (line.dropLast.map pD).map Val.d := by rw [← List.map_dropLast, ← List.map_dropLast]
    unfold popV
    simp only [List.getElem?_cons_zero, obj, e1, e2]
    rfl
  have el : ∀ h, els h (.d (pD f)) = some ((fl f).map .d) := fun h => rfl
  have sm : prmD .sum [.list (fl f)] = some (.int (sumF f : Int)) := by
    show (intsOf (fl f)).map (fun ns => PyData.int (sumI ns)) = _
    rw [show intsOf (fl f) = some (si f) from ints_map' (si f), Option.map_some, sumI_N]
  have mn : prmD .min1 [.list (fl f)] = some (.int (lowF f : Int)) := by
    obtain ⟨x, r, hx⟩ := List.exists_cons_of_ne_nil ne
    rw [hx]
    show (match intsOf (fl (x :: r)) with | some (n :: ns) => some (PyData.int (minI n ns)) | _ => none) = _
    have : intsOf (fl (x :: r)) = some ((x : Int) :: si r) := ints_map' (si (x :: r))
    rw [this]
    show some (PyData.int (minI (x : Int) (si r))) = _
    rw [minI_N]; rfl
  have li : ∀ h, ((R.ok (Val.d (.list (fl f))) h).bind fun x h1 => (R.of (elsL h1 x) h1).bind fun _ h1 => (R.ok (V (lowF f)) h1).bind fun y h2 => lidxV x y h2) = .ok (V (colF f)) h := fun h => by
    have e1 : elsL h (.d (.list (fl f))) = some ((fl f).map .d) := rfl
    simp only [R.bind_ok, e1, R.of_some]
    unfold lidxV
    simp only [e1, dats_map]
    rw [show intsOf (fl f) = some (si f) from ints_map' (si f)]
    simp only [find_si, (col_is ne).1]
  have cn1 : cnd F C (.cmp .eq (.var 5) (.ofL (.dsp []))) (σh H W a b (some v) c8 c9 c10 c11 c12 c13) (HL line known) = .ok false (HL line known) := by
    unfold cnd tst
    simp only [σh, e_cmp, e_ofL, el_dsp, es_nil, List.length_nil, f0, if_true, toDs_nil, e_var, List.getElem?_cons_zero, List.getElem?_cons_succ, R.bind_ok, en, tru_b]
  have s8 : ev F C (.ofL (.lst (.pop (.var 5)))) (σh H W a b (some v) c8 c9 c10 c11 c12 c13) (HL line known) = .ok (.d (.list (fl f))) (HL line.dropLast known) := by
    simp only [σh, e_ofL, el_lst, e_pop, e_var, List.getElem?_cons_zero, List.getElem?_cons_succ, R.bind_ok, pv, el, toDs_map]
  have cn2 : cnd F C (.cmp .eq (.prm .sum [(.var 8)]) (.var 4)) (σh H W a b (some v) (some (.d (.list (fl f)))) c9 c10 c11 c12 c13) (HL line.dropLast known) = .ok (decide (sumF f = H * W)) (HL line.dropLast known) := by
    unfold cnd tst
    simp only [σh, e_cmp, e_prm, es_cons, es_nil, e_var, List.getElem?_cons_zero, List.getElem?_cons_succ, R.bind_ok, prmV_1, sm, cmpV_d, cmpD_eqi, dec_nat, tru_b]
  have t0 : turnV (.nm 7) (bdy F C gB) v (σh H W a b c7 c8 c9 c10 c11 c12 c13) (HL line known) = bdy F C gB (σh H W a b (some v) c8 c9 c10 c11 c12 c13) (HL line known) := rfl
  rw [t0]
  unfold bdy gB
  rw [xs_cons, x_iff, cn1]
  simp only [R.thn_ok, Bool.false_eq_true, if_false, xs_nil, RF.thn_nx]
  rw [xs_cons, x_set, s8]
  simp only [R.thn_ok, RF.thn_nx]
  rw [show (σh H W a b (some v) c8 c9 c10 c11 c12 c13).set 8 (some (.d (.list (fl f)))) = σh H W a b (some v) (some (.d (.list (fl f)))) c9 c10 c11 c12 c13 from rfl, xs_cons, x_iff, cn2]
  constructor
  · intro z
    rw [decide_eq_true z]
    exact ⟨HL line.dropLast known, by simp only [R.thn_ok, if_true, xs_cons, x_ret, e_lit, thn_rt]⟩
  · intro z
    rw [decide_eq_false z]
    have ld : line.dropLast.length < 15000000 := by rw [List.length_dropLast]; omega
    obtain ⟨e13, g1⟩ := g_step (F := F) (C := C) (H := H) (m := a) (n := b) (line := line.dropLast) (known := known) (c2 := some (V a)) (c3 := some (V b)) (c4 := some (V (H * W))) (c7 := some v) (c11 := c11) (c12 := c12) (c13 := c13) hf hW hW0 b0 (by omega) (by omega)
    have ak := add_ok (W := W) (x := (line.dropLast, known)) (o := stepF H W f a b) (fun s hs => hx s ((List.dropLast_sublist line).mem hs)) (fun s hs => step_len hf hW0 hs)
    obtain ⟨e13', g2⟩ := g_step (F := F) (C := C) (H := H) (m := b) (n := a) (line := (addS (line.dropLast, known) (stepF H W f a b)).1) (known := (addS (line.dropLast, known) (stepF H W f a b)).2) (c2 := some (V a)) (c3 := some (V b)) (c4 := some (V (H * W))) (c7 := some v) (c11 := some (V a)) (c12 := some (V b)) (c13 := e13) hf hW hW0 a0 (by have := ak.2.1; simp only at this; omega) (by have := ak.2.2; simp only at this; omega)
    refine ⟨some v, some (.d (.list (fl f))), some (V (lowF f)), some (V (colF f)), some (V b), some (V a), e13', ?_⟩
    have s10 : ∀ h, ev F C (.lidx (.var 8) (.var 9)) [some (V H), some (V W), some (V a), some (V b), some (V (H * W)), some (.ref 0), some (.ref 1), some v, some (.d (.list (fl f))), some (V (lowF f)), c10, c11, c12, c13] h = .ok (V (colF f)) h := fun h => by
      rw [e_lidx]
      simp only [e_var, List.getElem?_cons_zero, List.getElem?_cons_succ]
      exact li h
    simp only [R.thn_ok, Bool.false_eq_true, if_false, xs_nil, RF.thn_nx, xs_cons, x_set, σh, e_prm, es_cons, es_nil, e_var, List.getElem?_cons_zero, List.getElem?_cons_succ, R.bind_ok, prmV_1, mn, List.set_cons_succ, List.set_cons_zero, s10, x_for, ex_val, e_ofL, el_dsp, e_tup, toDs_cons, toDs_nil, toD_d, List.length_cons, List.length_nil, Nat.zero_add, Nat.reduceAdd, f2, if_true, srcV_l, List.map_cons, List.map_nil]
    rw [forL_cons, show turnV (.tp [11, 12]) (bdy F C gB1) _ _ _ = _ from g1]
    simp only [RF.turn_nx]
    rw [forL_cons, show turnV (.tp [11, 12]) (bdy F C gB1) _ _ _ = _ from g2]
    rfl
/-- all turns -/
theorem g_all {H W a b : Nat} (hW : W ≤ 1000) (hW0 : 0 < W) (a0 : 0 < a) (b0 : 0 < b) : ∀ (vs : List Val) (line known : List Stt) (c7 c8 c9 c10 c11 c12 c13 : Option Val), (∀ s ∈ line, s.length = W) → line.length + 2 * vs.length < 14000000 → known.length + 2 * vs.length < 14000000 →
    (srch H W a b vs.length (line, known) = none ∧ ∃ σ' h', forL (turnV (.nm 7) (bdy F C gB)) vs (σh H W a b c7 c8 c9 c10 c11 c12 c13) (HL line known) = .ok (.nx σ') h') ∨
    (∃ r h', srch H W a b vs.length (line, known) = some r ∧ forL (turnV (.nm 7) (bdy F C gB)) vs (σh H W a b c7 c8 c9 c10 c11 c12 c13) (HL line known) = .ok (.rt (.d (.bool r))) h')
  | [], line, known, c7, c8, c9, c10, c11, c12, c13, _, _, _ => .inl ⟨rfl, _, _, rfl⟩
  | v :: vs, line, known, c7, c8, c9, c10, c11, c12, c13, hx, b1, b2 => by
    rw [List.length_cons] at b1 b2 ⊢
    rw [forL_cons]
    cases hl : line.getLast? with
    | none =>
      have : line = [] := List.getLast?_eq_none_iff.mp hl
      subst this
      refine .inr ⟨false, HL [] known, rfl, ?_⟩
      rw [g_nil]; rfl
    | some f =>
      have hf := hx f (List.mem_of_getLast? hl)
      obtain ⟨t1, t2⟩ := g_turn (F := F) (C := C) (H := H) (a := a) (b := b) (known := known) (v := v) (c7 := c7) (c8 := c8) (c9 := c9) (c10 := c10) (c11 := c11) (c12 := c12) (c13 := c13) hl hf hW hW0 a0 b0 (by omega) (by omega) hx
      have un : srch H W a b (vs.length + 1) (line, known) = if sumF f = H * W then some true else srch H W a b vs.length (nextS H W a b f (line.dropLast, known)) := by
        show (match line.getLast? with | none => some false | some f => if sumF f = H * W then some true else srch H W a b vs.length (nextS H W a b f (line.dropLast, known))) = _
        rw [hl]
      rw [un]
      by_cases z : sumF f = H * W
      · obtain ⟨h', e⟩ := t1 z
        refine .inr ⟨true, h', if_pos z, ?_⟩
        rw [e]; rfl
      · obtain ⟨d7, d8, d9, d10, d11, d12, d13, e⟩ := t2 z
        rw [if_neg z, e]
        simp only [RF.turn_nx]
        have ld : line.dropLast.length ≤ line.length := by rw [List.length_dropLast]; omega
        have k1 := add_ok (W := W) (x := (line.dropLast, known)) (o := stepF H W f a b) (fun s hs => hx s ((List.dropLast_sublist line).mem hs)) (fun s hs => step_len hf hW0 hs)
        have k2 := add_ok (W := W) (x := addS (line.dropLast, known) (stepF H W f a b)) (o := stepF H W f b a) k1.1 (fun s hs => step_len hf hW0 hs)
        have e0 : addS (addS (line.dropLast, known) (stepF H W f a b)) (stepF H W f b a) = nextS H W a b f (line.dropLast, known) := rfl
        rw [e0] at k2
        obtain ⟨k3, k4, k5⟩ := k2
        have k6 := k1.2.1
        have k7 := k1.2.2
        simp only at k6 k7
        exact g_all hW hW0 a0 b0 vs (nextS H W a b f (line.dropLast, known)).1 (nextS H W a b f (line.dropLast, known)).2 d7 d8 d9 d10 d11 d12 d13 k3 (by omega) (by omega)
def foundB (H W a b : Nat) : Option Bool := srch H W a b 40000 ([List.replicate W 0], [List.replicate W 0])
def optD : Option Bool → D
  | none => .none
  | some b => .bool b
theorem c_found {H W a b : Nat} (hH : H ≤ 1000) (hW : W ≤ 250) (hW0 : 0 < W) (a0 : 0 < a) (b0 : 0 < b) : callR F C f__law_found [V H, V W, V a, V b] h = .ok (.d (optD (foundB H W a b))) h := by
  have m1 := okM H W (by omega) (by omega)
  have e0 : (H : Int) * (W : Int) = ((H * W : Nat) : Int) := by rw [Int.natCast_mul]
  have f1 : fits 1 = true := by decide
  have r4 : okRng 40000 = true := by decide
  have mul : ∀ h : Hq, binA .mul (.d (.tuple [.int 0])) (V W) h = .ok (.d (pD (List.replicate W 0))) h := fun h => by
    have e1 : pD (List.replicate W 0) = .tuple (List.replicate W (.int 0)) := by
      unfold pD tupI si
      simp
    rw [e1]
    show repV (.d (.tuple [.int 0])) (V W) h = _
    unfold repV
    simp only
    by_cases w1 : W = 1
    · subst w1
      rfl
    · have n1 : ¬ ((W : Int) = 1) := by omega
      have lg : (W : Int).natAbs.log2 < 9 := by
        have : Sm 8 (W : Int) := by unfold Sm; omega
        have := this.log
        omega
      have t2 : decide ((2 : Int) ≤ (W : Int)) = true := decide_eq_true (by omega)
      rw [if_neg n1, decide_eq_true lg, t2]
      show R.ok (Val.d (.tuple (List.replicate (W : Int).toNat [PyData.int 0]).flatten)) h = _
      rw [Int.toNat_natCast, rep_flat]
  have hb0 : b__law_found = .set 4 (.bin .mul (.var 0) (.var 1)) :: .set 5 (.new (.dsp [(.bin .mul (.tup [(.lit (.int 0))]) (.var 1))])) :: .set 6 (.ddsp true (.frz (.ix (.var 5) (.lit (.int 0)))) (.lit (.bool true))) :: [.for_ (.nm 7) (.rng (.lit (.int 40000))) gB, .ret (.lit .none)] := rfl
  suffices hr : ∃ h1, exs F C b__law_found [some (V H), some (V W), some (V a), some (V b), none, none, none, none, none, none, none, none, none, none] [] = .ok (.rt (.d (optD (foundB H W a b)))) h1 by
    obtain ⟨h1, e⟩ := hr
    refine call_pd (ds := [.int H, .int W, .int a, .int b]) rfl rfl (h1 := h1) ?_
    show (match exs F C b__law_found [some (V H), some (V W), some (V a), some (V b), none, none, none, none, none, none, none, none, none, none] [] with
      | .ok (.rt v) h1 => R.ok v h1
      | .ok (.nx _) h1 => .ok (.d .none) h1
      | .er e _ h1 => .er e h1
      | _ => .no) = _
    rw [e]
  have st : exs F C b__law_found [some (V H), some (V W), some (V a), some (V b), none, none, none, none, none, none, none, none, none, none] [] = exs F C [.for_ (.nm 7) (.rng (.lit (.int 40000))) gB, .ret (.lit .none)] (σh H W a b none none none none none none none) (HL [List.replicate W 0] [List.replicate W 0]) := by
    have ix : ixV (.ref 0) (.d (.int 0)) [obj [pD (List.replicate W 0)]] = .ok (.d (pD (List.replicate W 0))) [obj [pD (List.replicate W 0)]] := by
      refine ixV_at (vs := [.d (pD (List.replicate W 0))]) rfl ?_
      rw [atD_0]
    have ds : dspV true (.d (pD (List.replicate W 0))) (.d (.bool true)) [obj [pD (List.replicate W 0)]] = .ok (.ref 1) (HL [List.replicate W 0] [List.replicate W 0]) := by
      unfold dspV Dc.put
      simp only [if_true, keyT_p, List.length_nil, show (0 : Nat) < 16777216 by decide]
      rfl
    rw [hb0]
    simp only [xs_cons, x_set, e_bin, e_var, List.getElem?_cons_zero, List.getElem?_cons_succ, R.bind_ok, binA_i, binV_d, binD_mul, m1, if_true, e0, R.thn_ok, RF.thn_nx, List.set_cons_zero, List.set_cons_succ, e_new, el_dsp, es_cons, es_nil, e_tup, e_lit, toDs_cons, toDs_nil, toD_d, mul, List.length_cons, List.length_nil, Nat.zero_add, f1, List.nil_append]
    rw [show [IO.lst [Val.d (pD (List.replicate W 0))]] = [obj [pD (List.replicate W 0)]] from rfl]
    simp only [e_ddsp, e_frz, e_ix, e_var, e_lit, List.getElem?_cons_zero, List.getElem?_cons_succ, R.bind_ok, ix, toD_d, ds, R.thn_ok, RF.thn_nx, List.set_cons_zero, List.set_cons_succ]
  rw [st]
  have ga := g_all (F := F) (C := C) (H := H) (a := a) (b := b) (by omega : W ≤ 1000) hW0 a0 b0 (rangeL 0 40000) [List.replicate W 0] [List.replicate W 0] none none none none none none none (fun s hs => by rw [List.mem_singleton.mp hs]; simp) (by rw [rangeL_len]; show 1 + 2 * 40000 < 14000000; decide) (by rw [rangeL_len]; show 1 + 2 * 40000 < 14000000; decide)
  rw [rangeL_len] at ga
  have tn : (40000 : Int).toNat = 40000 := rfl
  simp only [xs_cons, xs_nil, x_for, ex_rng, e_lit, R.bind_ok, intV_i, r4, if_true, R.thn_ok, tn]
  rcases ga with ⟨e1, σ', h', e2⟩ | ⟨r, h', e1, e2⟩
  · refine ⟨h', ?_⟩
    have : foundB H W a b = none := e1
    rw [e2, this]
    simp only [RF.thn_nx, x_ret, e_lit, R.bind_ok, R.thn_ok, thn_rt, optD]
  · refine ⟨h', ?_⟩
    have : foundB H W a b = some r := e1
    rw [e2, this]
    simp only [thn_rt, optD]
end
end K12

set_option linter.all false
set_option Elab.async false
set_option autoImplicit false
set_option maxRecDepth 100000
namespace K12
open PySem Ip
/-! ### what the search may find -/
theorem all_eq_rep {l : Nat} : ∀ {xs : List Nat}, (∀ x ∈ xs, x = l) → xs = List.replicate xs.length l
  | [], _ => rfl
  | x :: xs, h => by
    rw [List.length_cons, List.replicate_succ, ← all_eq_rep fun y hy => h y (List.mem_cons_of_mem _ hy), h x List.mem_cons_self]
structure Shp (H : Nat) (f s : Stt) (m n : Nat) (A B : Stt) (l : Nat) : Prop where
  ef : f = A ++ List.replicate n l ++ B
  es : s = A ++ List.replicate n (l + m) ++ B
  hl : l + m ≤ H
  lo : ∀ x ∈ f, l ≤ x
  mem : l ∈ f
theorem step_shape {H W m n : Nat} {f s : Stt} (hf : f.length = W) (hW : 0 < W) (h : stepF H W f m n = some s) : ∃ A B l, Shp H f s m n A B l := by
  have ne : f ≠ [] := fun z => by subst z; simp at hf; omega
  unfold stepF at h
  split at h
  · rename_i c
    obtain ⟨c1, c2, c3⟩ := c
    have hm : ∀ x ∈ (f.drop (colF f)).take n, x = lowF f := fun x hx => by
      have u := top_ge hx
      have v := low_le (List.mem_of_mem_drop (List.mem_of_mem_take hx))
      omega
    have hr := all_eq_rep hm
    have hl : ((f.drop (colF f)).take n).length = n := by rw [List.length_take, List.length_drop]; omega
    rw [hl] at hr
    refine ⟨f.take (colF f), f.drop (colF f + n), lowF f, ?_, (Option.some.inj h).symm, c1, fun x hx => low_le hx, low_mem ne⟩
    rw [← hr, List.append_assoc, ← List.drop_drop, List.take_append_drop, List.take_append_drop]
  · cases h
def isSum (a b n : Nat) : Prop := ∃ x y, n = x * a + y * b
theorem isSum_some {a b n : Nat} (b0 : 0 < b) (h : isSum a b n) : (sumOf n a b).isSome = true := by
  obtain ⟨x, y, rfl⟩ := h
  unfold sumOf findS
  rw [Option.isSome_map, List.find?_isSome]
  refine ⟨x % b, List.mem_range.mpr (Nat.mod_lt _ b0), ?_⟩
  have e : x * a = x % b * a + b * (x / b * a) := by
    have := Nat.div_add_mod x b
    calc x * a = (b * (x / b) + x % b) * a := by rw [this]
      _ = _ := by rw [Nat.add_mul, Nat.mul_assoc]; omega
  unfold okS
  rw [Bool.and_eq_true, decide_eq_true_eq, decide_eq_true_eq]
  refine ⟨by omega, ?_⟩
  have e2 : x * a + y * b - x % b * a = b * (x / b * a + y) := by rw [Nat.mul_add, Nat.mul_comm b y]; omega
  rw [e2]
  exact Nat.mul_mod_right _ _
def cntF : Stt → Nat
  | [] => 0
  | x :: r => (if x = 0 then 0 else 1) + cntF r
theorem cnt_app : ∀ A B : Stt, cntF (A ++ B) = cntF A + cntF B
  | [], B => by rw [List.nil_append]; show _ = 0 + _; omega
  | x :: A, B => by
    show (if x = 0 then 0 else 1) + cntF (A ++ B) = (if x = 0 then 0 else 1) + cntF A + cntF B
    rw [cnt_app A B]; omega
theorem cnt_rep (x : Nat) : ∀ n, cntF (List.replicate n x) = if x = 0 then 0 else n
  | 0 => by split <;> rfl
  | n + 1 => by
    show (if x = 0 then 0 else 1) + cntF (List.replicate n x) = _
    rw [cnt_rep x n]
    split <;> omega
def wt : Nat → Stt → Nat
  | _, [] => 0
  | c, x :: r => 2 ^ c * (2 ^ x - 1) + wt (c + 1) r
theorem wt_app : ∀ (A B : Stt) (c : Nat), wt c (A ++ B) = wt c A + wt (c + A.length) B
  | [], B, c => by show wt c B = 0 + wt (c + 0) B; rw [Nat.add_zero]; omega
  | x :: A, B, c => by
    show 2 ^ c * (2 ^ x - 1) + wt (c + 1) (A ++ B) = 2 ^ c * (2 ^ x - 1) + wt (c + 1) A + wt (c + (A.length + 1)) B
    rw [wt_app A B, show c + 1 + A.length = c + (A.length + 1) by omega]; omega
theorem two_pos (n : Nat) : 0 < 2 ^ n := Nat.pow_pos (by decide)
theorem wt_rep (x : Nat) : ∀ n c, wt c (List.replicate n x) = 2 ^ c * (2 ^ n - 1) * (2 ^ x - 1)
  | 0, c => by simp [wt]
  | n + 1, c => by
    show 2 ^ c * (2 ^ x - 1) + wt (c + 1) (List.replicate n x) = _
    rw [wt_rep x n, ← Nat.add_mul]
    congr 1
    have := two_pos n
    have := two_pos c
    have e1 : 2 ^ (n + 1) - 1 = 1 + 2 * (2 ^ n - 1) := by rw [Nat.pow_succ]; omega
    rw [e1, Nat.pow_succ, Nat.mul_add, Nat.mul_one, Nat.mul_assoc]
theorem wt_step (c l m n : Nat) : wt c (List.replicate n (l + m)) = wt c (List.replicate n l) + 2 ^ c * (2 ^ n - 1) * (2 ^ l * (2 ^ m - 1)) := by
  rw [wt_rep, wt_rep, ← Nat.mul_add]
  congr 1
  have := two_pos l
  have := two_pos m
  have : 2 ^ l * 2 ^ m ≥ 2 ^ l := Nat.le_mul_of_pos_right _ (two_pos m)
  rw [Nat.pow_add, Nat.mul_sub, Nat.mul_one]
  omega
/-- what holds of each floor -/
structure Inv (H W a b : Nat) (f : Stt) : Prop where
  len : f.length = W
  le : ∀ x ∈ f, x ≤ H
  sums : ∀ x ∈ f, isSum a b x
  cnt : isSum a b (cntF f)
  wa : (2 ^ a - 1) ∣ wt 0 f
  wb : (2 ^ b - 1) ∣ wt 0 f
theorem inv_0 {H W a b : Nat} : Inv H W a b (List.replicate W 0) := by
  refine ⟨by simp, fun x hx => ?_, fun x hx => ?_, ?_, ?_, ?_⟩
  · rw [List.eq_of_mem_replicate hx]; omega
  · rw [List.eq_of_mem_replicate hx]; exact ⟨0, 0, by omega⟩
  · rw [cnt_rep]; exact ⟨0, 0, by simp⟩
  · rw [wt_rep]; simp
  · rw [wt_rep]; simp
theorem inv_step {H W a b m n : Nat} {f s : Stt} (hW : 0 < W) (hmn : (m = a ∧ n = b) ∨ (m = b ∧ n = a)) (m0 : 0 < m) (i : Inv H W a b f) (h : stepF H W f m n = some s) : Inv H W a b s := by
  obtain ⟨A, B, l, sh⟩ := step_shape i.len hW h
  have sl := step_len i.len hW h
  have add1 : ∀ x, isSum a b x → isSum a b (x + m) := fun x hx => by
    obtain ⟨u, v, rfl⟩ := hx
    rcases hmn with ⟨rfl, rfl⟩ | ⟨rfl, rfl⟩
    · exact ⟨u + 1, v, by rw [Nat.succ_mul]; omega⟩
    · exact ⟨u, v + 1, by rw [Nat.succ_mul]; omega⟩
  have add2 : ∀ x, isSum a b x → isSum a b (x + n) := fun x hx => by
    obtain ⟨u, v, rfl⟩ := hx
    rcases hmn with ⟨rfl, rfl⟩ | ⟨rfl, rfl⟩
    · exact ⟨u, v + 1, by rw [Nat.succ_mul]; omega⟩
    · exact ⟨u + 1, v, by rw [Nat.succ_mul]; omega⟩
  have mems : ∀ x ∈ s, x ∈ f ∨ x = l + m := fun x hx => by
    rw [sh.es, List.mem_append, List.mem_append] at hx
    rcases hx with (hx | hx) | hx
    · left; rw [sh.ef, List.mem_append, List.mem_append]; exact .inl (.inl hx)
    · exact .inr (List.eq_of_mem_replicate hx)
    · left; rw [sh.ef, List.mem_append, List.mem_append]; exact .inr hx
  have w : wt 0 s = wt 0 f + 2 ^ A.length * (2 ^ n - 1) * (2 ^ l * (2 ^ m - 1)) := by
    rw [sh.es, sh.ef, wt_app, wt_app, wt_app, wt_app, wt_step]
    simp only [List.length_append, List.length_replicate, Nat.zero_add]
    omega
  have dm : ∀ d, d = m ∨ d = n → (2 ^ d - 1) ∣ 2 ^ A.length * (2 ^ n - 1) * (2 ^ l * (2 ^ m - 1)) := fun d hd => by
    rcases hd with rfl | rfl
    · exact Nat.dvd_mul_left_of_dvd (Nat.dvd_mul_left _ _) _
    · exact Nat.dvd_mul_right_of_dvd (Nat.dvd_mul_left _ _) _
  refine ⟨sl, fun x hx => ?_, fun x hx => ?_, ?_, ?_, ?_⟩
  · rcases mems x hx with h | rfl
    · exact i.le x h
    · exact sh.hl
  · rcases mems x hx with h | rfl
    · exact i.sums x h
    · exact add1 l (i.sums l sh.mem)
  · have ic := i.cnt
    rw [sh.ef, cnt_app, cnt_app, cnt_rep] at ic
    rw [sh.es, cnt_app, cnt_app, cnt_rep, if_neg (by omega)]
    by_cases l0 : l = 0
    · rw [if_pos l0] at ic
      have := add2 _ ic
      rw [show cntF A + n + cntF B = cntF A + 0 + cntF B + n by omega]
      exact this
    · rw [if_neg l0] at ic
      exact ic
  · rw [w]
    exact Nat.dvd_add i.wa (dm a (by rcases hmn with ⟨rfl, rfl⟩ | ⟨rfl, rfl⟩ <;> simp))
  · rw [w]
    exact Nat.dvd_add i.wb (dm b (by rcases hmn with ⟨rfl, rfl⟩ | ⟨rfl, rfl⟩ <;> simp))
theorem inv_add {H W a b : Nat} {x : List Stt × List Stt} {o : Option Stt} (hx : ∀ s ∈ x.1, Inv H W a b s) (ho : ∀ s, o = some s → Inv H W a b s) : ∀ s ∈ (addS x o).1, Inv H W a b s := by
  cases o with
  | none => exact hx
  | some s =>
    unfold addS
    simp only
    split
    · exact hx
    · intro t ht
      rcases List.mem_append.mp ht with ht | ht
      · exact hx t ht
      · rw [List.mem_singleton.mp ht]
        exact ho s rfl
theorem srch_true {H W a b : Nat} (hW : 0 < W) (a0 : 0 < a) (b0 : 0 < b) : ∀ (n : Nat) (x : List Stt × List Stt), (∀ s ∈ x.1, Inv H W a b s) → srch H W a b n x = some true → ∃ f, Inv H W a b f ∧ sumF f = H * W
  | 0, _, _, h => by cases h
  | n + 1, x, hx, h => by
    unfold srch at h
    cases e : x.1.getLast? with
    | none => rw [e] at h; cases h
    | some f =>
      rw [e] at h
      have hf := hx f (List.mem_of_getLast? e)
      simp only at h
      split at h
      · rename_i z
        exact ⟨f, hf, z⟩
      · refine srch_true hW a0 b0 n _ ?_ h
        unfold nextS
        refine inv_add (inv_add (fun s hs => hx s ((List.dropLast_sublist _).mem hs)) fun s hs => ?_) fun s hs => ?_
        · exact inv_step hW (.inl ⟨rfl, rfl⟩) a0 hf hs
        · exact inv_step hW (.inr ⟨rfl, rfl⟩) b0 hf hs
theorem sum_full {H : Nat} : ∀ {f : Stt}, (∀ x ∈ f, x ≤ H) → sumF f = H * f.length → f = List.replicate f.length H
  | [], _, _ => rfl
  | x :: f, h, e => by
    have hx := h x List.mem_cons_self
    have hf : ∀ y ∈ f, y ≤ H := fun y hy => h y (List.mem_cons_of_mem _ hy)
    have le : ∀ g : Stt, (∀ y ∈ g, y ≤ H) → sumF g ≤ H * g.length := fun g => by
      induction g with
      | nil => intro _; exact Nat.zero_le _
      | cons y g ih =>
        intro hg
        have a := ih fun z hz => hg z (List.mem_cons_of_mem _ hz)
        have b := hg y List.mem_cons_self
        unfold sumF at a ⊢
        rw [List.sum_cons, List.length_cons, Nat.mul_succ]
        omega
    have l := le f hf
    have e1 : x + sumF f = H * f.length + H := by
      rw [List.length_cons, Nat.mul_succ] at e
      unfold sumF at e ⊢
      rw [List.sum_cons] at e
      exact e
    have ex : x = H := by omega
    rw [List.length_cons, List.replicate_succ, ← sum_full hf (by omega), ex]
theorem true_fin : ((List.range 14).all fun H => (List.range 14).all fun W => (List.range 4).all fun a => (List.range 5).all fun b => (fun H W a b => (barOf H W a b).isNone || !((sumOf H a b).isSome && (sumOf W a b).isSome && decide (((2 ^ W - 1) * (2 ^ H - 1)) % (2 ^ a - 1) = 0) && decide (((2 ^ W - 1) * (2 ^ H - 1)) % (2 ^ b - 1) = 0))) (H + 1) (W + 1) (a + 1) (b + 1)) = true := by decide +kernel
theorem found_true {H W a b : Nat} (s : Small H W a b) (h : foundB H W a b = some true) : barOf H W a b = none := by
  obtain ⟨f, i, e⟩ := srch_true (H := H) s.W0 s.a0 s.b0 40000 _ (fun t ht => by rw [List.mem_singleton.mp ht]; exact inv_0) h
  have fr := sum_full i.le (by rw [i.len]; exact e)
  rw [i.len] at fr
  have s1 : isSum a b H := i.sums H (by rw [fr, List.mem_replicate]; exact ⟨by have := s.W0; omega, rfl⟩)
  have s2 := i.cnt
  have wa := i.wa
  have wb := i.wb
  rw [fr, cnt_rep, if_neg (by have := s.H0; omega)] at s2
  rw [fr, wt_rep, Nat.pow_zero, Nat.one_mul] at wa wb
  have t := fin4 (p := fun H W a b => (barOf H W a b).isNone || !((sumOf H a b).isSome && (sumOf W a b).isSome && decide (((2 ^ W - 1) * (2 ^ H - 1)) % (2 ^ a - 1) = 0) && decide (((2 ^ W - 1) * (2 ^ H - 1)) % (2 ^ b - 1) = 0))) true_fin s
  simp only [isSum_some s.b0 s1, isSum_some s.b0 s2, decide_eq_true (Nat.mod_eq_zero_of_dvd wa), decide_eq_true (Nat.mod_eq_zero_of_dvd wb), Bool.and_self, Bool.not_true, Bool.or_false] at t
  exact Option.isNone_iff_eq_none.mp t
end K12

set_option linter.all false
set_option Elab.async false
set_option autoImplicit false
set_option maxRecDepth 100000
namespace K12
open PySem Ip
/-! ### what the search may not miss -/
def wayB (H W a b : Nat) (r c : Nat) : Bool := match blkOf H W a b with
  | some [x] => x.fl
  | some (x :: y :: _) => if inBk y r c then y.fl else x.fl
  | _ => true
def wayS (H W a b : Nat) (f : Stt) : Option Stt := if wayB H W a b (lowF f) (colF f) then stepF H W f a b else stepF H W f b a
def pathB (H W a b : Nat) : Nat → Stt → Bool
  | 0, _ => false
  | n + 1, f => if sumF f = H * W then true else match wayS H W a b f with
    | some s => pathB H W a b n s
    | none => false
/-- a floor that was looked at -/
def Done (H W a b : Nat) (kn : List Stt) (g : Stt) : Prop := sumF g ≠ H * W ∧ (∀ s, stepF H W g a b = some s → s ∈ kn) ∧ ∀ s, stepF H W g b a = some s → s ∈ kn
theorem Done.mono {H W a b : Nat} {kn kn' : List Stt} {g : Stt} (d : Done H W a b kn g) (h : ∀ s ∈ kn, s ∈ kn') : Done H W a b kn' g := ⟨d.1, fun s e => h s (d.2.1 s e), fun s e => h s (d.2.2 s e)⟩
theorem add_kn {x : List Stt × List Stt} {o : Option Stt} : (∀ s ∈ x.2, s ∈ (addS x o).2) ∧ (∀ s ∈ x.1, s ∈ (addS x o).1) ∧ (∀ s ∈ (addS x o).2, s ∈ x.2 ∨ s ∈ (addS x o).1) ∧ ∀ s, o = some s → s ∈ (addS x o).2 := by
  cases o with
  | none => exact ⟨fun _ h => h, fun _ h => h, fun _ h => .inl h, fun s e => by cases e⟩
  | some s =>
    unfold addS
    simp only
    split
    · rename_i m
      exact ⟨fun _ h => h, fun _ h => h, fun _ h => .inl h, fun t e => by cases e; exact m⟩
    · refine ⟨fun t h => by simp [h], fun t h => by simp [h], fun t h => ?_, fun t e => by cases e; simp⟩
      rcases List.mem_append.mp h with h | h
      · exact .inl h
      · exact .inr (by simp only [List.mem_append]; exact .inr h)
theorem path_no {H W a b : Nat} {kn : List Stt} (all : ∀ g ∈ kn, Done H W a b kn g) : ∀ (n : Nat) (f : Stt), f ∈ kn → pathB H W a b n f = false
  | 0, _, _ => rfl
  | n + 1, f, hf => by
    obtain ⟨d1, d2, d3⟩ := all f hf
    unfold pathB
    rw [if_neg d1]
    cases e : wayS H W a b f with
    | none => rfl
    | some s =>
      refine path_no all n s ?_
      unfold wayS at e
      split at e
      · exact d2 s e
      · exact d3 s e
theorem srch_false {H W a b : Nat} {s0 : Stt} : ∀ (n : Nat) (x : List Stt × List Stt), s0 ∈ x.2 → (∀ g ∈ x.2, g ∈ x.1 ∨ Done H W a b x.2 g) → srch H W a b n x = some false → ∀ m, pathB H W a b m s0 = false
  | 0, _, _, _, h => by cases h
  | n + 1, x, hs, hk, h => by
    unfold srch at h
    cases e : x.1.getLast? with
    | none =>
      have nil : x.1 = [] := List.getLast?_eq_none_iff.mp e
      intro m
      refine path_no (kn := x.2) (fun g hg => ?_) m s0 hs
      rcases hk g hg with h | h
      · rw [nil] at h; cases h
      · exact h
    | some f =>
      rw [e] at h
      simp only at h
      split at h
      · cases h
      · rename_i z
        generalize hx1 : addS (x.1.dropLast, x.2) (stepF H W f a b) = x1
        have k1 := add_kn (x := (x.1.dropLast, x.2)) (o := stepF H W f a b)
        rw [hx1] at k1
        have k2 := add_kn (x := x1) (o := stepF H W f b a)
        have en : nextS H W a b f (x.1.dropLast, x.2) = addS x1 (stepF H W f b a) := by unfold nextS; rw [hx1]
        rw [en] at h
        generalize addS x1 (stepF H W f b a) = x2 at *
        have up : ∀ s ∈ x.2, s ∈ x2.2 := fun s m => k2.1 s (k1.1 s m)
        refine srch_false n x2 (up s0 hs) (fun g hg => ?_) h
        have old : g ∈ x.2 → g ∈ x2.1 ∨ Done H W a b x2.2 g := fun m => by
          rcases hk g m with m1 | d
          · have ex : x.1 = x.1.dropLast ++ [f] := by
              rw [List.getLast?_eq_some_iff] at e
              obtain ⟨ys, hy⟩ := e
              rw [hy]; simp
            rw [ex] at m1
            rcases List.mem_append.mp m1 with m1 | m1
            · exact .inl (k2.2.1 g (k1.2.1 g m1))
            · rw [List.mem_singleton.mp m1]
              exact .inr ⟨z, fun s es => k2.1 s (k1.2.2.2 s es), fun s es => k2.2.2.2 s es⟩
          · exact .inr (d.mono up)
        rcases k2.2.2.1 g hg with m | m
        · rcases k1.2.2.1 g m with m | m
          · exact old m
          · exact .inl (k2.2.1 g m)
        · exact .inl m
theorem path_fin : ((List.range 14).all fun H => (List.range 14).all fun W => (List.range 4).all fun a => (List.range 5).all fun b => (fun H W a b => decide (50 ≤ H * W) || (barOf H W a b).isSome || pathB H W a b 50 (List.replicate W 0)) (H + 1) (W + 1) (a + 1) (b + 1)) = true := by decide +kernel
theorem found_false {H W a b : Nat} (s : Small H W a b) (hw : H * W < 50) (h : foundB H W a b = some false) : barOf H W a b ≠ none := by
  have p := srch_false (s0 := List.replicate W 0) 40000 ([List.replicate W 0], [List.replicate W 0]) (by simp) (fun g hg => .inl hg) h 50
  have t := fin4 (p := fun H W a b => decide (50 ≤ H * W) || (barOf H W a b).isSome || pathB H W a b 50 (List.replicate W 0)) path_fin s
  simp only [p, decide_eq_false (by omega : ¬ 50 ≤ H * W), Bool.false_or, Bool.or_false] at t
  intro z
  rw [z] at t
  cases t
theorem found_ok {H W a b : Nat} (s : Small H W a b) (hw : H * W < 50) {r : Bool} (h : foundB H W a b = some r) : r = (barOf H W a b).isNone := by
  cases r with
  | true => rw [found_true s h]; rfl
  | false =>
    have := found_false s hw h
    cases e : barOf H W a b with
    | none => exact absurd e this
    | some x => rfl
end K12

set_option linter.all false
set_option Elab.async false
set_option autoImplicit false
set_option maxRecDepth 100000
namespace K12
open PySem Ip
theorem rangeL_nat : ∀ (n i : Nat), rangeL (i : Int) n = (List.range' i n).map fun k => V k
  | 0, _ => rfl
  | n + 1, i => by
    unfold rangeL
    rw [show ((i : Int) + 1) = ((i + 1 : Nat) : Int) by omega, rangeL_nat n (i + 1), List.range'_succ, List.map_cons]
theorem cmp_flt {α : Type} {f : Val → Hq → R (List Val)} {h : Hq} (val : α → Val) (p : α → Bool) (g : α → D) : ∀ (as : List α), (∀ a ∈ as, f (val a) h = .ok (if p a then [.d (g a)] else []) h) → cmpL f (as.map val) h = .ok ((as.filter p).map fun a => .d (g a)) h
  | [], _ => rfl
  | a :: as, st => by
    rw [List.map_cons, cmpL_cons, st a List.mem_cons_self, List.filter_cons]
    simp only [R.bind_ok, cmp_flt val p g as fun v hv => st v (List.mem_cons_of_mem _ hv)]
    cases p a <;> rfl
def leastL (a b W : Nat) : List Nat := (List.range' 1 (a * b)).filter fun k => (barOf k W a b).isNone
def leastD (a b W : Nat) : D := match leastL a b W with
  | [] => .none
  | x :: _ => N x
section
variable {F k : Nat} {C : List Orc} {h : Hq}
theorem c_least {a b W : Nat} (a0 : 0 < a) (b0 : 0 < b) (a1 : a ≤ 60) (b1 : b ≤ 60) (W0 : 0 < W) (W1 : W ≤ 1000) (hF : 1000000 ≤ F) : callR F (O F (k + 3)) f_least_box [V a, V b, V W] h = .ok (.d (leastD a b W)) h := by
  refine call_pd (ds := [.int a, .int b, .int W]) (h1 := []) rfl rfl ?_
  have s2 := c_brick (F := F) (C := O F (k + 2)) (h := []) (a : Int) (b : Int)
  have br : (inR 1000 (a : Int) && inR 1000 (b : Int)) = true := by
    unfold inR
    rw [decide_eq_true (by omega), decide_eq_true (by omega), decide_eq_true (by omega), decide_eq_true (by omega)]; rfl
  rw [br, if_pos rfl] at s2
  have w1 : (1 : Int) ≤ (W : Int) := by omega
  have w2 : (W : Int) ≤ 1000 := by omega
  have x1 : ¬ ((60 : Int) < (a : Int)) := by omega
  have x2 : ¬ ((60 : Int) < (b : Int)) := by omega
  have m1 := okM a b (by omega) (by omega)
  have ab : a * b ≤ 60 * 60 := Nat.mul_le_mul a1 b1
  have e0 : (a : Int) * (b : Int) + 1 = ((a * b + 1 : Nat) : Int) := by rw [Int.natCast_add, Int.natCast_mul]; rfl
  have r1 : okRng 1 = true := by decide
  have r2 := okR (a * b + 1) (by omega)
  have n1 : (((a * b + 1 : Nat) : Int) - 1).toNat = a * b := by omega
  have ft : fits (rangeL 1 (a * b)).length = true := fits_le (by rw [rangeL_len]; omega)
  have it := cmp_flt (h := []) (f := itm F (O F (k + 3)) [4] (.nm 4) [(.cmp .isN (.call 6 [(.var 4), (.var 2), (.var 0), (.var 1)]) (.lit .none))] (.var 4) [some (V a), some (V b), some (V W), none, none]) (fun k : Nat => V k) (fun k => (barOf k W a b).isNone) N (List.range' 1 (a * b)) (fun i hi => by
    have hi := List.mem_range'_1.mp hi
    have kb := c_known (k := k) (h := []) (F := F) (H := i) (W := W) (a := a) (b := b) ⟨by omega, by omega, a0, b0, by omega, by omega, hF⟩
    unfold itm
    simp only [wipe, List.set, bindT_nm, ei_cons, ei_nil, e_cmp, ev_call, t_6, es_cons, es_nil, e_var, e_lit, List.getElem?_cons_zero, List.getElem?_cons_succ, R.bind_ok, kb, cmpV_d, isN_bar, tru_b]
    cases (barOf i W a b).isNone <;> rfl)
  rw [← rangeL_nat (a * b) 1] at it
  have fin : ∀ (L : List Nat), ((.ife (.cmp .gt (.prm .len [(.var 3)]) (.lit (.int 0))) (.ix (.var 3) (.lit (.int 0))) (.lit .none)) : Ex) = .ife (.cmp .gt (.prm .len [(.var 3)]) (.lit (.int 0))) (.ix (.var 3) (.lit (.int 0))) (.lit .none) := fun _ => rfl
  simp only [Ip.run, f_least_box, b_least_box, e_ife, ex_val, srcV_t, srcV_l, e_ofL, List.map_cons, List.map_nil, List.replicate, List.cons_append, List.nil_append, List.append_nil, xs_cons, xs_nil, x_set, x_exp, x_iff, x_ret, x_for, x_asg, cnd, tst, turnV, bdy, bindT_nm, es_cons, es_nil, e_var, e_lit, e_cmp, e_bin, e_and, e_or, e_not, e_tup, e_prm, e_ix, prmV_1, prm_int, List.getElem?_cons_zero, List.getElem?_cons_succ, R.bind_ok, R.thn_ok, List.set, RF.thn_nx, thn_rt, RF.turn_nx, turn_rt, binA_i, binV_d, binD_add, binD_sub, cmpV_d, cmpD_eqi, cmpD_nei, cmpD_le, cmpD_lt, cmpD_ge, cmpD_gt, tru_b, toDs_cons, toDs_nil, toD_d, if_true, if_false, Bool.false_eq_true, Bool.not_true, Bool.not_false, decide_true, decide_false, ev_call, and_true, true_and, and_false, false_and, not_true_eq_false, not_false_eq_true, ne_eq, t_1, s2, e_or, e_chn, w1, w2, x1, x2, el_cmp, ex_rng2, binD_mul, m1, e0, intV_i, r1, r2, Bool.and_self, n1, ft]
  rw [show cmpL (itm F (O F (k + 3)) [4] (.nm 4) [(.cmp .isN (.call 6 [(.var 4), (.var 2), (.var 0), (.var 1)]) (.lit .none))] (.var 4) [some (V a), some (V b), some (V W), none, none]) (rangeL 1 (a * b)) [] = _ from it]
  unfold leastD leastL
  generalize (List.range' 1 (a * b)).filter (fun k => (barOf k W a b).isNone) = L
  simp only [toDs_fn, e_ife, ex_val, srcV_t, srcV_l, e_ofL, List.map_cons, List.map_nil, List.replicate, List.cons_append, List.nil_append, List.append_nil, xs_cons, xs_nil, x_set, x_exp, x_iff, x_ret, x_for, x_asg, cnd, tst, turnV, bdy, bindT_nm, es_cons, es_nil, e_var, e_lit, e_cmp, e_bin, e_and, e_or, e_not, e_tup, e_prm, e_ix, prmV_1, prm_int, List.getElem?_cons_zero, List.getElem?_cons_succ, R.bind_ok, R.thn_ok, List.set, RF.thn_nx, thn_rt, RF.turn_nx, turn_rt, binA_i, binV_d, binD_add, binD_sub, cmpV_d, cmpD_eqi, cmpD_nei, cmpD_le, cmpD_lt, cmpD_ge, cmpD_gt, tru_b, toDs_cons, toDs_nil, toD_d, if_true, if_false, Bool.false_eq_true, Bool.not_true, Bool.not_false, decide_true, decide_false, ev_call, and_true, true_and, and_false, false_and, not_true_eq_false, not_false_eq_true, ne_eq, prm_lenl, List.length_map]
  cases L with
  | nil => rfl
  | cons x L =>
    have : (0 : Int) < ((x :: L).length : Nat) := by rw [List.length_cons]; omega
    simp only [e_ife, ex_val, srcV_t, srcV_l, e_ofL, List.map_cons, List.map_nil, List.replicate, List.cons_append, List.nil_append, List.append_nil, xs_cons, xs_nil, x_set, x_exp, x_iff, x_ret, x_for, x_asg, cnd, tst, turnV, bdy, bindT_nm, es_cons, es_nil, e_var, e_lit, e_cmp, e_bin, e_and, e_or, e_not, e_tup, e_prm, e_ix, prmV_1, prm_int, List.getElem?_cons_zero, List.getElem?_cons_succ, R.bind_ok, R.thn_ok, List.set, RF.thn_nx, thn_rt, RF.turn_nx, turn_rt, binA_i, binV_d, binD_add, binD_sub, cmpV_d, cmpD_eqi, cmpD_nei, cmpD_le, cmpD_lt, cmpD_ge, cmpD_gt, tru_b, toDs_cons, toDs_nil, toD_d, if_true, if_false, Bool.false_eq_true, Bool.not_true, Bool.not_false, decide_true, decide_false, ev_call, and_true, true_and, and_false, false_and, not_true_eq_false, not_false_eq_true, ne_eq, this, ixV_l, atD_0]
/-! ### refusals -/
def argB (x y u v : Int) : Bool := (inR 1000000 x && inR 1000000 y) && (inR 1000 u && inR 1000 v)
theorem x_can {x y u v : Int} (bad : argB x y u v = false) : callR F (O F (k + 1)) f_can_fill [.d (.int x), .d (.int y), .d (.int u), .d (.int v)] h = .er ⟨0, none⟩ h := by
  refine call_pe (ds := [.int x, .int y, .int u, .int v]) (h1 := []) rfl rfl ?_
  have s1 := c_sides (F := F) (C := O F k) (h := []) x y
  have s2 := c_brick (F := F) (C := O F k) (h := []) u v
  unfold argB at bad
  cases e1 : (inR 1000000 x && inR 1000000 y) with
  | false =>
    rw [e1] at s1
    simp only [Ip.run, f_can_fill, b_can_fill, e_ife, ex_val, srcV_t, srcV_l, e_ofL, List.map_cons, List.map_nil, List.replicate, List.cons_append, List.nil_append, List.append_nil, xs_cons, xs_nil, x_set, x_exp, x_iff, x_ret, x_for, x_asg, cnd, tst, turnV, bdy, bindT_nm, es_cons, es_nil, e_var, e_lit, e_cmp, e_bin, e_and, e_or, e_not, e_tup, e_prm, e_ix, prmV_1, prm_int, List.getElem?_cons_zero, List.getElem?_cons_succ, R.bind_ok, R.thn_ok, List.set, RF.thn_nx, thn_rt, RF.turn_nx, turn_rt, binA_i, binV_d, binD_add, binD_sub, cmpV_d, cmpD_eqi, cmpD_nei, cmpD_le, cmpD_lt, cmpD_ge, cmpD_gt, tru_b, toDs_cons, toDs_nil, toD_d, if_true, if_false, Bool.false_eq_true, Bool.not_true, Bool.not_false, decide_true, decide_false, ev_call, and_true, true_and, and_false, false_and, not_true_eq_false, not_false_eq_true, ne_eq, t_0, s1, R.thn_er, R.bind_er, thn_er]
  | true =>
    rw [e1, Bool.true_and] at bad
    rw [e1, if_pos rfl] at s1
    rw [bad] at s2
    simp only [Ip.run, f_can_fill, b_can_fill, e_ife, ex_val, srcV_t, srcV_l, e_ofL, List.map_cons, List.map_nil, List.replicate, List.cons_append, List.nil_append, List.append_nil, xs_cons, xs_nil, x_set, x_exp, x_iff, x_ret, x_for, x_asg, cnd, tst, turnV, bdy, bindT_nm, es_cons, es_nil, e_var, e_lit, e_cmp, e_bin, e_and, e_or, e_not, e_tup, e_prm, e_ix, prmV_1, prm_int, List.getElem?_cons_zero, List.getElem?_cons_succ, R.bind_ok, R.thn_ok, List.set, RF.thn_nx, thn_rt, RF.turn_nx, turn_rt, binA_i, binV_d, binD_add, binD_sub, cmpV_d, cmpD_eqi, cmpD_nei, cmpD_le, cmpD_lt, cmpD_ge, cmpD_gt, tru_b, toDs_cons, toDs_nil, toD_d, if_true, if_false, Bool.false_eq_true, Bool.not_true, Bool.not_false, decide_true, decide_false, ev_call, and_true, true_and, and_false, false_and, not_true_eq_false, not_false_eq_true, ne_eq, t_0, t_1, s1, s2, R.thn_er, R.bind_er, thn_er]
theorem x_bar {x y u v : Int} (bad : argB x y u v = false) : callR F (O F (k + 1)) f_bar [.d (.int x), .d (.int y), .d (.int u), .d (.int v)] h = .er ⟨0, none⟩ h := by
  refine call_pe (ds := [.int x, .int y, .int u, .int v]) (h1 := []) rfl rfl ?_
  have s1 := c_sides (F := F) (C := O F k) (h := []) x y
  have s2 := c_brick (F := F) (C := O F k) (h := []) u v
  unfold argB at bad
  cases e1 : (inR 1000000 x && inR 1000000 y) with
  | false =>
    rw [e1] at s1
    simp only [Ip.run, f_bar, b_bar, e_ife, ex_val, srcV_t, srcV_l, e_ofL, List.map_cons, List.map_nil, List.replicate, List.cons_append, List.nil_append, List.append_nil, xs_cons, xs_nil, x_set, x_exp, x_iff, x_ret, x_for, x_asg, cnd, tst, turnV, bdy, bindT_nm, es_cons, es_nil, e_var, e_lit, e_cmp, e_bin, e_and, e_or, e_not, e_tup, e_prm, e_ix, prmV_1, prm_int, List.getElem?_cons_zero, List.getElem?_cons_succ, R.bind_ok, R.thn_ok, List.set, RF.thn_nx, thn_rt, RF.turn_nx, turn_rt, binA_i, binV_d, binD_add, binD_sub, cmpV_d, cmpD_eqi, cmpD_nei, cmpD_le, cmpD_lt, cmpD_ge, cmpD_gt, tru_b, toDs_cons, toDs_nil, toD_d, if_true, if_false, Bool.false_eq_true, Bool.not_true, Bool.not_false, decide_true, decide_false, ev_call, and_true, true_and, and_false, false_and, not_true_eq_false, not_false_eq_true, ne_eq, t_0, s1, R.thn_er, R.bind_er, thn_er]
  | true =>
    rw [e1, Bool.true_and] at bad
    rw [e1, if_pos rfl] at s1
    rw [bad] at s2
    simp only [Ip.run, f_bar, b_bar, e_ife, ex_val, srcV_t, srcV_l, e_ofL, List.map_cons, List.map_nil, List.replicate, List.cons_append, List.nil_append, List.append_nil, xs_cons, xs_nil, x_set, x_exp, x_iff, x_ret, x_for, x_asg, cnd, tst, turnV, bdy, bindT_nm, es_cons, es_nil, e_var, e_lit, e_cmp, e_bin, e_and, e_or, e_not, e_tup, e_prm, e_ix, prmV_1, prm_int, List.getElem?_cons_zero, List.getElem?_cons_succ, R.bind_ok, R.thn_ok, List.set, RF.thn_nx, thn_rt, RF.turn_nx, turn_rt, binA_i, binV_d, binD_add, binD_sub, cmpV_d, cmpD_eqi, cmpD_nei, cmpD_le, cmpD_lt, cmpD_ge, cmpD_gt, tru_b, toDs_cons, toDs_nil, toD_d, if_true, if_false, Bool.false_eq_true, Bool.not_true, Bool.not_false, decide_true, decide_false, ev_call, and_true, true_and, and_false, false_and, not_true_eq_false, not_false_eq_true, ne_eq, t_0, t_1, s1, s2, R.thn_er, R.bind_er, thn_er]
theorem x_filling {x y u v : Int} (bad : argB x y u v = false) : callR F (O F (k + 2)) f_filling [.d (.int x), .d (.int y), .d (.int u), .d (.int v)] h = .er ⟨0, none⟩ h := by
  refine call_pe (ds := [.int x, .int y, .int u, .int v]) (h1 := []) rfl rfl ?_
  have s1 := x_can (F := F) (k := k) (h := []) bad
  simp only [Ip.run, f_filling, b_filling, e_ife, ex_val, srcV_t, srcV_l, e_ofL, List.map_cons, List.map_nil, List.replicate, List.cons_append, List.nil_append, List.append_nil, xs_cons, xs_nil, x_set, x_exp, x_iff, x_ret, x_for, x_asg, cnd, tst, turnV, bdy, bindT_nm, es_cons, es_nil, e_var, e_lit, e_cmp, e_bin, e_and, e_or, e_not, e_tup, e_prm, e_ix, prmV_1, prm_int, List.getElem?_cons_zero, List.getElem?_cons_succ, R.bind_ok, R.thn_ok, List.set, RF.thn_nx, thn_rt, RF.turn_nx, turn_rt, binA_i, binV_d, binD_add, binD_sub, cmpV_d, cmpD_eqi, cmpD_nei, cmpD_le, cmpD_lt, cmpD_ge, cmpD_gt, tru_b, toDs_cons, toDs_nil, toD_d, if_true, if_false, Bool.false_eq_true, Bool.not_true, Bool.not_false, decide_true, decide_false, ev_call, and_true, true_and, and_false, false_and, not_true_eq_false, not_false_eq_true, ne_eq, t_5, s1, R.thn_er, R.bind_er, thn_er]
theorem x_judge {x y u v : Int} {d : D} (bad : argB x y u v = false) : callR F (O F (k + 1)) f_judge_filling [.d (.int x), .d (.int y), .d (.int u), .d (.int v), .d d] h = .er ⟨0, none⟩ h := by
  refine call_pe (ds := [.int x, .int y, .int u, .int v, d]) (h1 := []) rfl rfl ?_
  have s1 := c_sides (F := F) (C := O F k) (h := []) x y
  have s2 := c_brick (F := F) (C := O F k) (h := []) u v
  unfold argB at bad
  cases e1 : (inR 1000000 x && inR 1000000 y) with
  | false =>
    rw [e1] at s1
    simp only [Ip.run, f_judge_filling, b_judge_filling, e_ife, ex_val, srcV_t, srcV_l, e_ofL, List.map_cons, List.map_nil, List.replicate, List.cons_append, List.nil_append, List.append_nil, xs_cons, xs_nil, x_set, x_exp, x_iff, x_ret, x_for, x_asg, cnd, tst, turnV, bdy, bindT_nm, es_cons, es_nil, e_var, e_lit, e_cmp, e_bin, e_and, e_or, e_not, e_tup, e_prm, e_ix, prmV_1, prm_int, List.getElem?_cons_zero, List.getElem?_cons_succ, R.bind_ok, R.thn_ok, List.set, RF.thn_nx, thn_rt, RF.turn_nx, turn_rt, binA_i, binV_d, binD_add, binD_sub, cmpV_d, cmpD_eqi, cmpD_nei, cmpD_le, cmpD_lt, cmpD_ge, cmpD_gt, tru_b, toDs_cons, toDs_nil, toD_d, if_true, if_false, Bool.false_eq_true, Bool.not_true, Bool.not_false, decide_true, decide_false, ev_call, and_true, true_and, and_false, false_and, not_true_eq_false, not_false_eq_true, ne_eq, t_0, s1, R.thn_er, R.bind_er, thn_er]
  | true =>
    rw [e1, Bool.true_and] at bad
    rw [e1, if_pos rfl] at s1
    rw [bad] at s2
    simp only [Ip.run, f_judge_filling, b_judge_filling, e_ife, ex_val, srcV_t, srcV_l, e_ofL, List.map_cons, List.map_nil, List.replicate, List.cons_append, List.nil_append, List.append_nil, xs_cons, xs_nil, x_set, x_exp, x_iff, x_ret, x_for, x_asg, cnd, tst, turnV, bdy, bindT_nm, es_cons, es_nil, e_var, e_lit, e_cmp, e_bin, e_and, e_or, e_not, e_tup, e_prm, e_ix, prmV_1, prm_int, List.getElem?_cons_zero, List.getElem?_cons_succ, R.bind_ok, R.thn_ok, List.set, RF.thn_nx, thn_rt, RF.turn_nx, turn_rt, binA_i, binV_d, binD_add, binD_sub, cmpV_d, cmpD_eqi, cmpD_nei, cmpD_le, cmpD_lt, cmpD_ge, cmpD_gt, tru_b, toDs_cons, toDs_nil, toD_d, if_true, if_false, Bool.false_eq_true, Bool.not_true, Bool.not_false, decide_true, decide_false, ev_call, and_true, true_and, and_false, false_and, not_true_eq_false, not_false_eq_true, ne_eq, t_0, t_1, s1, s2, R.thn_er, R.bind_er, thn_er]
theorem x_least {u v w : Int} (bad : ((inR 1000 u && inR 1000 v) && (inR 1000 w && (decide (u ≤ 60) && decide (v ≤ 60)))) = false) : callR F (O F (k + 1)) f_least_box [.d (.int u), .d (.int v), .d (.int w)] h = .er ⟨0, none⟩ h := by
  refine call_pe (ds := [.int u, .int v, .int w]) (h1 := []) rfl rfl ?_
  have s2 := c_brick (F := F) (C := O F k) (h := []) u v
  cases e1 : (inR 1000 u && inR 1000 v) with
  | false =>
    rw [e1] at s2
    simp only [Ip.run, f_least_box, b_least_box, e_ife, ex_val, srcV_t, srcV_l, e_ofL, List.map_cons, List.map_nil, List.replicate, List.cons_append, List.nil_append, List.append_nil, xs_cons, xs_nil, x_set, x_exp, x_iff, x_ret, x_for, x_asg, cnd, tst, turnV, bdy, bindT_nm, es_cons, es_nil, e_var, e_lit, e_cmp, e_bin, e_and, e_or, e_not, e_tup, e_prm, e_ix, prmV_1, prm_int, List.getElem?_cons_zero, List.getElem?_cons_succ, R.bind_ok, R.thn_ok, List.set, RF.thn_nx, thn_rt, RF.turn_nx, turn_rt, binA_i, binV_d, binD_add, binD_sub, cmpV_d, cmpD_eqi, cmpD_nei, cmpD_le, cmpD_lt, cmpD_ge, cmpD_gt, tru_b, toDs_cons, toDs_nil, toD_d, if_true, if_false, Bool.false_eq_true, Bool.not_true, Bool.not_false, decide_true, decide_false, ev_call, and_true, true_and, and_false, false_and, not_true_eq_false, not_false_eq_true, ne_eq, t_1, s2, R.thn_er, R.bind_er, thn_er]
  | true =>
    rw [e1, Bool.true_and] at bad
    rw [e1, if_pos rfl] at s2
    unfold inR at bad
    by_cases h1 : (1 : Int) ≤ w <;> by_cases h2 : w ≤ 1000 <;> by_cases h3 : u ≤ 60 <;> by_cases h4 : v ≤ 60 <;> simp only [h1, h2, h3, h4, decide_true, decide_false, Bool.and_self, Bool.and_true, Bool.and_false, Bool.false_and, Bool.true_and, Bool.true_eq_false] at bad
    all_goals
      have k3 : ((60 : Int) < u) = ¬ u ≤ 60 := by rw [Int.not_le]
      have k4 : ((60 : Int) < v) = ¬ v ≤ 60 := by rw [Int.not_le]
      simp only [Ip.run, f_least_box, b_least_box, e_ife, ex_val, srcV_t, srcV_l, e_ofL, List.map_cons, List.map_nil, List.replicate, List.cons_append, List.nil_append, List.append_nil, xs_cons, xs_nil, x_set, x_exp, x_iff, x_ret, x_for, x_asg, cnd, tst, turnV, bdy, bindT_nm, es_cons, es_nil, e_var, e_lit, e_cmp, e_bin, e_and, e_or, e_not, e_tup, e_prm, e_ix, prmV_1, prm_int, List.getElem?_cons_zero, List.getElem?_cons_succ, R.bind_ok, R.thn_ok, List.set, RF.thn_nx, thn_rt, RF.turn_nx, turn_rt, binA_i, binV_d, binD_add, binD_sub, cmpV_d, cmpD_eqi, cmpD_nei, cmpD_le, cmpD_lt, cmpD_ge, cmpD_gt, tru_b, toDs_cons, toDs_nil, toD_d, if_true, if_false, Bool.false_eq_true, Bool.not_true, Bool.not_false, decide_true, decide_false, ev_call, and_true, true_and, and_false, false_and, not_true_eq_false, not_false_eq_true, ne_eq, t_1, s2, e_or, e_chn, k3, k4, h1, h2, h3, h4, x_rse, thn_er, R.thn_er, not_true, not_false_eq_true]
theorem told_er {e : Nat} {w : Str} (hw : toldWs[e]? = some w) : toldV toldWs (.er ⟨e, none⟩ h) = .ok (.d (.tuple [.str w])) h := by
  unfold toldV
  simp only [hw]
theorem c_refuses : callR F (O F (k + 3)) f__law_refuses [] h = .ok (.d (.bool true)) h := by
  refine call_pd (ds := []) (h1 := []) rfl rfl ?_
  have er : ∀ h, toldV toldWs (.er ⟨0, none⟩ h) = .ok (.d (.tuple [.str "refused"])) h := fun h => told_er rfl
  have p6 : okPow 10 6 = true := by decide +kernel
  have b1 := x_can (F := F) (k := k + 1) (h := []) (x := 0) (y := 1) (u := 1) (v := 1) (by decide)
  have b2 := x_can (F := F) (k := k + 1) (h := []) (x := 1) (y := 1000001) (u := 1) (v := 1) (by decide)
  have b3 := x_can (F := F) (k := k + 1) (h := []) (x := 1) (y := 1) (u := 0) (v := 1) (by decide)
  have b4 := x_can (F := F) (k := k + 1) (h := []) (x := 1) (y := 1) (u := 1) (v := 1001) (by decide)
  have b5 := x_bar (F := F) (k := k + 1) (h := []) (x := 1) (y := 0) (u := 1) (v := 1) (by decide)
  have b6 := x_bar (F := F) (k := k + 1) (h := []) (x := 1) (y := 1) (u := -1) (v := 1) (by decide)
  have b7 := x_filling (F := F) (k := k) (h := []) (x := 0) (y := 1) (u := 1) (v := 1) (by decide)
  have b8 := x_filling (F := F) (k := k) (h := []) (x := 1) (y := 1) (u := 1001) (v := 1) (by decide)
  have b9 := x_judge (F := F) (k := k + 1) (h := []) (x := 0) (y := 1) (u := 1) (v := 1) (d := .tuple []) (by decide)
  have b10 := x_judge (F := F) (k := k + 1) (h := []) (x := 1) (y := 1) (u := 0) (v := 1) (d := .tuple [.tuple [.int 0]]) (by decide)
  have b11 := x_least (F := F) (k := k + 1) (h := []) (u := 61) (v := 1) (w := 1) (by decide)
  have b12 := x_least (F := F) (k := k + 1) (h := []) (u := 1) (v := 0) (w := 1) (by decide)
  have b13 := x_least (F := F) (k := k + 1) (h := []) (u := 1) (v := 1) (w := 1001) (by decide)
  have b14 := x_least (F := F) (k := k + 1) (h := []) (u := 1) (v := 1) (w := 0) (by decide)
  have f6 : fits 6 = true := by decide
  have f2 : fits 2 = true := by decide
  have f1 : fits 1 = true := by decide
  have r14 : okRng 14 = true := by decide
  have mil : (10 : Int) ^ (6 : Int).toNat + 1 = 1000001 := rfl
  simp only [Ip.run, f__law_refuses, b__law_refuses, e_ife, ex_val, srcV_t, srcV_l, e_ofL, List.map_cons, List.map_nil, List.replicate, List.cons_append, List.nil_append, List.append_nil, xs_cons, xs_nil, x_set, x_exp, x_iff, x_ret, x_for, x_asg, cnd, tst, turnV, bdy, bindT_nm, es_cons, es_nil, e_var, e_lit, e_cmp, e_bin, e_and, e_or, e_not, e_tup, e_prm, e_ix, prmV_1, prm_int, List.getElem?_cons_zero, List.getElem?_cons_succ, R.bind_ok, R.thn_ok, List.set, RF.thn_nx, thn_rt, RF.turn_nx, turn_rt, binA_i, binV_d, binD_add, binD_sub, cmpV_d, cmpD_eqi, cmpD_nei, cmpD_le, cmpD_lt, cmpD_ge, cmpD_gt, tru_b, toDs_cons, toDs_nil, toD_d, if_true, if_false, Bool.false_eq_true, Bool.not_true, Bool.not_false, decide_true, decide_false, ev_call, and_true, true_and, and_false, false_and, not_true_eq_false, not_false_eq_true, ne_eq, el_dsp, e_told, t_5, t_7, t_8, t_11, t_13, b1, b2, b3, b4, b5, b6, b7, b8, b9, b10, b11, b12, b13, b14, er, binD_pow, p6, mil, e_neg, intV_i, List.length_cons, List.length_nil, Nat.zero_add, Nat.reduceAdd, f6, f2, f1, el_cat, el_rep]
  have ca1 : ∀ h, catL (.d (.list [.tuple [.str "refused"], .tuple [.str "refused"], .tuple [.str "refused"], .tuple [.str "refused"], .tuple [.str "refused"], .tuple [.str "refused"]])) (.d (.list [.tuple [.str "refused"], .tuple [.str "refused"], .tuple [.str "refused"], .tuple [.str "refused"], .tuple [.str "refused"], .tuple [.str "refused"]])) h = .ok ((List.replicate 12 (PyData.tuple [.str "refused"])).map .d) h := fun h => rfl
  have ca2 : ∀ h, catL (.d (.list (List.replicate 12 (PyData.tuple [.str "refused"])))) (.d (.list [.tuple [.str "refused"], .tuple [.str "refused"]])) h = .ok ((List.replicate 14 (PyData.tuple [.str "refused"])).map .d) h := fun h => rfl
  have ca3 : ∀ h, repL [.d (PyData.tuple [.str "refused"])] (.d (.int 14)) h = .ok ((List.replicate 14 (PyData.tuple [.str "refused"])).map .d) h := fun h => rfl
  have eq : cmpD .eq (.list (List.replicate 14 (PyData.tuple [.str "refused"]))) (.list (List.replicate 14 (PyData.tuple [.str "refused"]))) = some true := by decide +kernel
  simp only [ca1, R.bind_ok, toDs_map, R.thn_ok, RF.thn_nx, e_var, List.getElem?_cons_zero, b13, b14, er, toDs_cons, toDs_nil, toD_d, List.length_cons, List.length_nil, Nat.zero_add, Nat.reduceAdd, f2, if_true, ca2, ca3, cmpV_d, eq, thn_rt]
end
end K12

set_option linter.all false
set_option Elab.async false
set_option autoImplicit false
set_option maxRecDepth 100000
namespace K12
open PySem Ip
def M0 : Ip.St := .set 3 (.bin .add (.lit (.int 1)) (.call 16 [(.var 1), (.lit (.int 4))]))
def M1 : Ip.St := .set 4 (.bin .add (.lit (.int 1)) (.call 16 [(.var 1), (.lit (.int 5))]))
def M2 : Ip.St := .set 5 (.bin .add (.lit (.int 1)) (.call 16 [(.var 1), (.ix (.ofL (.dsp [(.lit (.int 7)), (.lit (.int 14))])) (.call 16 [(.var 1), (.lit (.int 2))]))]))
def M3 : Ip.St := .set 6 (.bin .add (.lit (.int 1)) (.call 16 [(.var 1), (.ix (.ofL (.dsp [(.lit (.int 7)), (.lit (.int 14))])) (.call 16 [(.var 1), (.lit (.int 2))]))]))
def M4 : Ip.St := .set 7 (.call 19 [(.var 5), (.var 6), (.var 3), (.var 4)])
def M5 : Ip.St := .iff (.cmp .lt (.bin .mul (.var 5) (.var 6)) (.lit (.int 50))) [.set 19 (.call 20 [(.var 5), (.var 6), (.var 3), (.var 4)]), .iff (.and_ (.cmp .notN (.var 19) (.lit .none)) (.cmp .ne (.var 19) (.cmp .isN (.var 7) (.lit .none)))) [.ret (.lit (.bool false))] []] []
def M6 : Ip.St := .set 8 (.ofL (.dsp [(.told toldWs (.call 5 [(.var 5), (.var 6), (.var 3), (.var 4)])), (.told toldWs (.call 7 [(.var 5), (.var 6), (.var 3), (.var 4)]))]))
def M7 : Ip.St := .iff (.not_ (.call 14 [(.var 8), (.ofL (.dsp [(.tup [(.lit (.str "told")), (.cmp .isN (.var 7) (.lit .none))]), (.ix (.ofL (.dsp [(.tup [(.lit (.str "missing"))]), (.tup [(.lit (.str "told")), (.var 7)])])) (.prm .int [(.cmp .notN (.var 7) (.lit .none))]))]))])) [.ret (.lit (.bool false))] []
def M8 : Ip.St := .set 9 (.told toldWs (.call 8 [(.var 5), (.var 6), (.var 3), (.var 4)]))
def M9 : Ip.St := .set 10 (.ofL (.dsp [(.tupO (.ofL (.cmp [20] (.nm 20) (.rng (.var 5)) [] (.tupO (.ofL (.cmp [21] (.nm 21) (.rng (.var 6)) [] (.bin .add (.bin .mul (.bin .fdiv (.var 20) (.prm .max2 [(.lit (.int 1)), (.var 3)])) (.lit (.int 50))) (.bin .fdiv (.var 21) (.prm .max2 [(.lit (.int 1)), (.var 4)]))))))))), (.tupO (.ofL (.cmp [20] (.nm 20) (.rng (.var 5)) [] (.tupO (.ofL (.cmp [21] (.nm 21) (.rng (.var 6)) [] (.bin .add (.bin .mul (.bin .fdiv (.var 20) (.prm .max2 [(.lit (.int 1)), (.var 4)])) (.lit (.int 50))) (.bin .fdiv (.var 21) (.prm .max2 [(.lit (.int 1)), (.var 3)])))))))))]))
def M10 : Ip.St := .iff (.cmp .notN (.var 7) (.lit .none)) [.iff (.cmp .ne (.var 9) (.tup [(.lit (.str "missing"))])) [.ret (.lit (.bool false))] []] [.iff (.or_ (.cmp .ne (.ix (.var 9) (.lit (.int 0))) (.lit (.str "told"))) (.not_ (.call 21 [(.var 5), (.var 6), (.var 3), (.var 4), (.ix (.var 9) (.lit (.int 1)))]))) [.ret (.lit (.bool false))] [], .set 10 (.ofL (.cat (.var 10) (.ofL (.dsp [(.ix (.var 9) (.lit (.int 1))), (.call 22 [(.var 1), (.ix (.var 9) (.lit (.int 1)))]), (.call 22 [(.var 1), (.ix (.var 9) (.lit (.int 1)))])]))))]
def M11 : Ip.St := .for_ (.nm 11) (.val (.var 10)) [.iff (.not_ (.call 14 [(.told toldWs (.call 11 [(.var 5), (.var 6), (.var 3), (.var 4), (.var 11)])), (.tup [(.lit (.str "told")), (.call 21 [(.var 5), (.var 6), (.var 3), (.var 4), (.var 11)])])])) [.ret (.lit (.bool false))] []]
def M12 : Ip.St := .set 12 (.ofL (.dsp [(.bin .add (.lit (.int 1)) (.call 16 [(.var 1), (.lit (.int 1000))])), (.bin .mul (.bin .add (.lit (.int 1)) (.call 16 [(.var 1), (.lit (.int 1000))])) (.bin .add (.lit (.int 1)) (.call 16 [(.var 1), (.lit (.int 990))])))]))
def M13 : Ip.St := .set 13 (.ofL (.dsp [(.bin .add (.lit (.int 1)) (.call 16 [(.var 1), (.lit (.int 1000))])), (.bin .add (.lit (.int 1)) (.call 16 [(.var 1), (.lit (.int 60))]))]))
def M14 : Ip.St := .set 14 (.ix (.ofL (.dsp [(.tup [(.ix (.var 13) (.lit (.int 0))), (.ix (.var 13) (.lit (.int 1)))]), (.tup [(.ix (.var 13) (.lit (.int 1))), (.ix (.var 13) (.lit (.int 1)))])])) (.call 16 [(.var 1), (.lit (.int 2))]))
def M15 : Ip.St := .set 7 (.call 19 [(.ix (.var 12) (.lit (.int 1))), (.bin .mul (.ix (.var 12) (.lit (.int 0))) (.ix (.var 13) (.lit (.int 1)))), (.ix (.var 14) (.lit (.int 0))), (.ix (.var 14) (.lit (.int 1)))])
def M16 : Ip.St := .set 8 (.ofL (.dsp [(.told toldWs (.call 5 [(.ix (.var 12) (.lit (.int 1))), (.bin .mul (.ix (.var 12) (.lit (.int 0))) (.ix (.var 13) (.lit (.int 1)))), (.ix (.var 14) (.lit (.int 0))), (.ix (.var 14) (.lit (.int 1)))])), (.told toldWs (.call 7 [(.ix (.var 12) (.lit (.int 1))), (.bin .mul (.ix (.var 12) (.lit (.int 0))) (.ix (.var 13) (.lit (.int 1)))), (.ix (.var 14) (.lit (.int 0))), (.ix (.var 14) (.lit (.int 1)))]))]))
def M17 : Ip.St := .iff (.not_ (.call 14 [(.var 8), (.ofL (.dsp [(.tup [(.lit (.str "told")), (.cmp .isN (.var 7) (.lit .none))]), (.ix (.ofL (.dsp [(.tup [(.lit (.str "missing"))]), (.tup [(.lit (.str "told")), (.var 7)])])) (.prm .int [(.cmp .notN (.var 7) (.lit .none))]))]))])) [.ret (.lit (.bool false))] []
def M18 : Ip.St := .set 15 (.bin .add (.lit (.int 1)) (.call 16 [(.var 1), (.lit (.int 12))]))
def M19 : Ip.St := .set 16 (.bin .add (.lit (.int 1)) (.call 16 [(.var 1), (.lit (.int 12))]))
def M20 : Ip.St := .set 17 (.bin .add (.lit (.int 1)) (.call 16 [(.var 1), (.lit (.int 40))]))
def M21 : Ip.St := .set 18 (.ix (.ofL (.cat (.ofL (.cmp [21] (.nm 21) (.rng2 (.lit (.int 1)) (.bin .add (.bin .mul (.var 15) (.var 16)) (.lit (.int 1)))) [(.cmp .isN (.call 19 [(.var 21), (.var 17), (.var 15), (.var 16)]) (.lit .none))] (.var 21))) (.ofL (.dsp [(.lit .none)])))) (.lit (.int 0)))
def M22 : Ip.St := .iff (.or_ (.not_ (.call 14 [(.told toldWs (.call 13 [(.var 15), (.var 16), (.var 17)])), (.tup [(.lit (.str "told")), (.var 18)])])) (.not_ (.call 23 []))) [.ret (.lit (.bool false))] []
def bodyT : List Ip.St := [M0, M1, M2, M3, M4, M5, M6, M7, M8, M9, M10, M11, M12, M13, M14, M15, M16, M17, M18, M19, M20, M21, M22]
def ML : Ip.St := .ret (.and_ (.cmp .eq (.told toldWs (.call 8 [(.lit (.int 61)), (.lit (.int 2)), (.lit (.int 1)), (.lit (.int 2))])) (.tup [(.lit (.str "large"))])) (.cmp .eq (.told toldWs (.call 8 [(.lit (.int 61)), (.lit (.int 3)), (.lit (.int 2)), (.lit (.int 2))])) (.tup [(.lit (.str "missing"))])))
theorem b_is : b_law = [.set 1 (.new (.dsp [(.call 15 [(.var 0)]), (.lit (.int 0))])), .for_ (.nm 2) (.rng (.lit (.int 5))) bodyT, ML] := rfl

theorem rs0 : Rs [] := fun x hx => by cases hx
/-! ### numbers drawn -/
section
variable {F j : Nat} {C : List Orc} {h : Hq} {ns : List Int} {i : Int} {σ : Sg}
theorem nxE (hn : Nm ns) {m : Int} (hi : 0 ≤ i) (hi2 : i < 1000000) (hm : 0 < m) (h1 : σ[1]? = some (some (.ref 0))) :
    ∃ v : Nat, (v : Int) < m ∧ ev F (O F (j + 1)) (.call 16 [(.var 1), (.lit (.int m))]) σ (SH ns i []) = .ok (V v) (SH ns (i + 1) []) := by
  obtain ⟨v, a, b, e⟩ := nx (F := F) (C := O F j) hn (m := m) rs0 hi hi2 hm
  obtain ⟨n, rfl⟩ := Int.eq_ofNat_of_zero_le a
  refine ⟨n, b, ?_⟩
  simp only [ev_call, es_cons, es_nil, e_var, h1, e_lit, R.bind_ok, t_16, e]
theorem d1 (hn : Nm ns) {m : Int} (hi : 0 ≤ i) (hi2 : i < 1000000) (hm : 0 < m) (h1 : σ[1]? = some (some (.ref 0))) :
    ∃ v : Nat, 0 < v ∧ (v : Int) ≤ m ∧ ev F (O F (j + 1)) (.bin .add (.lit (.int 1)) (.call 16 [(.var 1), (.lit (.int m))])) σ (SH ns i []) = .ok (V v) (SH ns (i + 1) []) := by
  obtain ⟨v, b, e⟩ := nxE (F := F) (j := j) hn hi hi2 hm h1
  refine ⟨1 + v, by omega, by omega, ?_⟩
  rw [e_bin, e_lit]
  simp only [R.bind_ok, e, binA_i, binV_d, binD_add]
  rw [show (1 : Int) + (v : Int) = ((1 + v : Nat) : Int) by omega]
theorem d2 (hn : Nm ns) (hi : 0 ≤ i) (hi2 : i < 900000) (h1 : σ[1]? = some (some (.ref 0))) :
    ∃ v : Nat, 0 < v ∧ v ≤ 14 ∧ ev F (O F (j + 1)) (.bin .add (.lit (.int 1)) (.call 16 [(.var 1), (.ix (.ofL (.dsp [(.lit (.int 7)), (.lit (.int 14))])) (.call 16 [(.var 1), (.lit (.int 2))]))])) σ (SH ns i []) = .ok (V v) (SH ns (i + 2) []) := by
  obtain ⟨w, b, e⟩ := nxE (F := F) (j := j) hn (m := 2) hi (by omega) (by decide) h1
  have f2 : fits 2 = true := by decide
  have hv : ∃ m : Int, 0 < m ∧ m ≤ 14 ∧ ixV (.d (.list [.int 7, .int 14])) (V w) (SH ns (i + 1) []) = .ok (.d (.int m)) (SH ns (i + 1) []) := by
    have : w = 0 ∨ w = 1 := by omega
    rcases this with rfl | rfl
    · exact ⟨7, by decide, by decide, by rw [ixV_l]; rfl⟩
    · exact ⟨14, by decide, by decide, by rw [ixV_l]; rfl⟩
  obtain ⟨m, m0, m1, em⟩ := hv
  obtain ⟨u, a2, b2, e2⟩ := nx (F := F) (C := O F j) hn (m := m) (i := i + 1) rs0 (by omega) (by omega) m0
  obtain ⟨u, rfl⟩ := Int.eq_ofNat_of_zero_le a2
  refine ⟨1 + u, by omega, by omega, ?_⟩
  rw [show i + 2 = i + 1 + 1 by omega]
  have k2 : ev F (O F (j + 1)) (.ix (.ofL (.dsp [(.lit (.int 7)), (.lit (.int 14))])) (.call 16 [(.var 1), (.lit (.int 2))])) σ (SH ns i []) = .ok (.d (.int m)) (SH ns (i + 1) []) := by
    rw [e_ix]
    simp only [e_ofL, el_dsp, es_cons, es_nil, e_lit, R.bind_ok, List.length_cons, List.length_nil, Nat.zero_add, Nat.reduceAdd, f2, if_true, toDs_cons, toDs_nil, toD_d, e, em]
  have key : ev F (O F (j + 1)) (.call 16 [(.var 1), (.ix (.ofL (.dsp [(.lit (.int 7)), (.lit (.int 14))])) (.call 16 [(.var 1), (.lit (.int 2))]))]) σ (SH ns i []) = .ok (.d (.int (u : Int))) (SH ns (i + 1 + 1) []) := by
    simp only [ev_call, es_cons, es_nil, e_var, h1, R.bind_ok, t_16]
    rw [show ev F (orcs (fnsOf rows) F (j + 1)) (.ix (.ofL (.dsp [(.lit (.int 7)), (.lit (.int 14))])) (.call 16 [(.var 1), (.lit (.int 2))])) σ (SH ns i []) = _ from k2]
    simp only [R.bind_ok, e2]
  rw [e_bin, e_lit]
  simp only [R.bind_ok, key, binA_i, binV_d, binD_add]
  rw [show (1 : Int) + (u : Int) = ((1 + u : Nat) : Int) by omega]
/-! ### a table bent -/
theorem TT_len {T : List (List Int)} : prmD .len [TT T] = some (.int (T.length : Int)) := by unfold TT; rw [prm_lent, List.length_map]
theorem row_len {r : List Int} : prmD .len [tupI r] = some (.int (r.length : Int)) := by unfold tupI; rw [prm_lent, List.length_map]
theorem cutT {T : List (List Int)} {l u : Option Int} : slcV (.d (TT T)) l u h = .ok (.d (TT (cutD T l u))) h := by
  unfold TT
  rw [slc_t, cutD_map]
theorem cutR {r : List Int} {l u : Option Int} : slcV (.d (tupI r)) l u h = .ok (.d (tupI (cutD r l u))) h := by
  unfold tupI
  rw [slc_t, cutD_map]
theorem cut_len {α : Type} (xs : List α) (l u : Option Int) : (cutD xs l u).length ≤ xs.length := by
  unfold cutD
  rw [List.length_take, List.length_drop]; omega
theorem addT {S T : List (List Int)} (hl : S.length + T.length ≤ 16777216) : binA .add (.d (TT S)) (.d (TT T)) h = .ok (.d (TT (S ++ T))) h := by
  unfold TT
  rw [cat_tup (by rw [List.length_map, List.length_map]; exact hl), List.map_append]
theorem addR {S T : List Int} (hl : S.length + T.length ≤ 16777216) : binA .add (.d (tupI S)) (.d (tupI T)) h = .ok (.d (tupI (S ++ T))) h := by
  unfold tupI
  rw [cat_tup (by rw [List.length_map, List.length_map]; exact hl), List.map_append]
theorem c_bent {T : List (List Int)} {H W : Nat} (hn : Nm ns) (hi : 0 ≤ i) (hi2 : i < 900000) (dm : dimB T H W = true) (H0 : 0 < H) (W0 : 0 < W) (H1 : H ≤ 1000) (W1 : W ≤ 1000) :
    ∃ T', T'.length ≤ 2001 ∧ callR F (O F (j + 1)) f__law_bent [.ref 0, .d (TT T)] (SH ns i []) = .ok (.d (TT T')) (SH ns (i + 3) []) := by
  have hTH : T.length = H := by
    unfold dimB at dm
    rw [Bool.and_eq_true, decide_eq_true_eq] at dm
    exact dm.1
  obtain ⟨r0, er0, lr0⟩ := dim_row dm H0
  obtain ⟨u, a1, b1, e1⟩ := nx (F := F) (C := O F j) hn (m := (H : Int)) (i := i) rs0 hi (by omega) (by omega)
  obtain ⟨u, rfl⟩ := Int.eq_ofNat_of_zero_le a1
  obtain ⟨v, a2, b2, e2⟩ := nx (F := F) (C := O F j) hn (m := (W : Int)) (i := i + 1) rs0 (by omega) (by omega) (by omega)
  obtain ⟨v, rfl⟩ := Int.eq_ofNat_of_zero_le a2
  obtain ⟨w, a3, b3, e3⟩ := nx (F := F) (C := O F j) hn (m := 4) (i := i + 1 + 1) rs0 (by omega) (by omega) (by decide)
  obtain ⟨w, rfl⟩ := Int.eq_ofNat_of_zero_le a3
  rw [show i + 3 = i + 1 + 1 + 1 by omega]
  obtain ⟨ru, eru, lru⟩ := dim_row dm (show u < H by omega)
  have xu := fun h : Hq => ix_TT (h := h) eru
  have x0 := fun h : Hq => ix_TT (h := h) er0
  have x0 : ∀ h : Hq, ixV (.d (TT T)) (.d (.int 0)) h = .ok (.d (tupI r0)) h := x0
  have xv := fun h : Hq => ix_row (h := h) (r := ru) (k := v) (by omega)
  have cu := fun (l u : Option Int) (h : Hq) => cutT (T := T) (l := l) (u := u) (h := h)
  have cr := fun (l u : Option Int) (h : Hq) => cutR (r := ru) (l := l) (u := u) (h := h)
  suffices hr : ∃ T', T'.length ≤ 2001 ∧ exs F (O F (j + 1)) b__law_bent [some (.ref 0), some (.d (TT T)), none, none, none, none] (SH ns i []) = .ok (.rt (.d (TT T'))) (SH ns (i + 1 + 1 + 1) []) by
    obtain ⟨T', hT', e⟩ := hr
    refine ⟨T', hT', ?_⟩
    have rn : Ip.run F (O F (j + 1)) f__law_bent [.ref 0, .d (TT T)] (SH ns i []) = .ok (.d (TT T')) (SH ns (i + 1 + 1 + 1) []) := by
      show (match exs F (O F (j + 1)) b__law_bent [some (.ref 0), some (.d (TT T)), none, none, none, none] (SH ns i []) with
        | .ok (.rt v) h1 => R.ok v h1
        | .ok (.nx _) h1 => .ok (.d .none) h1
        | .er e _ h1 => .er e h1
        | _ => .no) = _
      rw [e]
    exact call_s (W := F) (C := O F (j + 1)) (fn := f__law_bent) (vs := [.ref 0, .d (TT T)]) (h := SH ns i []) rfl rfl rn rfl rfl
  have hd : b__law_bent = .set 2 (.call 16 [(.var 0), (.prm .len [(.var 1)])]) :: .set 3 (.call 16 [(.var 0), (.prm .len [(.ix (.var 1) (.lit (.int 0)))])]) :: .set 4 (.call 16 [(.var 0), (.lit (.int 4))]) :: b__law_bent.drop 3 := rfl
  have s1 : ex F (O F (j + 1)) (.set 2 (.call 16 [(.var 0), (.prm .len [(.var 1)])])) [some (.ref 0), some (.d (TT T)), none, none, none, none] (SH ns i []) = .ok (.nx [some (.ref 0), some (.d (TT T)), some (V u), none, none, none]) (SH ns (i + 1) []) := by
    simp only [x_set, ev_call, es_cons, es_nil, e_var, e_prm, List.getElem?_cons_zero, List.getElem?_cons_succ, R.bind_ok, prmV_1, TT_len, hTH, t_16, e1, R.thn_ok, List.set]
  have s2 : ex F (O F (j + 1)) (.set 3 (.call 16 [(.var 0), (.prm .len [(.ix (.var 1) (.lit (.int 0)))])])) [some (.ref 0), some (.d (TT T)), some (V u), none, none, none] (SH ns (i + 1) []) = .ok (.nx [some (.ref 0), some (.d (TT T)), some (V u), some (V v), none, none]) (SH ns (i + 1 + 1) []) := by
    simp only [x_set, ev_call, es_cons, es_nil, e_var, e_lit, e_ix, e_prm, List.getElem?_cons_zero, List.getElem?_cons_succ, R.bind_ok, x0, prmV_1, row_len, lr0, t_16, e2, R.thn_ok, List.set]
  have s3 : ex F (O F (j + 1)) (.set 4 (.call 16 [(.var 0), (.lit (.int 4))])) [some (.ref 0), some (.d (TT T)), some (V u), some (V v), none, none] (SH ns (i + 1 + 1) []) = .ok (.nx [some (.ref 0), some (.d (TT T)), some (V u), some (V v), some (V w), none]) (SH ns (i + 1 + 1 + 1) []) := by
    simp only [x_set, ev_call, es_cons, es_nil, e_var, e_lit, List.getElem?_cons_zero, List.getElem?_cons_succ, R.bind_ok, t_16, e3, R.thn_ok, List.set]
  rw [hd, xs_cons, s1, RF.thn_nx, xs_cons, s2, RF.thn_nx, xs_cons, s3, RF.thn_nx]
  generalize SH ns (i + 1 + 1 + 1) [] = h3
  have one : ∀ (x : Int), PyData.tuple [.int x] = tupI [x] := fun x => rfl
  have oneT : ∀ (r : List Int), PyData.tuple [tupI r] = TT [r] := fun r => rfl
  have c1 := cut_len T none (some (u : Int))
  have c2 := cut_len T (some ((u : Int) + 1)) none
  have c3 := cut_len ru none (some (v : Int))
  have c4 := cut_len ru (some ((v : Int) + 1)) none
  have c5 := cut_len T (some (u : Int)) none
  have c6 := cut_len T (some 1) none
  have dz : b__law_bent.drop 3 = [.iff (.cmp .eq (.var 4) (.lit (.int 0)))
     [.ret (.bin .add (.bin .add (.slc (.var 1) none (some (.var 2))) (.tup [(.bin .add (.bin .add (.slc (.ix (.var 1) (.var 2)) none (some (.var 3))) (.tup [(.bin .add (.ix (.ix (.var 1) (.var 2)) (.var 3)) (.lit (.int 1)))])) (.slc (.ix (.var 1) (.var 2)) (some (.bin .add (.var 3) (.lit (.int 1)))) none))])) (.slc (.var 1) (some (.bin .add (.var 2) (.lit (.int 1)))) none))]
     [],
   .iff (.cmp .eq (.var 4) (.lit (.int 1))) [.ret (.bin .add (.slc (.var 1) (some (.var 2)) none) (.slc (.var 1) none (some (.var 2))))] [],
   .iff (.cmp .eq (.var 4) (.lit (.int 2))) [.ret (.tupO (.ofL (.cmp [5] (.nm 5) (.val (.var 1)) [] (.rev (.var 5)))))] [],
   .ret (.slc (.var 1) (some (.lit (.int 1))) none)] := rfl
  rw [dz]
  have hw : w = 0 ∨ w = 1 ∨ w = 2 ∨ w = 3 := by omega
  rcases hw with rfl | rfl | rfl | rfl
  · have p1 := addR (h := h3) (S := cutD ru none (some (v : Int))) (T := [ru.getD v 0 + 1]) (by simp; omega)
    have p2 := addR (h := h3) (S := cutD ru none (some (v : Int)) ++ [ru.getD v 0 + 1]) (T := cutD ru (some ((v : Int) + 1)) none) (by simp; omega)
    have p3 := addT (h := h3) (S := cutD T none (some (u : Int))) (T := [cutD ru none (some (v : Int)) ++ [ru.getD v 0 + 1] ++ cutD ru (some ((v : Int) + 1)) none]) (by simp; omega)
    have p4 := addT (h := h3) (S := cutD T none (some (u : Int)) ++ [cutD ru none (some (v : Int)) ++ [ru.getD v 0 + 1] ++ cutD ru (some ((v : Int) + 1)) none]) (T := cutD T (some ((u : Int) + 1)) none) (by simp; omega)
    refine ⟨cutD T none (some (u : Int)) ++ [cutD ru none (some (v : Int)) ++ [ru.getD v 0 + 1] ++ cutD ru (some ((v : Int) + 1)) none] ++ cutD T (some ((u : Int) + 1)) none, ?_, ?_⟩
    rotate_left
    · simp only [xs_cons, xs_nil, x_iff, cnd, tst, e_cmp, e_var, e_lit, List.getElem?_cons_zero, List.getElem?_cons_succ, R.bind_ok, cmpV_d, cmpD_eqi, Int.natCast_zero, decide_true, tru_b, R.thn_ok, if_true, x_ret, e_bin, e_slc, eo_none, eo_some, intV_i, cu, cr, e_tup, es_cons, es_nil, e_ix, xu, xv, binA_i, binV_d, binD_add, toDs_cons, toDs_nil, toD_d, one, oneT, p1, p2, p3, p4, thn_rt, show decide (((0 : Nat) : Int) = 0) = true from rfl]
    · simp; omega
  · have p1 := addT (h := h3) (S := cutD T (some (u : Int)) none) (T := cutD T none (some (u : Int))) (by omega)
    refine ⟨cutD T (some (u : Int)) none ++ cutD T none (some (u : Int)), ?_, ?_⟩
    rotate_left
    · simp only [xs_cons, xs_nil, x_iff, cnd, tst, e_cmp, e_var, e_lit, List.getElem?_cons_zero, List.getElem?_cons_succ, R.bind_ok, cmpV_d, cmpD_eqi, tru_b, R.thn_ok, if_true, if_false, Bool.false_eq_true, RF.thn_nx, x_ret, e_bin, e_slc, eo_none, eo_some, intV_i, cu, p1, thn_rt, show decide (((1 : Nat) : Int) = 0) = false from rfl, show decide (((1 : Nat) : Int) = 1) = true from rfl]
    · rw [List.length_append]; omega
  · have mm : (T.map tupI).map Val.d = T.map fun r => Val.d (tupI r) := by rw [List.map_map]; rfl
    have ft : fits T.length = true := fits_le (by omega)
    have sv : srcV (.d (TT T)) h3 = .ok (.data (T.map fun r => Val.d (tupI r))) h3 := by unfold TT; rw [srcV_t, mm]
    have it := cmp_fn (h := h3) (f := itm F (O F (j + 1)) [5] (.nm 5) [] (.rev (.var 5)) [some (.ref 0), some (.d (TT T)), some (V u), some (V v), some (V 2), none]) tupI (fun r => tupI r.reverse) T (fun r _ => by
      have rv : revV (.d (tupI r)) h3 = .ok (.d (tupI r.reverse)) h3 := by
        unfold tupI
        show R.ok (Val.d (.tuple (r.map PyData.int).reverse)) h3 = _
        rw [List.map_reverse]
      unfold itm
      simp only [wipe, List.set, bindT_nm, ei_nil, R.bind_ok, if_true, e_rev, e_var, List.getElem?_cons_zero, List.getElem?_cons_succ, rv, R.quiet_ok])
    have tv : tupV (.d (.list (T.map fun r => tupI r.reverse))) h3 = .ok (.d (TT (T.map List.reverse))) h3 := by
      show ((toDs ((T.map fun r => tupI r.reverse).map Val.d) h3).bind fun ds h1 => R.ok (Val.d (.tuple ds)) h1) = _
      rw [toDs_map]
      unfold TT
      rw [List.map_map]; rfl
    refine ⟨T.map List.reverse, by rw [List.length_map]; omega, ?_⟩
    simp only [xs_cons, xs_nil, x_iff, cnd, tst, e_cmp, e_var, e_lit, List.getElem?_cons_zero, List.getElem?_cons_succ, R.bind_ok, cmpV_d, cmpD_eqi, tru_b, R.thn_ok, if_true, if_false, Bool.false_eq_true, RF.thn_nx, x_ret, show decide (((2 : Nat) : Int) = 0) = false from rfl, show decide (((2 : Nat) : Int) = 1) = false from rfl, show decide (((2 : Nat) : Int) = 2) = true from rfl, e_tupO, e_ofL, el_cmp, ex_val, sv, List.length_map, ft]
    rw [it]
    simp only [R.bind_ok, toDs_fn, tv, R.thn_ok, thn_rt]
  · refine ⟨cutD T (some 1) none, by omega, ?_⟩
    simp only [xs_cons, xs_nil, x_iff, cnd, tst, e_cmp, e_var, e_lit, List.getElem?_cons_zero, List.getElem?_cons_succ, R.bind_ok, cmpV_d, cmpD_eqi, tru_b, R.thn_ok, if_true, if_false, Bool.false_eq_true, RF.thn_nx, x_ret, show decide (((3 : Nat) : Int) = 0) = false from rfl, show decide (((3 : Nat) : Int) = 1) = false from rfl, show decide (((3 : Nat) : Int) = 2) = false from rfl, e_slc, eo_none, eo_some, intV_i, cu, thn_rt]
end
end K12

set_option linter.all false
set_option Elab.async false
set_option autoImplicit false
set_option maxRecDepth 100000
namespace K12
open PySem Ip
/-! ### what repr is asked of -/
structure Sw (d s : Nat) (x : D) : Prop where
  sh : x.showable = true
  nd : x.hasDict = false
  dp : x.depth ≤ d
  sz : Ip.sz x ≤ s
theorem sw_bool (b : Bool) : Sw 0 5 (.bool b) := ⟨rfl, rfl, Nat.le_refl _, Nat.le_refl _⟩
theorem sw_none : Sw 0 4 .none := ⟨rfl, rfl, Nat.le_refl _, Nat.le_refl _⟩
theorem sw_int {n : Nat} (h : n < 1000000000) : Sw 0 2000 (.int (n : Int)) := by
  have o := OkR.int (n := 40) (x := (n : Int)) (by unfold Sm; omega) (by decide)
  exact ⟨o.sh, rfl, Nat.le_refl _, Nat.le_refl _⟩
theorem sw_str {s : Str} (h : s.cps.toList.all (fun c => decide (c < 16 ^ 8)) = true) (hl : s.length ≤ 20) : Sw 0 300 (.str s) := by
  refine ⟨rfl, rfl, Nat.le_refl _, ?_⟩
  have := StrLaws.reprText_len s (fun c hc => by simpa using List.all_eq_true.mp h c hc)
  show (reprText s).length ≤ 300
  omega
theorem sw_1 {d s : Nat} {x : D} (a : Sw d s x) : Sw (d + 1) (s + 6) (.tuple [x]) := by
  refine ⟨?_, ?_, ?_, ?_⟩
  · show (x.showable && true) = true
    rw [a.sh]; rfl
  · show (x.hasDict || false) = false
    rw [a.nd]; rfl
  · show max x.depth 0 + 1 ≤ d + 1
    have := a.dp
    omega
  · show 4 + (Ip.sz x + 2 + 0) ≤ s + 6
    have := a.sz
    omega
theorem sw_2 {d s e t : Nat} {x y : D} (a : Sw d s x) (b : Sw e t y) : Sw (max d e + 1) (s + t + 8) (.tuple [x, y]) := by
  refine ⟨?_, ?_, ?_, ?_⟩
  · show (x.showable && (y.showable && true)) = true
    rw [a.sh, b.sh]; rfl
  · show (x.hasDict || (y.hasDict || false)) = false
    rw [a.nd, b.nd]; rfl
  · show max x.depth (max y.depth 0) + 1 ≤ max d e + 1
    have := a.dp
    have := b.dp
    omega
  · show 4 + (Ip.sz x + 2 + (Ip.sz y + 2 + 0)) ≤ s + t + 8
    have := a.sz
    have := b.sz
    omega
theorem sw_l2 {d s e t : Nat} {x y : D} (a : Sw d s x) (b : Sw e t y) : Sw (max d e + 1) (s + t + 8) (.list [x, y]) := by
  refine ⟨?_, ?_, ?_, ?_⟩
  · show (x.showable && (y.showable && true)) = true
    rw [a.sh, b.sh]; rfl
  · show (x.hasDict || (y.hasDict || false)) = false
    rw [a.nd, b.nd]; rfl
  · show max x.depth (max y.depth 0) + 1 ≤ max d e + 1
    have := a.dp
    have := b.dp
    omega
  · show 2 + (Ip.sz x + 2 + (Ip.sz y + 2 + 0)) ≤ s + t + 8
    have := a.sz
    have := b.sz
    omega
theorem Sw.mono {d s d' s' : Nat} {x : D} (a : Sw d s x) (h1 : d ≤ d') (h2 : s ≤ s') : Sw d' s' x := ⟨a.sh, a.nd, Nat.le_trans a.dp h1, Nat.le_trans a.sz h2⟩
theorem Sw.ok {d s : Nat} {x : D} (a : Sw d s x) (h1 : d ≤ 50) (h2 : s ≤ 16000000) : OkR x := ⟨a.sh, a.nd, by have := a.dp; omega, by have := a.sz; omega⟩
theorem st_told : Sw 0 300 (.str "told") := sw_str (by decide +kernel) (by decide +kernel)
theorem st_miss : Sw 0 300 (.str "missing") := sw_str (by decide +kernel) (by decide +kernel)
theorem st_bar : Sw 0 300 (.str "part") ∧ Sw 0 300 (.str "side") ∧ Sw 0 300 (.str "rows") ∧ Sw 0 300 (.str "columns") :=
  ⟨sw_str (by decide +kernel) (by decide +kernel), sw_str (by decide +kernel) (by decide +kernel), sw_str (by decide +kernel) (by decide +kernel), sw_str (by decide +kernel) (by decide +kernel)⟩
section
variable {F j : Nat} {C : List Orc} {h : Hq} {ns : List Int} {i : Int} {σ : Sg} {H W a b : Nat}
theorem bar_sw (z : Sz F H W a b) {x : Str × Nat} (e : barOf H W a b = some x) : Sw 1 2308 (barD (some x)) := by
  have g1 := z.pa
  have hH := z.hH
  have hW := z.hW
  have ha := z.ha
  have hb := z.hb
  have q1 : H / Nat.gcd a b ≤ H := Nat.div_le_self _ _
  have q2 : W / Nat.gcd a b ≤ W := Nat.div_le_self _ _
  have q3 : a / Nat.gcd a b ≤ a := Nat.div_le_self _ _
  have q4 : b / Nat.gcd a b ≤ b := Nat.div_le_self _ _
  have key : (x.1 = ("part" : Str) ∨ x.1 = ("side" : Str) ∨ x.1 = ("rows" : Str) ∨ x.1 = ("columns" : Str)) ∧ x.2 < 1000000000 := by
    unfold barOf at e
    split at e
    · unfold barR at e
      split at e
      · cases e; exact ⟨.inr (.inl rfl), by simp only; omega⟩
      · split at e
        · cases e; exact ⟨.inr (.inl rfl), by simp only; omega⟩
        · split at e
          · cases e; exact ⟨.inr (.inr (.inl rfl)), by simp only; omega⟩
          · split at e
            · cases e; exact ⟨.inr (.inr (.inr rfl)), by simp only; omega⟩
            · cases e
    · cases e; exact ⟨.inl rfl, by simp only; omega⟩
  obtain ⟨k1, k2⟩ := key
  have s1 : Sw 0 300 (.str x.1) := by
    obtain ⟨t1, t2, t3, t4⟩ := st_bar
    rcases k1 with e | e | e | e <;> rw [e] <;> assumption
  exact sw_2 s1 (sw_int k2)
def toldBar : Option (Str × Nat) → D
  | none => .tuple [.str "missing"]
  | some x => .tuple [.str "told", barD (some x)]
theorem toldBar_sw (z : Sz F H W a b) : Sw 2 2700 (toldBar (barOf H W a b)) := by
  cases e : barOf H W a b with
  | none => exact (sw_1 st_miss).mono (by decide) (by decide)
  | some x => exact (sw_2 st_told (bar_sw z e)).mono (by decide) (by decide)
def toldL (x : Option (Str × Nat)) : D := .list [.tuple [.str "told", .bool x.isNone], toldBar x]
theorem toldL_ok (z : Sz F H W a b) : OkR (toldL (barOf H W a b)) := (sw_l2 (sw_2 st_told (sw_bool _)) (toldBar_sw z)).ok (by decide) (by decide)
theorem told_m (e : Nat) (w : Str) (h : Hq) (hw : toldWs[e]? = some w) : toldV toldWs (.er ⟨e, none⟩ h) = .ok (.d (.tuple [.str w])) h := told_er hw
theorem f2 : fits 2 = true := by decide
/-- can_fill and bar, told -/
theorem told_ev (z : Rg F H W a b) {xs : List Ex} (hx : evs F (O F (j + 6)) xs σ h = .ok [V H, V W, V a, V b] h) : ev F (O F (j + 6)) (.ofL (.dsp [(.told toldWs (.call 5 xs)), (.told toldWs (.call 7 xs))])) σ h = .ok (.d (toldL (barOf H W a b))) h := by
  have c1 : callR F (O F (j + 5)) f_can_fill [V H, V W, V a, V b] h = _ := c_can (k := j + 2) z
  have c2 : callR F (O F (j + 5)) f_bar [V H, V W, V a, V b] h = _ := c_bar (k := j + 2) z
  have k1 : ev F (O F (j + 6)) (.told toldWs (.call 5 xs)) σ h = .ok (.d (.tuple [.str "told", .bool (barOf H W a b).isNone])) h := by
    simp only [e_told, ev_call, hx, R.bind_ok, t_5, c1, told_v]
  have k2 : ev F (O F (j + 6)) (.told toldWs (.call 7 xs)) σ h = .ok (.d (toldBar (barOf H W a b))) h := by
    simp only [e_told, ev_call, hx, R.bind_ok, t_7, c2]
    cases barOf H W a b with
    | none => exact told_er rfl
    | some x => exact told_v
  rw [e_ofL, el_dsp, es_cons, k1]
  simp only [R.bind_ok, es_cons, es_nil, k2, List.length_cons, List.length_nil, Nat.zero_add, Nat.reduceAdd, f2, if_true, toDs_cons, toDs_nil, toD_d, toldL]
theorem due_ev {x : Option (Str × Nat)} (h7 : σ[7]? = some (some (.d (barD x)))) : ev F C (.ofL (.dsp [(.tup [(.lit (.str "told")), (.cmp .isN (.var 7) (.lit .none))]), (.ix (.ofL (.dsp [(.tup [(.lit (.str "missing"))]), (.tup [(.lit (.str "told")), (.var 7)])])) (.prm .int [(.cmp .notN (.var 7) (.lit .none))]))])) σ h = .ok (.d (toldL x)) h := by
  have e1 : ev F C (.ix (.ofL (.dsp [(.tup [(.lit (.str "missing"))]), (.tup [(.lit (.str "told")), (.var 7)])])) (.prm .int [(.cmp .notN (.var 7) (.lit .none))])) σ h = .ok (.d (toldBar x)) h := by
    simp only [e_ix, e_ofL, el_dsp, es_cons, es_nil, e_tup, e_lit, e_var, h7, R.bind_ok, toDs_cons, toDs_nil, toD_d, List.length_cons, List.length_nil, Nat.zero_add, Nat.reduceAdd, f2, if_true, e_prm, e_cmp, cmpV_d, notN_bar, prmV_1, prm_intb]
    cases x with
    | none => simp only [Option.isSome_none, Bool.false_eq_true, if_false, ixV_l, List.map_cons, List.map_nil, atD_0, toldBar]
    | some x => simp only [Option.isSome_some, if_true, ixV_l, List.map_cons, List.map_nil, atD_1, toldBar]
  have e2 : ev F C (.tup [(.lit (.str "told")), (.cmp .isN (.var 7) (.lit .none))]) σ h = .ok (.d (.tuple [.str "told", .bool x.isNone])) h := by
    simp only [e_tup, es_cons, es_nil, e_lit, e_cmp, e_var, h7, R.bind_ok, cmpV_d, isN_bar, toDs_cons, toDs_nil, toD_d]
  rw [e_ofL, el_dsp, es_cons, e2]
  simp only [R.bind_ok, es_cons, es_nil, e1, List.length_cons, List.length_nil, Nat.zero_add, Nat.reduceAdd, f2, if_true, toDs_cons, toDs_nil, toD_d, toldL]
/-- two that are alike -/
theorem same_if {x : D} {e1 e2 : Ex} (o : OkR x) (h1 : ev F (O F (j + 6)) e1 σ h = .ok (.d x) h) (h2 : ev F (O F (j + 6)) e2 σ h = .ok (.d x) h) : cnd F (O F (j + 6)) (.not_ (.call 14 [e1, e2])) σ h = .ok false h := by
  have sm := same_ok (W := F) (C := O F (j + 5)) (h := h) o
  unfold cnd tst
  simp only [e_not, ev_call, es_cons, es_nil, h1, h2, R.bind_ok, t_14, sm, tru_b, Bool.not_true]
theorem m4 (z : Sz F H W a b) {xs : List Ex} (hx : evs F (O F (j + 6)) xs σ h = .ok [V H, V W, V a, V b] h) : ex F (O F (j + 6)) (.set 7 (.call 19 xs)) σ h = .ok (.nx (σ.set 7 (some (.d (barD (barOf H W a b)))))) h := by
  have c1 : callR F (O F (j + 5)) f__law_bar [V H, V W, V a, V b] h = _ := c_lbar (k := j + 4) z
  simp only [x_set, ev_call, hx, R.bind_ok, t_19, c1, R.thn_ok]
theorem m5 (s : Small H W a b) (h3 : σ[3]? = some (some (V a))) (h4 : σ[4]? = some (some (V b))) (h5 : σ[5]? = some (some (V H))) (h6 : σ[6]? = some (some (V W))) (h7 : σ[7]? = some (some (.d (barD (barOf H W a b))))) (hl : σ.length = 22) : ∃ c19, ex F (O F (j + 6)) M5 σ h = .ok (.nx (σ.set 19 c19)) h := by
  have l1 := s.H1
  have l2 := s.W1
  have m1 := okM H W (by omega) (by omega)
  have dd : decide ((H : Int) * (W : Int) < 50) = decide (H * W < 50) := decide_eq_decide.mpr (by rw [← Int.natCast_mul]; omega)
  have cn : cnd F (O F (j + 6)) (.cmp .lt (.bin .mul (.var 5) (.var 6)) (.lit (.int 50))) σ h = .ok (decide (H * W < 50)) h := by
    unfold cnd tst
    simp only [e_cmp, e_bin, e_var, h5, h6, R.bind_ok, binA_i, binV_d, binD_mul, m1, if_true, e_lit, cmpV_d, cmpD_lt, dd, tru_b]
  unfold M5
  rw [x_iff, cn]
  by_cases hw : H * W < 50
  · have cf := c_found (F := F) (C := O F (j + 5)) (h := h) (H := H) (W := W) (a := a) (b := b) (by omega) (by omega) s.W0 s.a0 s.b0
    have g19 : (σ.set 19 (some (.d (optD (foundB H W a b)))))[19]? = some (some (.d (optD (foundB H W a b)))) := List.getElem?_set_self (by omega)
    have g7 : (σ.set 19 (some (.d (optD (foundB H W a b)))))[7]? = some (some (.d (barD (barOf H W a b)))) := by rw [List.getElem?_set_ne (by decide)]; exact h7
    have c2 : cnd F (O F (j + 6)) (.and_ (.cmp .notN (.var 19) (.lit .none)) (.cmp .ne (.var 19) (.cmp .isN (.var 7) (.lit .none)))) (σ.set 19 (some (.d (optD (foundB H W a b))))) h = .ok false h := by
      unfold cnd tst
      simp only [e_and, e_cmp, e_var, g19, g7, e_lit, R.bind_ok, cmpV_d, isN_bar]
      cases e : foundB H W a b with
      | none => rfl
      | some r =>
        rw [found_ok s hw e]
        cases (barOf H W a b).isNone <;> rfl
    refine ⟨some (.d (optD (foundB H W a b))), ?_⟩
    rw [decide_eq_true hw]
    simp only [R.thn_ok, if_true, xs_cons, xs_nil, x_set, ev_call, es_cons, es_nil, e_var, h3, h4, h5, h6, R.bind_ok, t_20, cf, RF.thn_nx, x_iff, c2, Bool.false_eq_true, if_false]
  · refine ⟨σ[19]'(by omega), ?_⟩
    rw [List.set_getElem_self, decide_eq_false hw]
    simp only [R.thn_ok, Bool.false_eq_true, if_false, xs_nil]
theorem m7 (z : Sz F H W a b) (h7 : σ[7]? = some (some (.d (barD (barOf H W a b))))) (h8 : σ[8]? = some (some (.d (toldL (barOf H W a b))))) : ex F (O F (j + 6)) M7 σ h = .ok (.nx σ) h := by
  have cn := same_if (F := F) (j := j) (h := h) (σ := σ) (e1 := .var 8) (toldL_ok z) (by simp only [e_var, h8]) (due_ev h7)
  unfold M7
  rw [x_iff, cn]
  simp only [R.thn_ok, Bool.false_eq_true, if_false, xs_nil]
theorem caseT {x y : Nat} (hH : H ≤ 1000) (hW : W ≤ 1000) (x0 : 0 < x) (y0 : 0 < y) (x1 : x < 1000) (y1 : y < 1000) {p q : Nat} (hp : p < 20) (hq : q < 20) (h5 : σ[5]? = some (some (V H))) (h6 : σ[6]? = some (some (V W))) (hx : σ[p]? = some (some (V x))) (hy : σ[q]? = some (some (V y))) (hl : σ.length = 22) :
    ev F C (.tupO (.ofL (.cmp [20] (.nm 20) (.rng (.var 5)) [] (.tupO (.ofL (.cmp [21] (.nm 21) (.rng (.var 6)) [] (.bin .add (.bin .mul (.bin .fdiv (.var 20) (.prm .max2 [(.lit (.int 1)), (.var p)])) (.lit (.int 50))) (.bin .fdiv (.var 21) (.prm .max2 [(.lit (.int 1)), (.var q)]))))))))) σ h = .ok (.d (TT (tabN H W fun r c => r / x * 50 + c / y))) h := by
  have rH := okR H (by omega)
  have rW := okR W (by omega)
  have fH : fits (rangeL 0 H).length = true := fits_le (by rw [rangeL_len]; omega)
  have fW : fits (rangeL 0 W).length = true := fits_le (by rw [rangeL_len]; omega)
  have mx : ∀ z : Nat, 0 < z → prmD .max2 [.int 1, .int (z : Int)] = some (.int (z : Int)) := fun z hz => by
    rw [prm_max2]
    by_cases e : (z : Int) > 1
    · rw [if_pos e]
    · rw [if_neg e, show (z : Int) = 1 by omega]
  have dx := okD x (by omega) x0
  have dy := okD y (by omega) y0
  have tv : ∀ (xs : List D) (h : Hq), tupV (.d (.list xs)) h = .ok (.d (.tuple xs)) h := fun xs h => by
    show ((toDs (xs.map Val.d) h).bind fun ds h1 => R.ok (Val.d (.tuple ds)) h1) = _
    rw [toDs_map]; rfl
  have row : ∀ r : Nat, r < H → itm F C [20] (.nm 20) [] (.tupO (.ofL (.cmp [21] (.nm 21) (.rng (.var 6)) [] (.bin .add (.bin .mul (.bin .fdiv (.var 20) (.prm .max2 [(.lit (.int 1)), (.var p)])) (.lit (.int 50))) (.bin .fdiv (.var 21) (.prm .max2 [(.lit (.int 1)), (.var q)])))))) σ (V r) h = .ok [.d (tupI (tb W fun c => ((r / x * 50 + c / y : Nat) : Int)))] h := fun r hr => by
    generalize hσ : (σ.set 20 none).set 20 (some (V r)) = σ1
    have l1 : σ1.length = 22 := by rw [← hσ, List.length_set, List.length_set, hl]
    have old : ∀ k, k < 20 → σ1[k]? = σ[k]? := fun k hk => by rw [← hσ, List.getElem?_set_ne (by omega), List.getElem?_set_ne (by omega)]
    have g20 : σ1[20]? = some (some (V r)) := by rw [← hσ]; exact List.getElem?_set_self (by rw [List.length_set]; omega)
    have dr : r / x ≤ r := Nat.div_le_self _ _
    have m1 := okM (r / x) 50 (by omega) (by omega)
    have it := cmp_rng (h := h) (f := itm F C [21] (.nm 21) [] (.bin .add (.bin .mul (.bin .fdiv (.var 20) (.prm .max2 [(.lit (.int 1)), (.var p)])) (.lit (.int 50))) (.bin .fdiv (.var 21) (.prm .max2 [(.lit (.int 1)), (.var q)]))) σ1) W (fun c => .int ((r / x * 50 + c / y : Nat) : Int)) (fun c hc => by
      generalize hσ2 : (σ1.set 21 none).set 21 (some (V c)) = σ2
      have old2 : ∀ k, k < 21 → σ2[k]? = σ1[k]? := fun k hk => by rw [← hσ2, List.getElem?_set_ne (by omega), List.getElem?_set_ne (by omega)]
      have g21 : σ2[21]? = some (some (V c)) := by rw [← hσ2]; exact List.getElem?_set_self (by rw [List.length_set]; omega)
      have gp : σ2[p]? = some (some (V x)) := by rw [old2 p (by omega), old p hp]; exact hx
      have gq : σ2[q]? = some (some (V y)) := by rw [old2 q (by omega), old q hq]; exact hy
      have g20' : σ2[20]? = some (some (V r)) := by rw [old2 20 (by omega)]; exact g20
      have e1 : ((r / x : Nat) : Int) * 50 + ((c / y : Nat) : Int) = ((r / x * 50 + c / y : Nat) : Int) := by omega
      have m1' : okMul ((r / x : Nat) : Int) 50 = true := m1
      unfold itm
      simp only [wipe, bindT_nm, hσ2, ei_nil, R.bind_ok, if_true, e_bin, e_prm, es_cons, es_nil, e_var, e_lit, g20', g21, gp, gq, prmV_2, mx x x0, mx y y0, binA_i, binV_d, binD_fdiv, dx, dy, fdiv_nat, binD_mul, m1', binD_add, e1, R.quiet_ok])
    have g6 : σ1[6]? = some (some (V W)) := by rw [old 6 (by omega)]; exact h6
    unfold itm
    simp only [wipe, bindT_nm, hσ, ei_nil, R.bind_ok, if_true, e_tupO, e_ofL, el_cmp, ex_rng, e_var, g6, intV_i, rW, Int.toNat_natCast, fW, it, toDs_fn, tv, R.quiet_ok]
    unfold tupI tb
    rw [List.map_map]; rfl
  have it := cmp_rng (h := h) (f := itm F C [20] (.nm 20) [] (.tupO (.ofL (.cmp [21] (.nm 21) (.rng (.var 6)) [] (.bin .add (.bin .mul (.bin .fdiv (.var 20) (.prm .max2 [(.lit (.int 1)), (.var p)])) (.lit (.int 50))) (.bin .fdiv (.var 21) (.prm .max2 [(.lit (.int 1)), (.var q)])))))) σ) H (fun r => tupI (tb W fun c => ((r / x * 50 + c / y : Nat) : Int))) row
  simp only [e_tupO, e_ofL, el_cmp, ex_rng, e_var, h5, R.bind_ok, intV_i, rH, if_true, Int.toNat_natCast, fH, it, toDs_fn, tv]
  unfold TT tabN
  rw [List.map_map]; rfl
theorem m9 (s : Small H W a b) (h3 : σ[3]? = some (some (V a))) (h4 : σ[4]? = some (some (V b))) (h5 : σ[5]? = some (some (V H))) (h6 : σ[6]? = some (some (V W))) (hl : σ.length = 22) : ex F C M9 σ h = .ok (.nx (σ.set 10 (some (.d (.list ([tabN H W fun r c => r / a * 50 + c / b, tabN H W fun r c => r / b * 50 + c / a].map TT)))))) h := by
  have l1 := s.H1
  have l2 := s.W1
  have l3 := s.a1
  have l4 := s.b1
  have e1 := caseT (F := F) (C := C) (h := h) (σ := σ) (H := H) (W := W) (x := a) (y := b) (p := 3) (q := 4) (by omega) (by omega) s.a0 s.b0 (by omega) (by omega) (by decide) (by decide) h5 h6 h3 h4 hl
  have e2 := caseT (F := F) (C := C) (h := h) (σ := σ) (H := H) (W := W) (x := b) (y := a) (p := 4) (q := 3) (by omega) (by omega) s.b0 s.a0 (by omega) (by omega) (by decide) (by decide) h5 h6 h4 h3 hl
  unfold M9
  rw [x_set, e_ofL, el_dsp, es_cons, e1]
  simp only [R.bind_ok]
  rw [es_cons, e2]
  simp only [R.bind_ok, es_nil, List.length_cons, List.length_nil, Nat.zero_add, Nat.reduceAdd, f2, if_true, toDs_cons, toDs_nil, toD_d, R.thn_ok, List.map_cons, List.map_nil]
theorem m10s {x : Str × Nat} (h7 : σ[7]? = some (some (.d (barD (some x))))) (h9 : σ[9]? = some (some (.d (.tuple [.str "missing"])))) : ex F C M10 σ h = .ok (.nx σ) h := by
  have ne : cmpD .ne (.tuple [.str "missing"]) (.tuple [.str "missing"]) = some false := by decide +kernel
  unfold M10
  simp only [x_iff, cnd, tst, e_cmp, e_var, h7, h9, e_lit, e_tup, es_cons, es_nil, R.bind_ok, toDs_cons, toDs_nil, toD_d, cmpV_d, notN_bar, Option.isSome_some, ne, tru_b, R.thn_ok, if_true, if_false, Bool.false_eq_true, xs_cons, xs_nil, RF.thn_nx]
theorem m10n {T : List (List Int)} {Ts : List (List (List Int))} (s : Small H W a b) (hn : Nm ns) (hi : 0 ≤ i) (hi2 : i < 800000) (rt : rightB T H W a b = true) (h1 : σ[1]? = some (some (.ref 0))) (h3 : σ[3]? = some (some (V a))) (h4 : σ[4]? = some (some (V b))) (h5 : σ[5]? = some (some (V H))) (h6 : σ[6]? = some (some (V W))) (h7 : σ[7]? = some (some (.d (barD none)))) (h9 : σ[9]? = some (some (.d (.tuple [.str "told", TT T])))) (h10 : σ[10]? = some (some (.d (.list (Ts.map TT))))) (hT : Ts.length ≤ 1000) (hT2 : ∀ t ∈ Ts, t.length ≤ 2001) :
    ∃ Ts' : List (List (List Int)), Ts'.length ≤ 2000 ∧ (∀ t ∈ Ts', t.length ≤ 2001) ∧ ex F (O F (j + 6)) M10 σ (SH ns i []) = .ok (.nx (σ.set 10 (some (.d (.list (Ts'.map TT)))))) (SH ns (i + 6) []) := by
  have l1 := s.H1
  have l2 := s.W1
  have l3 := s.a1
  have l4 := s.b1
  have dm : dimB T H W = true := by
    unfold rightB at rt
    rw [Bool.and_eq_true] at rt
    exact rt.1
  have hTH : T.length = H := by
    unfold dimB at dm
    rw [Bool.and_eq_true, decide_eq_true_eq] at dm
    exact dm.1
  have cr := fun h : Hq => c_right (F := F) (C := O F (j + 5)) (h := h) (T := T) (H := H) (W := W) (a := a) (b := b) s.a0 s.b0 (by omega) (by omega) (by omega) (by omega) (by omega)
  rw [rt] at cr
  obtain ⟨B1, k1, e1⟩ := c_bent (F := F) (j := j + 4) (T := T) (i := i) hn hi (by omega) dm s.H0 s.W0 (by omega) (by omega)
  obtain ⟨B2, k2, e2⟩ := c_bent (F := F) (j := j + 4) (T := T) (i := i + 3) hn (by omega) (by omega) dm s.H0 s.W0 (by omega) (by omega)
  have e1 : callR F (O F (j + 5)) f__law_bent [.ref 0, .d (TT T)] (SH ns i []) = _ := e1
  have e2 : callR F (O F (j + 5)) f__law_bent [.ref 0, .d (TT T)] (SH ns (i + 3) []) = _ := e2
  rw [show i + 3 + 3 = i + 6 by omega] at e2
  have i0 : ∀ h : Hq, ixV (.d (.tuple [.str "told", TT T])) (.d (.int 0)) h = .ok (.d (.str "told")) h := fun h => by rw [ixV_t, List.map_cons, atD_0]
  have i1 : ∀ h : Hq, ixV (.d (.tuple [.str "told", TT T])) (.d (.int 1)) h = .ok (.d (TT T)) h := fun h => by rw [ixV_t, List.map_cons, List.map_cons, atD_1]
  have f3 : fits 3 = true := by decide
  have cl : ∀ h : Hq, catL (.d (.list (Ts.map TT))) (.d (.list [TT T, TT B1, TT B2])) h = .ok (((Ts ++ [T, B1, B2]).map TT).map .d) h := fun h => by
    show (if fits (((Ts.map TT).map Val.d).length + 3) then R.ok ((Ts.map TT).map Val.d ++ [TT T, TT B1, TT B2].map Val.d) h else .no) = _
    rw [List.length_map, List.length_map, fits_le (by omega), List.map_append, List.map_append]; rfl
  refine ⟨Ts ++ [T, B1, B2], by simp; omega, fun t ht => ?_, ?_⟩
  · rcases List.mem_append.mp ht with ht | ht
    · exact hT2 t ht
    · simp only [List.mem_cons, List.not_mem_nil, or_false] at ht
      rcases ht with rfl | rfl | rfl
      · omega
      · exact k1
      · exact k2
  · unfold M10
    simp only [x_iff, cnd, tst, e_cmp, e_var, h7, h9, e_lit, R.bind_ok, cmpV_d, notN_bar, Option.isSome_none, tru_b, R.thn_ok, if_true, if_false, Bool.false_eq_true, xs_cons, xs_nil, RF.thn_nx, e_or, e_ix, i0, i1, cmpD_nes, decide_true, Bool.not_true, e_not, ev_call, es_cons, es_nil, h1, h3, h4, h5, h6, t_21, cr, x_set, e_ofL, el_cat, h10, el_dsp, t_22, e1, e2, List.length_cons, List.length_nil, Nat.zero_add, Nat.reduceAdd, f3, toDs_cons, toDs_nil, toD_d, cl, toDs_map]
theorem m11 {Ts : List (List (List Int))} (s : Small H W a b) (hF : 1000000 ≤ F) (h3 : σ[3]? = some (some (V a))) (h4 : σ[4]? = some (some (V b))) (h5 : σ[5]? = some (some (V H))) (h6 : σ[6]? = some (some (V W))) (h10 : σ[10]? = some (some (.d (.list (Ts.map TT))))) (hT2 : ∀ t ∈ Ts, t.length ≤ 2001) (hl : σ.length = 22) :
    ∃ c11, ex F (O F (j + 6)) M11 σ h = .ok (.nx (σ.set 11 c11)) h := by
  have l1 := s.H1
  have l2 := s.W1
  have l3 := s.a1
  have l4 := s.b1
  obtain ⟨σ', h', ⟨c11, rfl, rfl⟩, e⟩ := forL_ix (f := turnV (.nm 11) (bdy F (O F (j + 6)) [.iff (.not_ (.call 14 [(.told toldWs (.call 11 [(.var 5), (.var 6), (.var 3), (.var 4), (.var 11)])), (.tup [(.lit (.str "told")), (.call 21 [(.var 5), (.var 6), (.var 3), (.var 4), (.var 11)])])])) [.ret (.lit (.bool false))] []])) (P := fun _ σ' h' => ∃ c11, σ' = σ.set 11 c11 ∧ h' = h) ((Ts.map TT).map .d) 0 σ h (fun k v σ' h' hv hp => by
    obtain ⟨c11, rfl, rfl⟩ := hp
    rw [List.map_map, List.getElem?_map] at hv
    cases ek : Ts[k]? with
    | none => rw [ek] at hv; cases hv
    | some T =>
      rw [ek] at hv
      cases hv
      have hT := hT2 T (List.mem_of_getElem? ek)
      refine ⟨σ.set 11 (some (.d (TT T))), h', ⟨_, rfl, rfl⟩, ?_⟩
      have st : (σ.set 11 c11).set 11 (some (.d (TT T))) = σ.set 11 (some (.d (TT T))) := List.set_set ..
      have g : ∀ q, q ≠ 11 → (σ.set 11 (some (.d (TT T))))[q]? = σ[q]? := fun q hq => List.getElem?_set_ne (fun z => hq z.symm)
      have g11 : (σ.set 11 (some (.d (TT T))))[11]? = some (some (.d (TT T))) := List.getElem?_set_self (by omega)
      have cj : callR F (O F (j + 5)) f_judge_filling [V H, V W, V a, V b, .d (TT T)] h' = _ := c_judge (k := j + 4) (s.rg hF) (by omega) (by omega) (by omega)
      have cr := c_right (F := F) (C := O F (j + 5)) (h := h') (T := T) (H := H) (W := W) (a := a) (b := b) s.a0 s.b0 (by omega) (by omega) (by omega) (by omega) (by omega)
      have cn := same_if (F := F) (j := j) (h := h') (σ := σ.set 11 (some (.d (TT T)))) (e1 := .told toldWs (.call 11 [(.var 5), (.var 6), (.var 3), (.var 4), (.var 11)])) (e2 := .tup [(.lit (.str "told")), (.call 21 [(.var 5), (.var 6), (.var 3), (.var 4), (.var 11)])]) ((sw_2 st_told (sw_bool (rightB T H W a b))).ok (by decide) (by decide))
        (by simp only [e_told, ev_call, es_cons, es_nil, e_var, g 5 (by decide), g 6 (by decide), g 3 (by decide), g 4 (by decide), g11, h3, h4, h5, h6, R.bind_ok, t_11, cj, told_v])
        (by simp only [e_tup, e_lit, ev_call, es_cons, es_nil, e_var, g 5 (by decide), g 6 (by decide), g 3 (by decide), g 4 (by decide), g11, h3, h4, h5, h6, R.bind_ok, t_21, cr, toDs_cons, toDs_nil, toD_d])
      show turnV (.nm 11) _ (.d (TT T)) (σ.set 11 c11) h' = _
      unfold turnV
      simp only [bindT_nm, st]
      unfold bdy
      rw [xs_cons, x_iff, cn]
      simp only [R.thn_ok, Bool.false_eq_true, if_false, xs_nil, RF.thn_nx]) ⟨σ[11]'(by omega), (List.set_getElem_self _).symm, rfl⟩
  refine ⟨c11, ?_⟩
  unfold M11
  simp only [x_for, ex_val, e_var, h10, R.bind_ok, srcV_l, R.thn_ok]
  exact e
end
end K12

set_option linter.all false
set_option Elab.async false
set_option autoImplicit false
set_option maxRecDepth 100000
namespace K12
open PySem Ip
section
variable {F j : Nat} {C : List Orc} {h : Hq} {ns : List Int} {i : Int} {σ : Sg} {H W a b : Nat}
theorem m12 (hn : Nm ns) (hi : 0 ≤ i) (hi2 : i < 800000) (h1 : σ[1]? = some (some (.ref 0))) :
    ∃ g0 g1 : Nat, 0 < g0 ∧ g0 ≤ 1000 ∧ 0 < g1 ∧ g1 ≤ 990000 ∧ ex F (O F (j + 1)) M12 σ (SH ns i []) = .ok (.nx (σ.set 12 (some (.d (.list [N g0, N g1]))))) (SH ns (i + 3) []) := by
  obtain ⟨u, u0, u1, e1⟩ := d1 (F := F) (j := j) hn (m := 1000) hi (by omega) (by decide) h1
  obtain ⟨v, v0, v1, e2⟩ := d1 (F := F) (j := j) hn (m := 1000) (i := i + 1) (by omega) (by omega) (by decide) h1
  obtain ⟨w, w0, w1, e3⟩ := d1 (F := F) (j := j) hn (m := 990) (i := i + 1 + 1) (by omega) (by omega) (by decide) h1
  have hm : v * w ≤ 1000 * 990 := Nat.mul_le_mul (by omega) (by omega)
  have m1 := okM v w (by omega) (by omega)
  have e0 : (v : Int) * (w : Int) = ((v * w : Nat) : Int) := by rw [Int.natCast_mul]
  refine ⟨u, v * w, u0, by omega, Nat.mul_pos v0 w0, by omega, ?_⟩
  have k : ev F (O F (j + 1)) (.bin .mul (.bin .add (.lit (.int 1)) (.call 16 [(.var 1), (.lit (.int 1000))])) (.bin .add (.lit (.int 1)) (.call 16 [(.var 1), (.lit (.int 990))]))) σ (SH ns (i + 1) []) = .ok (V (v * w)) (SH ns (i + 3) []) := by
    rw [e_bin, e2]
    simp only [R.bind_ok]
    rw [e3]
    simp only [R.bind_ok, binA_i, binV_d, binD_mul, m1, if_true, e0]
    rw [show i + 1 + 1 + 1 = i + 3 by omega]
  unfold M12
  rw [x_set, e_ofL, el_dsp, es_cons, e1]
  simp only [R.bind_ok]
  rw [es_cons, k]
  simp only [R.bind_ok, es_nil, List.length_cons, List.length_nil, Nat.zero_add, Nat.reduceAdd, f2, if_true, toDs_cons, toDs_nil, toD_d, R.thn_ok, N]
theorem m13 (hn : Nm ns) (hi : 0 ≤ i) (hi2 : i < 800000) (h1 : σ[1]? = some (some (.ref 0))) :
    ∃ g0 g1 : Nat, 0 < g0 ∧ g0 ≤ 1000 ∧ 0 < g1 ∧ g1 ≤ 60 ∧ ex F (O F (j + 1)) M13 σ (SH ns i []) = .ok (.nx (σ.set 13 (some (.d (.list [N g0, N g1]))))) (SH ns (i + 2) []) := by
  obtain ⟨u, u0, u1, e1⟩ := d1 (F := F) (j := j) hn (m := 1000) hi (by omega) (by decide) h1
  obtain ⟨v, v0, v1, e2⟩ := d1 (F := F) (j := j) hn (m := 60) (i := i + 1) (by omega) (by omega) (by decide) h1
  refine ⟨u, v, u0, by omega, v0, by omega, ?_⟩
  unfold M13
  rw [x_set, e_ofL, el_dsp, es_cons, e1]
  simp only [R.bind_ok]
  rw [es_cons, e2]
  simp only [R.bind_ok, es_nil, List.length_cons, List.length_nil, Nat.zero_add, Nat.reduceAdd, f2, if_true, toDs_cons, toDs_nil, toD_d, R.thn_ok, N]
  rw [show i + 1 + 1 = i + 2 by omega]
theorem ixl0 {x y : D} : ixV (.d (.list [x, y])) (.d (.int 0)) h = .ok (.d x) h := by rw [ixV_l, List.map_cons, atD_0]
theorem ixl1 {x y : D} : ixV (.d (.list [x, y])) (.d (.int 1)) h = .ok (.d y) h := by rw [ixV_l, List.map_cons, List.map_cons, atD_1]
theorem ixt0 {x y : D} : ixV (.d (.tuple [x, y])) (.d (.int 0)) h = .ok (.d x) h := by rw [ixV_t, List.map_cons, atD_0]
theorem ixt1 {x y : D} : ixV (.d (.tuple [x, y])) (.d (.int 1)) h = .ok (.d y) h := by rw [ixV_t, List.map_cons, List.map_cons, atD_1]
theorem m14 {b0 b1 : Nat} (hn : Nm ns) (hi : 0 ≤ i) (hi2 : i < 800000) (h1 : σ[1]? = some (some (.ref 0))) (h13 : σ[13]? = some (some (.d (.list [N b0, N b1])))) :
    ∃ c0 : Nat, (c0 = b0 ∨ c0 = b1) ∧ ex F (O F (j + 1)) M14 σ (SH ns i []) = .ok (.nx (σ.set 14 (some (.d (.tuple [N c0, N b1]))))) (SH ns (i + 1) []) := by
  obtain ⟨u, u1, e1⟩ := nxE (F := F) (j := j) hn (m := 2) hi (by omega) (by decide) h1
  have hv : ∃ c0 : Nat, (c0 = b0 ∨ c0 = b1) ∧ ∀ h : Hq, ixV (.d (.list [.tuple [N b0, N b1], .tuple [N b1, N b1]])) (V u) h = .ok (.d (.tuple [N c0, N b1])) h := by
    have : u = 0 ∨ u = 1 := by omega
    rcases this with rfl | rfl
    · exact ⟨b0, .inl rfl, fun h => ixl0⟩
    · exact ⟨b1, .inr rfl, fun h => ixl1⟩
  obtain ⟨c0, hc, ec⟩ := hv
  refine ⟨c0, hc, ?_⟩
  have k : ev F (O F (j + 1)) (.ofL (.dsp [(.tup [(.ix (.var 13) (.lit (.int 0))), (.ix (.var 13) (.lit (.int 1)))]), (.tup [(.ix (.var 13) (.lit (.int 1))), (.ix (.var 13) (.lit (.int 1)))])])) σ (SH ns i []) = .ok (.d (.list [.tuple [N b0, N b1], .tuple [N b1, N b1]])) (SH ns i []) := by
    simp only [e_ofL, el_dsp, es_cons, es_nil, e_tup, e_ix, e_var, h13, e_lit, R.bind_ok, ixl0, ixl1, toDs_cons, toDs_nil, toD_d, List.length_cons, List.length_nil, Nat.zero_add, Nat.reduceAdd, f2, if_true]
  unfold M14
  rw [x_set, e_ix, k]
  simp only [R.bind_ok]
  rw [e1]
  simp only [R.bind_ok, ec, R.thn_ok]
def xs15 : List Ex := [(.ix (.var 12) (.lit (.int 1))), (.bin .mul (.ix (.var 12) (.lit (.int 0))) (.ix (.var 13) (.lit (.int 1)))), (.ix (.var 14) (.lit (.int 0))), (.ix (.var 14) (.lit (.int 1)))]
theorem args15 {g0 g1 b0 b1 c0 : Nat} (q0 : g0 ≤ 1000) (q1 : b1 ≤ 60) (h12 : σ[12]? = some (some (.d (.list [N g0, N g1])))) (h13 : σ[13]? = some (some (.d (.list [N b0, N b1])))) (h14 : σ[14]? = some (some (.d (.tuple [N c0, N b1])))) : evs F C xs15 σ h = .ok [V g1, V (g0 * b1), V c0, V b1] h := by
  have m1 := okM g0 b1 (by omega) (by omega)
  have e0 : (g0 : Int) * (b1 : Int) = ((g0 * b1 : Nat) : Int) := by rw [Int.natCast_mul]
  unfold xs15
  simp only [es_cons, es_nil, e_ix, e_bin, e_var, h12, h13, h14, e_lit, R.bind_ok, ixl0, ixl1, ixt0, ixt1, binA_i, binV_d, binD_mul, m1, if_true, e0]
theorem M15_is : M15 = .set 7 (.call 19 xs15) := rfl
theorem M16_is : M16 = .set 8 (.ofL (.dsp [(.told toldWs (.call 5 xs15)), (.told toldWs (.call 7 xs15))])) := rfl
theorem M17_is : M17 = M7 := rfl
theorem least_sw (ha : a ≤ 60) (hb : b ≤ 60) : Sw 0 2000 (leastD a b W) := by
  unfold leastD
  cases e : leastL a b W with
  | nil => exact sw_none.mono (by decide) (by decide)
  | cons x L =>
    have hx : x ∈ leastL a b W := by rw [e]; exact List.mem_cons_self
    unfold leastL at hx
    have := List.mem_range'_1.mp (List.mem_filter.mp hx).1
    have ab : a * b ≤ 60 * 60 := Nat.mul_le_mul ha hb
    exact sw_int (by omega)
theorem m21 (a0 : 0 < a) (b0 : 0 < b) (a1 : a ≤ 60) (b1 : b ≤ 60) (W1 : W ≤ 1000) (hF : 1000000 ≤ F) (h15 : σ[15]? = some (some (V a))) (h16 : σ[16]? = some (some (V b))) (h17 : σ[17]? = some (some (V W))) (hl : σ.length = 22) : ex F (O F (j + 6)) M21 σ h = .ok (.nx (σ.set 18 (some (.d (leastD a b W))))) h := by
  have m1 := okM a b (by omega) (by omega)
  have ab : a * b ≤ 60 * 60 := Nat.mul_le_mul a1 b1
  have e0 : (a : Int) * (b : Int) + 1 = ((a * b + 1 : Nat) : Int) := by rw [Int.natCast_add, Int.natCast_mul]; rfl
  have r1 : okRng 1 = true := by decide
  have r2 := okR (a * b + 1) (by omega)
  have n1 : (((a * b + 1 : Nat) : Int) - 1).toNat = a * b := by omega
  have ft : fits (rangeL 1 (a * b)).length = true := fits_le (by rw [rangeL_len]; omega)
  have f1 : fits 1 = true := by decide
  have it := cmp_flt (h := h) (f := itm F (O F (j + 6)) [21] (.nm 21) [(.cmp .isN (.call 19 [(.var 21), (.var 17), (.var 15), (.var 16)]) (.lit .none))] (.var 21) σ) (fun k : Nat => V k) (fun k => (barOf k W a b).isNone) N (List.range' 1 (a * b)) (fun i hi => by
    have hi := List.mem_range'_1.mp hi
    have kb : callR F (O F (j + 5)) f__law_bar [V i, V W, V a, V b] h = _ := c_lbar (k := j + 4) (F := F) (H := i) (W := W) (a := a) (b := b) ⟨by omega, by omega, a0, b0, by omega, by omega, hF⟩
    generalize hσ : (σ.set 21 none).set 21 (some (V i)) = σ1
    have old : ∀ k, k < 21 → σ1[k]? = σ[k]? := fun k hk => by rw [← hσ, List.getElem?_set_ne (by omega), List.getElem?_set_ne (by omega)]
    have g21 : σ1[21]? = some (some (V i)) := by rw [← hσ]; exact List.getElem?_set_self (by rw [List.length_set]; omega)
    unfold itm
    simp only [wipe, bindT_nm, hσ, ei_cons, ei_nil, e_cmp, ev_call, t_19, es_cons, es_nil, e_var, e_lit, g21, old 17 (by decide), old 15 (by decide), old 16 (by decide), h15, h16, h17, R.bind_ok, kb, cmpV_d, isN_bar, tru_b]
    cases (barOf i W a b).isNone <;> rfl)
  rw [← rangeL_nat (a * b) 1] at it
  have it : cmpL (itm F (O F (j + 6)) [21] (.nm 21) [(.cmp .isN (.call 19 [(.var 21), (.var 17), (.var 15), (.var 16)]) (.lit .none))] (.var 21) σ) (rangeL 1 (a * b)) h = _ := it
  have k : ev F (O F (j + 6)) (.ix (.ofL (.cat (.ofL (.cmp [21] (.nm 21) (.rng2 (.lit (.int 1)) (.bin .add (.bin .mul (.var 15) (.var 16)) (.lit (.int 1)))) [(.cmp .isN (.call 19 [(.var 21), (.var 17), (.var 15), (.var 16)]) (.lit .none))] (.var 21))) (.ofL (.dsp [(.lit .none)])))) (.lit (.int 0))) σ h = .ok (.d (leastD a b W)) h := by
    have cl : catL (.d (.list ((leastL a b W).map N))) (.d (.list [.none])) h = .ok (((leastL a b W).map N ++ [PyData.none]).map .d) h := by
      have hl : (leastL a b W).length ≤ a * b := by
        unfold leastL
        exact Nat.le_trans (List.length_filter_le _ _) (by rw [List.length_range']; omega)
      show (if fits ((((leastL a b W).map N).map Val.d).length + 1) then R.ok (((leastL a b W).map N).map Val.d ++ [PyData.none].map Val.d) h else .no) = _
      rw [List.length_map, List.length_map, fits_le (by omega), List.map_append]; rfl
    have hd : ixV (.d (.list ((leastL a b W).map N ++ [PyData.none]))) (.d (.int 0)) h = .ok (.d (leastD a b W)) h := by
      unfold leastD
      cases leastL a b W with
      | nil => rw [ixV_l, List.map_nil, List.nil_append, List.map_cons, atD_0]
      | cons x L => rw [ixV_l, List.map_cons, List.cons_append, List.map_cons, atD_0]
    have cL : evL F (O F (j + 6)) (.cmp [21] (.nm 21) (.rng2 (.lit (.int 1)) (.bin .add (.bin .mul (.var 15) (.var 16)) (.lit (.int 1)))) [(.cmp .isN (.call 19 [(.var 21), (.var 17), (.var 15), (.var 16)]) (.lit .none))] (.var 21)) σ h = .ok ((leastL a b W).map fun k => .d (N k)) h := by
      simp only [el_cmp, ex_rng2, e_lit, e_bin, e_var, h15, h16, R.bind_ok, binA_i, binV_d, binD_mul, m1, if_true, binD_add, e0, intV_i, r1, r2, Bool.and_self, n1, ft]
      exact it
    rw [e_ix, e_ofL, el_cat, e_ofL, cL]
    simp only [R.bind_ok, toDs_fn, e_ofL, el_dsp, es_cons, es_nil, e_lit, List.length_cons, List.length_nil, Nat.zero_add, f1, if_true, toDs_cons, toDs_nil, toD_d, cl, toDs_map, hd]
  unfold M21
  rw [x_set, k]
  rfl
theorem m22 (a0 : 0 < a) (b0 : 0 < b) (a1 : a ≤ 60) (b1 : b ≤ 60) (W0 : 0 < W) (W1 : W ≤ 1000) (hF : 1000000 ≤ F) (h15 : σ[15]? = some (some (V a))) (h16 : σ[16]? = some (some (V b))) (h17 : σ[17]? = some (some (V W))) (h18 : σ[18]? = some (some (.d (leastD a b W)))) : ex F (O F (j + 6)) M22 σ h = .ok (.nx σ) h := by
  have cl : callR F (O F (j + 5)) f_least_box [V a, V b, V W] h = _ := c_least (k := j + 2) a0 b0 a1 b1 W0 W1 hF
  have rf : callR F (O F (j + 5)) f__law_refuses [] h = _ := c_refuses (k := j + 2)
  have sm := same_ok (W := F) (C := O F (j + 5)) (h := h) ((sw_2 st_told (least_sw (a := a) (b := b) (W := W) a1 b1)).ok (by decide) (by decide))
  unfold M22
  simp only [x_iff, cnd, tst, e_or, e_not, ev_call, es_cons, es_nil, e_told, e_tup, e_lit, e_var, h15, h16, h17, h18, R.bind_ok, t_13, t_14, t_23, cl, told_v, toDs_cons, toDs_nil, toD_d, sm, rf, tru_b, Bool.not_true, Bool.false_eq_true, if_false, R.thn_ok, xs_nil]
theorem mL (hF : 1000000 ≤ F) : ex F (O F (j + 6)) ML σ h = .ok (.rt (.d (.bool true))) h := by
  have e1 : callR F (O F (j + 5)) f_filling [V 61, V 2, V 1, V 2] h = .er ⟨1, none⟩ h := g_fill (k := j + 1) ⟨⟨by decide, by decide, by decide, by decide, by decide, by decide, hF⟩, by decide, by decide, by decide, by decide, by decide, by decide⟩ (by decide +kernel) (by decide)
  have e2 : callR F (O F (j + 5)) f_filling [V 61, V 3, V 2, V 2] h = .er ⟨2, none⟩ h := by
    have hb : ∃ x, barOf 61 3 2 2 = some x := Option.isSome_iff_exists.mp (by decide +kernel)
    obtain ⟨x, hx⟩ := hb
    exact x_fill (k := j + 1) ⟨⟨by decide, by decide, by decide, by decide, by decide, by decide, hF⟩, by decide, by decide, by decide, by decide, by decide, by decide⟩ hx
  have e1 : callR F (O F (j + 5)) f_filling [.d (.int 61), .d (.int 2), .d (.int 1), .d (.int 2)] h = .er ⟨1, none⟩ h := e1
  have e2 : callR F (O F (j + 5)) f_filling [.d (.int 61), .d (.int 3), .d (.int 2), .d (.int 2)] h = .er ⟨2, none⟩ h := e2
  have t1 : toldV toldWs (.er ⟨1, none⟩ h) = .ok (.d (.tuple [.str "large"])) h := told_er rfl
  have t2 : toldV toldWs (.er ⟨2, none⟩ h) = .ok (.d (.tuple [.str "missing"])) h := told_er rfl
  have q1 : cmpD .eq (.tuple [.str "large"]) (.tuple [.str "large"]) = some true := by decide +kernel
  have q2 : cmpD .eq (.tuple [.str "missing"]) (.tuple [.str "missing"]) = some true := by decide +kernel
  unfold ML
  simp only [x_ret, e_and, e_cmp, e_told, ev_call, es_cons, es_nil, e_lit, e_tup, R.bind_ok, t_8, e1, e2, t1, t2, toDs_cons, toDs_nil, toD_d, cmpV_d, q1, q2, tru_b, if_true, R.thn_ok]
/-! ### a turn -/
theorem m_d {k : Nat} {m : Int} (hn : Nm ns) (hi : 0 ≤ i) (hi2 : i < 800000) (hm : 0 < m) (h1 : σ[1]? = some (some (.ref 0))) :
    ∃ v : Nat, 0 < v ∧ (v : Int) ≤ m ∧ ex F (O F (j + 1)) (.set k (.bin .add (.lit (.int 1)) (.call 16 [(.var 1), (.lit (.int m))]))) σ (SH ns i []) = .ok (.nx (σ.set k (some (V v)))) (SH ns (i + 1) []) := by
  obtain ⟨v, v0, v1, e⟩ := d1 (F := F) (j := j) hn hi (by omega) hm h1
  exact ⟨v, v0, v1, by rw [x_set, e]; rfl⟩
theorem m_d2 {k : Nat} (hn : Nm ns) (hi : 0 ≤ i) (hi2 : i < 800000) (h1 : σ[1]? = some (some (.ref 0))) :
    ∃ v : Nat, 0 < v ∧ v ≤ 14 ∧ ex F (O F (j + 1)) (.set k (.bin .add (.lit (.int 1)) (.call 16 [(.var 1), (.ix (.ofL (.dsp [(.lit (.int 7)), (.lit (.int 14))])) (.call 16 [(.var 1), (.lit (.int 2))]))]))) σ (SH ns i []) = .ok (.nx (σ.set k (some (V v)))) (SH ns (i + 2) []) := by
  obtain ⟨v, v0, v1, e⟩ := d2 (F := F) (j := j) hn hi (by omega) h1
  exact ⟨v, v0, v1, by rw [x_set, e]; rfl⟩
/-- the filling, the cases, what is due -/
theorem m8 (s : Small H W a b) (hF : 1000000 ≤ F) (hn : Nm ns) (hi : 0 ≤ i) (hi2 : i < 800000) {c0 c2 c8 c9 c10 c11 c12 c13 c14 c15 c16 c17 c18 c19 c20 c21 : Option Val} :
    ∃ (Ts : List (List (List Int))) (c9' : Option Val) (i' : Int), (∀ t ∈ Ts, t.length ≤ 2001) ∧ i ≤ i' ∧ i' ≤ i + 6 ∧
      exs F (O F (j + 6)) [M8, M9, M10] [c0, some (.ref 0), c2, some (V a), some (V b), some (V H), some (V W), some (.d (barD (barOf H W a b))), c8, c9, c10, c11, c12, c13, c14, c15, c16, c17, c18, c19, c20, c21] (SH ns i []) =
        .ok (.nx [c0, some (.ref 0), c2, some (V a), some (V b), some (V H), some (V W), some (.d (barD (barOf H W a b))), c8, c9', some (.d (.list (Ts.map TT))), c11, c12, c13, c14, c15, c16, c17, c18, c19, c20, c21]) (SH ns i' []) := by
  have l1 := s.H1
  have l2 := s.W1
  cases e : barOf H W a b with
  | none =>
    obtain ⟨f, rt, cf⟩ := c_fill (F := F) (k := j + 1) s hF e
    have cf : ∀ h : Hq, callR F (O F (j + 5)) f_filling [V H, V W, V a, V b] h = .ok (.d (TT (tabN H W f))) h := cf
    have s8 : ex F (O F (j + 6)) M8 [c0, some (.ref 0), c2, some (V a), some (V b), some (V H), some (V W), some (.d (barD none)), c8, c9, c10, c11, c12, c13, c14, c15, c16, c17, c18, c19, c20, c21] (SH ns i []) = .ok (.nx [c0, some (.ref 0), c2, some (V a), some (V b), some (V H), some (V W), some (.d (barD none)), c8, some (.d (.tuple [.str "told", TT (tabN H W f)])), c10, c11, c12, c13, c14, c15, c16, c17, c18, c19, c20, c21]) (SH ns i []) := by
      unfold M8
      simp only [x_set, e_told, ev_call, es_cons, es_nil, e_var, List.getElem?_cons_zero, List.getElem?_cons_succ, R.bind_ok, t_8, cf, told_v, R.thn_ok, List.set_cons_zero, List.set_cons_succ]
    have s9 := m9 (F := F) (C := O F (j + 6)) (h := SH ns i []) (σ := [c0, some (.ref 0), c2, some (V a), some (V b), some (V H), some (V W), some (.d (barD none)), c8, some (.d (.tuple [.str "told", TT (tabN H W f)])), c10, c11, c12, c13, c14, c15, c16, c17, c18, c19, c20, c21]) s rfl rfl rfl rfl rfl
    simp only [List.set_cons_succ, List.set_cons_zero] at s9
    generalize hTs : [tabN H W fun r c => r / a * 50 + c / b, tabN H W fun r c => r / b * 50 + c / a] = Ts at s9
    have hl : ∀ t ∈ Ts, t.length ≤ 2001 := fun t ht => by
      rw [← hTs] at ht
      simp only [List.mem_cons, List.not_mem_nil, or_false] at ht
      rcases ht with rfl | rfl <;> simp [tabN] <;> omega
    have hl2 : Ts.length ≤ 1000 := by rw [← hTs]; simp
    obtain ⟨Ts', _, k2, s10⟩ := m10n (F := F) (j := j) (T := tabN H W f) (Ts := Ts) (σ := [c0, some (.ref 0), c2, some (V a), some (V b), some (V H), some (V W), some (.d (barD none)), c8, some (.d (.tuple [.str "told", TT (tabN H W f)])), some (.d (.list (Ts.map TT))), c11, c12, c13, c14, c15, c16, c17, c18, c19, c20, c21]) s hn hi hi2 rt rfl rfl rfl rfl rfl rfl rfl rfl hl2 hl
    simp only [List.set_cons_succ, List.set_cons_zero] at s10
    refine ⟨Ts', some (.d (.tuple [.str "told", TT (tabN H W f)])), i + 6, k2, by omega, by omega, ?_⟩
    rw [xs_cons, s8, RF.thn_nx, xs_cons, s9, RF.thn_nx, xs_cons, s10, RF.thn_nx, xs_nil]
  | some x =>
    have cf : callR F (O F (j + 5)) f_filling [V H, V W, V a, V b] (SH ns i []) = .er ⟨2, none⟩ (SH ns i []) := x_fill (k := j + 1) (s.rg hF) e
    have t2 : toldV toldWs (.er ⟨2, none⟩ (SH ns i [])) = .ok (.d (.tuple [.str "missing"])) (SH ns i []) := told_er rfl
    have s8 : ex F (O F (j + 6)) M8 [c0, some (.ref 0), c2, some (V a), some (V b), some (V H), some (V W), some (.d (barD (some x))), c8, c9, c10, c11, c12, c13, c14, c15, c16, c17, c18, c19, c20, c21] (SH ns i []) = .ok (.nx [c0, some (.ref 0), c2, some (V a), some (V b), some (V H), some (V W), some (.d (barD (some x))), c8, some (.d (.tuple [.str "missing"])), c10, c11, c12, c13, c14, c15, c16, c17, c18, c19, c20, c21]) (SH ns i []) := by
      unfold M8
      simp only [x_set, e_told, ev_call, es_cons, es_nil, e_var, List.getElem?_cons_zero, List.getElem?_cons_succ, R.bind_ok, t_8, cf, t2, R.thn_ok, List.set_cons_zero, List.set_cons_succ]
    have s9 := m9 (F := F) (C := O F (j + 6)) (h := SH ns i []) (σ := [c0, some (.ref 0), c2, some (V a), some (V b), some (V H), some (V W), some (.d (barD (some x))), c8, some (.d (.tuple [.str "missing"])), c10, c11, c12, c13, c14, c15, c16, c17, c18, c19, c20, c21]) s rfl rfl rfl rfl rfl
    simp only [List.set_cons_succ, List.set_cons_zero] at s9
    generalize hTs : [tabN H W fun r c => r / a * 50 + c / b, tabN H W fun r c => r / b * 50 + c / a] = Ts at s9
    have hl : ∀ t ∈ Ts, t.length ≤ 2001 := fun t ht => by
      rw [← hTs] at ht
      simp only [List.mem_cons, List.not_mem_nil, or_false] at ht
      rcases ht with rfl | rfl <;> simp [tabN] <;> omega
    have s10 := m10s (F := F) (C := O F (j + 6)) (h := SH ns i []) (x := x) (σ := [c0, some (.ref 0), c2, some (V a), some (V b), some (V H), some (V W), some (.d (barD (some x))), c8, some (.d (.tuple [.str "missing"])), some (.d (.list (Ts.map TT))), c11, c12, c13, c14, c15, c16, c17, c18, c19, c20, c21]) rfl rfl
    refine ⟨Ts, some (.d (.tuple [.str "missing"])), i, hl, by omega, by omega, ?_⟩
    rw [xs_cons, s8, RF.thn_nx, xs_cons, s9, RF.thn_nx, xs_cons, s10, RF.thn_nx, xs_nil]
end
end K12

set_option linter.all false
set_option Elab.async false
set_option autoImplicit false
set_option maxRecDepth 100000
namespace K12
open PySem Ip
section
variable {F j : Nat} {ns : List Int} {i : Int}
theorem turn_ok (hF : 1000000 ≤ F) (hn : Nm ns) (hi : 0 ≤ i) (hi2 : i < 60000) {v : Val} {c0 c2 c3 c4 c5 c6 c7 c8 c9 c10 c11 c12 c13 c14 c15 c16 c17 c18 c19 c20 c21 : Option Val} :
    ∃ (σ' : Sg) (i' : Int), (∃ d2 d3 d4 d5 d6 d7 d8 d9 d10 d11 d12 d13 d14 d15 d16 d17 d18 d19 d20 d21, σ' = [c0, some (.ref 0), d2, d3, d4, d5, d6, d7, d8, d9, d10, d11, d12, d13, d14, d15, d16, d17, d18, d19, d20, d21]) ∧ i ≤ i' ∧ i' ≤ i + 100 ∧
      turnV (.nm 2) (bdy F (O F (j + 6)) bodyT) v [c0, some (.ref 0), c2, c3, c4, c5, c6, c7, c8, c9, c10, c11, c12, c13, c14, c15, c16, c17, c18, c19, c20, c21] (SH ns i []) = .ok (.nx σ') (SH ns i' []) := by
  obtain ⟨a, a0, a4, e0⟩ := m_d (F := F) (j := j + 5) (k := 3) (m := 4) (σ := [c0, some (.ref 0), some v, c3, c4, c5, c6, c7, c8, c9, c10, c11, c12, c13, c14, c15, c16, c17, c18, c19, c20, c21]) hn hi (by omega) (by decide) rfl
  obtain ⟨b, b0, b5, e1⟩ := m_d (F := F) (j := j + 5) (k := 4) (m := 5) (i := i + 1) (σ := [c0, some (.ref 0), some v, some (V a), c4, c5, c6, c7, c8, c9, c10, c11, c12, c13, c14, c15, c16, c17, c18, c19, c20, c21]) hn (by omega) (by omega) (by decide) rfl
  obtain ⟨H, H0, H14, e2⟩ := m_d2 (F := F) (j := j + 5) (k := 5) (i := i + 1 + 1) (σ := [c0, some (.ref 0), some v, some (V a), some (V b), c5, c6, c7, c8, c9, c10, c11, c12, c13, c14, c15, c16, c17, c18, c19, c20, c21]) hn (by omega) (by omega) rfl
  obtain ⟨W, W0, W14, e3⟩ := m_d2 (F := F) (j := j + 5) (k := 6) (i := i + 1 + 1 + 2) (σ := [c0, some (.ref 0), some v, some (V a), some (V b), some (V H), c6, c7, c8, c9, c10, c11, c12, c13, c14, c15, c16, c17, c18, c19, c20, c21]) hn (by omega) (by omega) rfl
  simp only [List.set_cons_succ, List.set_cons_zero] at e0 e1 e2 e3
  have s : Small H W a b := ⟨H0, W0, a0, b0, H14, W14, by omega, by omega⟩
  have rg := s.rg hF
  generalize hi4 : i + 1 + 1 + 2 + 2 = i4 at *
  have e4 := m4 (F := F) (j := j) (h := SH ns i4 []) (xs := [(.var 5), (.var 6), (.var 3), (.var 4)]) (σ := [c0, some (.ref 0), some v, some (V a), some (V b), some (V H), some (V W), c7, c8, c9, c10, c11, c12, c13, c14, c15, c16, c17, c18, c19, c20, c21]) rg.toSz rfl
  simp only [List.set_cons_succ, List.set_cons_zero] at e4
  obtain ⟨d19, e5⟩ := m5 (F := F) (j := j) (h := SH ns i4 []) (σ := [c0, some (.ref 0), some v, some (V a), some (V b), some (V H), some (V W), some (.d (barD (barOf H W a b))), c8, c9, c10, c11, c12, c13, c14, c15, c16, c17, c18, c19, c20, c21]) s rfl rfl rfl rfl rfl rfl
  simp only [List.set_cons_succ, List.set_cons_zero] at e5
  have e6 := told_ev (F := F) (j := j) (h := SH ns i4 []) (xs := [(.var 5), (.var 6), (.var 3), (.var 4)]) (σ := [c0, some (.ref 0), some v, some (V a), some (V b), some (V H), some (V W), some (.d (barD (barOf H W a b))), c8, c9, c10, c11, c12, c13, c14, c15, c16, c17, c18, d19, c20, c21]) rg rfl
  have e6 : ex F (O F (j + 6)) M6 [c0, some (.ref 0), some v, some (V a), some (V b), some (V H), some (V W), some (.d (barD (barOf H W a b))), c8, c9, c10, c11, c12, c13, c14, c15, c16, c17, c18, d19, c20, c21] (SH ns i4 []) = .ok (.nx [c0, some (.ref 0), some v, some (V a), some (V b), some (V H), some (V W), some (.d (barD (barOf H W a b))), some (.d (toldL (barOf H W a b))), c9, c10, c11, c12, c13, c14, c15, c16, c17, c18, d19, c20, c21]) (SH ns i4 []) := by
    unfold M6
    rw [x_set, e6]; rfl
  have e7 := m7 (F := F) (j := j) (h := SH ns i4 []) (σ := [c0, some (.ref 0), some v, some (V a), some (V b), some (V H), some (V W), some (.d (barD (barOf H W a b))), some (.d (toldL (barOf H W a b))), c9, c10, c11, c12, c13, c14, c15, c16, c17, c18, d19, c20, c21]) rg.toSz rfl rfl
  obtain ⟨Ts, d9, i8, hTs, q1, q2, e8⟩ := m8 (F := F) (j := j) (i := i4) (c0 := c0) (c2 := some v) (c8 := some (.d (toldL (barOf H W a b)))) (c9 := c9) (c10 := c10) (c11 := c11) (c12 := c12) (c13 := c13) (c14 := c14) (c15 := c15) (c16 := c16) (c17 := c17) (c18 := c18) (c19 := d19) (c20 := c20) (c21 := c21) s hF hn (by omega) (by omega)
  obtain ⟨d11, e11⟩ := m11 (F := F) (j := j) (h := SH ns i8 []) (Ts := Ts) (σ := [c0, some (.ref 0), some v, some (V a), some (V b), some (V H), some (V W), some (.d (barD (barOf H W a b))), some (.d (toldL (barOf H W a b))), d9, some (.d (.list (Ts.map TT))), c11, c12, c13, c14, c15, c16, c17, c18, d19, c20, c21]) s hF rfl rfl rfl rfl rfl hTs rfl
  simp only [List.set_cons_succ, List.set_cons_zero] at e11
  obtain ⟨g0, g1, g00, g0M, g10, g1M, e12⟩ := m12 (F := F) (j := j + 5) (i := i8) (σ := [c0, some (.ref 0), some v, some (V a), some (V b), some (V H), some (V W), some (.d (barD (barOf H W a b))), some (.d (toldL (barOf H W a b))), d9, some (.d (.list (Ts.map TT))), d11, c12, c13, c14, c15, c16, c17, c18, d19, c20, c21]) hn (by omega) (by omega) rfl
  simp only [List.set_cons_succ, List.set_cons_zero] at e12
  obtain ⟨p0, p1, p00, p0M, p10, p1M, e13⟩ := m13 (F := F) (j := j + 5) (i := i8 + 3) (σ := [c0, some (.ref 0), some v, some (V a), some (V b), some (V H), some (V W), some (.d (barD (barOf H W a b))), some (.d (toldL (barOf H W a b))), d9, some (.d (.list (Ts.map TT))), d11, some (.d (.list [N g0, N g1])), c13, c14, c15, c16, c17, c18, d19, c20, c21]) hn (by omega) (by omega) rfl
  simp only [List.set_cons_succ, List.set_cons_zero] at e13
  obtain ⟨r0, hr0, e14⟩ := m14 (F := F) (j := j + 5) (i := i8 + 3 + 2) (b0 := p0) (b1 := p1) (σ := [c0, some (.ref 0), some v, some (V a), some (V b), some (V H), some (V W), some (.d (barD (barOf H W a b))), some (.d (toldL (barOf H W a b))), d9, some (.d (.list (Ts.map TT))), d11, some (.d (.list [N g0, N g1])), some (.d (.list [N p0, N p1])), c14, c15, c16, c17, c18, d19, c20, c21]) hn (by omega) (by omega) rfl rfl
  simp only [List.set_cons_succ, List.set_cons_zero] at e14
  generalize hi14 : i8 + 3 + 2 + 1 = i14 at *
  have gp : g0 * p1 ≤ 1000 * 60 := Nat.mul_le_mul g0M p1M
  have gp0 : 0 < g0 * p1 := Nat.mul_pos g00 p10
  have rg2 : Rg F g1 (g0 * p1) r0 p1 := ⟨⟨by omega, by omega, by omega, by omega, by omega, by omega, hF⟩, by omega, by omega, by omega, by omega, by omega, by omega⟩
  have ar := fun (c7 c8 : Option Val) => args15 (F := F) (C := O F (j + 6)) (h := SH ns i14 []) (g0 := g0) (g1 := g1) (b0 := p0) (b1 := p1) (c0 := r0) (σ := [c0, some (.ref 0), some v, some (V a), some (V b), some (V H), some (V W), c7, c8, d9, some (.d (.list (Ts.map TT))), d11, some (.d (.list [N g0, N g1])), some (.d (.list [N p0, N p1])), some (.d (.tuple [N r0, N p1])), c15, c16, c17, c18, d19, c20, c21]) g0M p1M rfl rfl rfl
  have e15 := m4 (F := F) (j := j) (h := SH ns i14 []) (xs := xs15) rg2.toSz (ar (some (.d (barD (barOf H W a b)))) (some (.d (toldL (barOf H W a b)))))
  rw [← M15_is] at e15
  simp only [List.set_cons_succ, List.set_cons_zero] at e15
  have e16 := told_ev (F := F) (j := j) (h := SH ns i14 []) (xs := xs15) rg2 (ar (some (.d (barD (barOf g1 (g0 * p1) r0 p1)))) (some (.d (toldL (barOf H W a b)))))
  have e16 : ex F (O F (j + 6)) M16 [c0, some (.ref 0), some v, some (V a), some (V b), some (V H), some (V W), some (.d (barD (barOf g1 (g0 * p1) r0 p1))), some (.d (toldL (barOf H W a b))), d9, some (.d (.list (Ts.map TT))), d11, some (.d (.list [N g0, N g1])), some (.d (.list [N p0, N p1])), some (.d (.tuple [N r0, N p1])), c15, c16, c17, c18, d19, c20, c21] (SH ns i14 []) = .ok (.nx [c0, some (.ref 0), some v, some (V a), some (V b), some (V H), some (V W), some (.d (barD (barOf g1 (g0 * p1) r0 p1))), some (.d (toldL (barOf g1 (g0 * p1) r0 p1))), d9, some (.d (.list (Ts.map TT))), d11, some (.d (.list [N g0, N g1])), some (.d (.list [N p0, N p1])), some (.d (.tuple [N r0, N p1])), c15, c16, c17, c18, d19, c20, c21]) (SH ns i14 []) := by
    rw [M16_is, x_set, e16]; rfl
  have e17 := m7 (F := F) (j := j) (h := SH ns i14 []) (σ := [c0, some (.ref 0), some v, some (V a), some (V b), some (V H), some (V W), some (.d (barD (barOf g1 (g0 * p1) r0 p1))), some (.d (toldL (barOf g1 (g0 * p1) r0 p1))), d9, some (.d (.list (Ts.map TT))), d11, some (.d (.list [N g0, N g1])), some (.d (.list [N p0, N p1])), some (.d (.tuple [N r0, N p1])), c15, c16, c17, c18, d19, c20, c21]) rg2.toSz rfl rfl
  rw [← M17_is] at e17
  obtain ⟨x, x0, x1, e18⟩ := m_d (F := F) (j := j + 5) (k := 15) (m := 12) (i := i14) (σ := [c0, some (.ref 0), some v, some (V a), some (V b), some (V H), some (V W), some (.d (barD (barOf g1 (g0 * p1) r0 p1))), some (.d (toldL (barOf g1 (g0 * p1) r0 p1))), d9, some (.d (.list (Ts.map TT))), d11, some (.d (.list [N g0, N g1])), some (.d (.list [N p0, N p1])), some (.d (.tuple [N r0, N p1])), c15, c16, c17, c18, d19, c20, c21]) hn (by omega) (by omega) (by decide) rfl
  obtain ⟨y, y0, y1, e19⟩ := m_d (F := F) (j := j + 5) (k := 16) (m := 12) (i := i14 + 1) (σ := [c0, some (.ref 0), some v, some (V a), some (V b), some (V H), some (V W), some (.d (barD (barOf g1 (g0 * p1) r0 p1))), some (.d (toldL (barOf g1 (g0 * p1) r0 p1))), d9, some (.d (.list (Ts.map TT))), d11, some (.d (.list [N g0, N g1])), some (.d (.list [N p0, N p1])), some (.d (.tuple [N r0, N p1])), some (V x), c16, c17, c18, d19, c20, c21]) hn (by omega) (by omega) (by decide) rfl
  obtain ⟨z, z0, z1, e20⟩ := m_d (F := F) (j := j + 5) (k := 17) (m := 40) (i := i14 + 1 + 1) (σ := [c0, some (.ref 0), some v, some (V a), some (V b), some (V H), some (V W), some (.d (barD (barOf g1 (g0 * p1) r0 p1))), some (.d (toldL (barOf g1 (g0 * p1) r0 p1))), d9, some (.d (.list (Ts.map TT))), d11, some (.d (.list [N g0, N g1])), some (.d (.list [N p0, N p1])), some (.d (.tuple [N r0, N p1])), some (V x), some (V y), c17, c18, d19, c20, c21]) hn (by omega) (by omega) (by decide) rfl
  simp only [List.set_cons_succ, List.set_cons_zero] at e18 e19 e20
  generalize hi20 : i14 + 1 + 1 + 1 = i20 at *
  have e21 := m21 (F := F) (j := j) (h := SH ns i20 []) (a := x) (b := y) (W := z) (σ := [c0, some (.ref 0), some v, some (V a), some (V b), some (V H), some (V W), some (.d (barD (barOf g1 (g0 * p1) r0 p1))), some (.d (toldL (barOf g1 (g0 * p1) r0 p1))), d9, some (.d (.list (Ts.map TT))), d11, some (.d (.list [N g0, N g1])), some (.d (.list [N p0, N p1])), some (.d (.tuple [N r0, N p1])), some (V x), some (V y), some (V z), c18, d19, c20, c21]) x0 y0 (by omega) (by omega) (by omega) hF rfl rfl rfl rfl
  simp only [List.set_cons_succ, List.set_cons_zero] at e21
  have e22 := m22 (F := F) (j := j) (h := SH ns i20 []) (a := x) (b := y) (W := z) (σ := [c0, some (.ref 0), some v, some (V a), some (V b), some (V H), some (V W), some (.d (barD (barOf g1 (g0 * p1) r0 p1))), some (.d (toldL (barOf g1 (g0 * p1) r0 p1))), d9, some (.d (.list (Ts.map TT))), d11, some (.d (.list [N g0, N g1])), some (.d (.list [N p0, N p1])), some (.d (.tuple [N r0, N p1])), some (V x), some (V y), some (V z), some (.d (leastD x y z)), d19, c20, c21]) x0 y0 (by omega) (by omega) z0 (by omega) hF rfl rfl rfl rfl
  refine ⟨[c0, some (.ref 0), some v, some (V a), some (V b), some (V H), some (V W), some (.d (barD (barOf g1 (g0 * p1) r0 p1))), some (.d (toldL (barOf g1 (g0 * p1) r0 p1))), d9, some (.d (.list (Ts.map TT))), d11, some (.d (.list [N g0, N g1])), some (.d (.list [N p0, N p1])), some (.d (.tuple [N r0, N p1])), some (V x), some (V y), some (V z), some (.d (leastD x y z)), d19, c20, c21], i20, ⟨_, _, _, _, _, _, _, _, _, _, _, _, _, _, _, _, _, _, _, _, rfl⟩, by omega, by omega, ?_⟩
  show exs F (O F (j + 6)) bodyT [c0, some (.ref 0), some v, c3, c4, c5, c6, c7, c8, c9, c10, c11, c12, c13, c14, c15, c16, c17, c18, c19, c20, c21] (SH ns i []) = _
  have sp : bodyT = [M0, M1, M2, M3, M4, M5, M6, M7] ++ ([M8, M9, M10] ++ [M11, M12, M13, M14, M15, M16, M17, M18, M19, M20, M21, M22]) := rfl
  have app : ∀ (xs ys : List Ip.St) (σ : Sg) (h : Hq), exs F (O F (j + 6)) (xs ++ ys) σ h = (exs F (O F (j + 6)) xs σ h).thn fun σ' h1 => exs F (O F (j + 6)) ys σ' h1 := fun xs => by
    induction xs with
    | nil => intro ys σ h; rw [List.nil_append, xs_nil]; rfl
    | cons x xs ih =>
      intro ys σ h
      rw [List.cons_append, xs_cons, xs_cons]
      cases ex F (O F (j + 6)) x σ h with
      | ok fl h1 =>
        cases fl with
        | nx σ' => exact ih ys σ' h1
        | bk σ' => rfl
        | ct σ' => rfl
        | rt v => rfl
      | er e σ h => rfl
      | no => rfl
  have f0 : exs F (O F (j + 6)) [M0, M1, M2, M3, M4, M5, M6, M7] [c0, some (.ref 0), some v, c3, c4, c5, c6, c7, c8, c9, c10, c11, c12, c13, c14, c15, c16, c17, c18, c19, c20, c21] (SH ns i []) = .ok (.nx [c0, some (.ref 0), some v, some (V a), some (V b), some (V H), some (V W), some (.d (barD (barOf H W a b))), some (.d (toldL (barOf H W a b))), c9, c10, c11, c12, c13, c14, c15, c16, c17, c18, d19, c20, c21]) (SH ns i4 []) := by
    rw [xs_cons, show ex F (O F (j + 6)) M0 _ _ = _ from e0, RF.thn_nx, xs_cons, show ex F (O F (j + 6)) M1 _ _ = _ from e1, RF.thn_nx, xs_cons, show ex F (O F (j + 6)) M2 _ _ = _ from e2, RF.thn_nx, xs_cons, show ex F (O F (j + 6)) M3 _ _ = _ from e3, RF.thn_nx, xs_cons, show ex F (O F (j + 6)) M4 _ _ = _ from e4, RF.thn_nx, xs_cons, e5, RF.thn_nx, xs_cons, e6, RF.thn_nx, xs_cons, e7, RF.thn_nx, xs_nil]
  rw [sp, app, f0, RF.thn_nx, app, e8, RF.thn_nx, xs_cons, e11, RF.thn_nx, xs_cons, e12, RF.thn_nx, xs_cons, e13, RF.thn_nx, xs_cons, e14, RF.thn_nx, xs_cons, e15, RF.thn_nx, xs_cons, e16, RF.thn_nx, xs_cons, e17, RF.thn_nx, xs_cons, show ex F (O F (j + 6)) M18 _ _ = _ from e18, RF.thn_nx, xs_cons, show ex F (O F (j + 6)) M19 _ _ = _ from e19, RF.thn_nx, xs_cons, show ex F (O F (j + 6)) M20 _ _ = _ from e20, RF.thn_nx, xs_cons, e21, RF.thn_nx, xs_cons, e22, RF.thn_nx, xs_nil]
end
theorem plain (ns : List Int) (hl : ns.length ≤ 63) : ∃ h, Ip.run (2 ^ 400) (orcs (fnsOf rows) (2 ^ 400) 6) f_law [.d (.list (ns.map .int))] [] = .ok (.d (.bool true)) h := by
  obtain ⟨F, hF⟩ : ∃ F : Nat, F = 2 ^ 400 := ⟨_, rfl⟩
  have hF2 : 1000000 ≤ F := by
    rw [hF]
    exact Nat.le_trans (show 1000000 ≤ 2 ^ 20 by decide) (Nat.pow_le_pow_right (by decide) (by decide))
  rw [← hF]
  obtain ⟨out, hn, es⟩ := c_stream (F := F) (C := O F 5) (h := []) ns hl
  have key := forL_cnt (N := 5) (f := turnV (.nm 2) (bdy F (O F 6) bodyT)) (P := fun n σ h => ∃ (i : Int) (c2 c3 c4 c5 c6 c7 c8 c9 c10 c11 c12 c13 c14 c15 c16 c17 c18 c19 c20 c21 : Option Val), σ = [some (.d (.list (ns.map .int))), some (.ref 0), c2, c3, c4, c5, c6, c7, c8, c9, c10, c11, c12, c13, c14, c15, c16, c17, c18, c19, c20, c21] ∧ h = SH out i [] ∧ 0 ≤ i ∧ i ≤ 100 * n)
    (fun n σ h ⟨i, c2, c3, c4, c5, c6, c7, c8, c9, c10, c11, c12, c13, c14, c15, c16, c17, c18, c19, c20, c21, e1, e2, e4, e5⟩ => ⟨i, c2, c3, c4, c5, c6, c7, c8, c9, c10, c11, c12, c13, c14, c15, c16, c17, c18, c19, c20, c21, e1, e2, e4, by omega⟩)
    (rangeL 0 5) 0 [some (.d (.list (ns.map .int))), some (.ref 0), none, none, none, none, none, none, none, none, none, none, none, none, none, none, none, none, none, none, none, none] (SH out 0 [])
    (fun v hv n σ h hN hp => by
      obtain ⟨i, c2, c3, c4, c5, c6, c7, c8, c9, c10, c11, c12, c13, c14, c15, c16, c17, c18, c19, c20, c21, rfl, rfl, e3, e4⟩ := hp
      obtain ⟨σ', i', ⟨d2, d3, d4, d5, d6, d7, d8, d9, d10, d11, d12, d13, d14, d15, d16, d17, d18, d19, d20, d21, rfl⟩, b1, b2, e⟩ := turn_ok (F := F) (j := 0) (i := i) (v := v) (c0 := some (.d (.list (ns.map .int)))) (c2 := c2) (c3 := c3) (c4 := c4) (c5 := c5) (c6 := c6) (c7 := c7) (c8 := c8) (c9 := c9) (c10 := c10) (c11 := c11) (c12 := c12) (c13 := c13) (c14 := c14) (c15 := c15) (c16 := c16) (c17 := c17) (c18 := c18) (c19 := c19) (c20 := c20) (c21 := c21) hF2 hn e3 (by omega)
      exact ⟨_, _, ⟨i', _, _, _, _, _, _, _, _, _, _, _, _, _, _, _, _, _, _, _, _, rfl, rfl, by omega, by omega⟩, .inl e⟩) (by simp [rangeL_len]) ⟨0, none, none, none, none, none, none, none, none, none, none, none, none, none, none, none, none, none, none, none, none, rfl, rfl, by omega, by omega⟩
  obtain ⟨σ', h', ⟨i, c2, c3, c4, c5, c6, c7, c8, c9, c10, c11, c12, c13, c14, c15, c16, c17, c18, c19, c20, c21, rfl, rfl, _, _⟩, e⟩ := key
  have ok : okRng 5 = true := by decide
  have f2 : fits 2 = true := f2
  refine ⟨SH out i [], ?_⟩
  have st : ([IO.lst [Val.d (.list (out.map .int)), Val.d (.int 0)]] : Hq) = SH out 0 [] := rfl
  have el := mL (F := F) (j := 0) (h := SH out i []) (σ := [some (.d (.list (ns.map .int))), some (.ref 0), c2, c3, c4, c5, c6, c7, c8, c9, c10, c11, c12, c13, c14, c15, c16, c17, c18, c19, c20, c21]) hF2
  have el : ex F (O F 6) ML [some (.d (.list (ns.map .int))), some (.ref 0), c2, c3, c4, c5, c6, c7, c8, c9, c10, c11, c12, c13, c14, c15, c16, c17, c18, c19, c20, c21] (SH out i []) = _ := el
  have s0 : exs F (O F 6) b_law [some (.d (.list (ns.map .int))), none, none, none, none, none, none, none, none, none, none, none, none, none, none, none, none, none, none, none, none, none] [] = .ok (.rt (.d (.bool true))) (SH out i []) := by
    rw [b_is]
    simp only [xs_cons, x_set, e_new, el_dsp, es_cons, es_nil, ev_call, t_15, e_var, e_lit, List.getElem?_cons_zero, R.bind_ok, es, List.length_cons, List.length_nil, Nat.zero_add, Nat.reduceAdd, f2, if_true, List.nil_append, R.thn_ok, RF.thn_nx, List.set_cons_succ, List.set_cons_zero, st, x_for, ex_rng, intV_i, ok]
    rw [show forL (turnV (.nm 2) (bdy F (O F 6) bodyT)) (rangeL 0 (5 : Int).toNat) _ (SH out 0 []) = _ from e]
    simp only [RF.thn_nx]
    rw [el]
    rfl
  show (match exs F (O F 6) b_law [some (.d (.list (ns.map .int))), none, none, none, none, none, none, none, none, none, none, none, none, none, none, none, none, none, none, none, none, none] [] with
    | .ok (.rt v) h1 => R.ok v h1
    | .ok (.nx _) h1 => .ok (.d .none) h1
    | .er e _ h1 => .er e h1
    | _ => .no) = _
  rw [s0]
theorem tells : Tells (2 ^ 400) t_told := by
  intro c w C h hw
  have r5 : okRng 5 = true := by decide
  have hc : (c = 0 ∧ w = "refused") ∨ (c = 1 ∧ w = "large") ∨ (c = 2 ∧ w = "missing") := by
    match c with
    | 0 => exact .inl ⟨rfl, by simp [t_told, toldWs] at hw; exact hw.symm⟩
    | 1 => exact .inr (.inl ⟨rfl, by simp [t_told, toldWs] at hw; exact hw.symm⟩)
    | 2 => exact .inr (.inr ⟨rfl, by simp [t_told, toldWs] at hw; exact hw.symm⟩)
    | c + 3 => simp [t_told, toldWs] at hw
  rcases hc with ⟨rfl, rfl⟩ | ⟨rfl, rfl⟩ | ⟨rfl, rfl⟩ <;> simp [t_told, r5, rangeL, cmpL_cons, itm, wipe, ixV, ixW, dctR, dct, els, atD, ixn, fits, catL, elsL]
end K12

set_option linter.all false
set_option Elab.async false
set_option autoImplicit false
set_option maxRecDepth 100000
namespace K12
open PySem L2 PyProof.Rows Ip
theorem d_check_sides {K : PySem.W.Frag} {f : Addr} {oc : Value} {od an : Option Addr} {osl : Array (Option Value)} {kV doc pm cdv ct : Value} (a : PySem.W.nsIn K mainGlobals "check_sides" = some (some (.ref f)))
    (l : K.lookup f = some ⟨oc, od, .func (PySem.W.fnOf "check_sides" "check_sides" (defArgs (topS 10)) (defBody (topS 10)) (defScope (topS 10)) .none kV doc pm an cdv ct), osl⟩) (c : PySem.W.codeIn K cdv "check_sides" = true) (k : PySem.W.keepIn K (.ref f) = true) : DefK K r_check_sides.x r_check_sides.st r_check_sides.ps :=
  dk_mk a l c k fun _ _ _ _ _ _ us hl => match us, hl with | [_, _], _ => rfl
theorem d_check_brick {K : PySem.W.Frag} {f : Addr} {oc : Value} {od an : Option Addr} {osl : Array (Option Value)} {kV doc pm cdv ct : Value} (a : PySem.W.nsIn K mainGlobals "check_brick" = some (some (.ref f)))
    (l : K.lookup f = some ⟨oc, od, .func (PySem.W.fnOf "check_brick" "check_brick" (defArgs (topS 11)) (defBody (topS 11)) (defScope (topS 11)) .none kV doc pm an cdv ct), osl⟩) (c : PySem.W.codeIn K cdv "check_brick" = true) (k : PySem.W.keepIn K (.ref f) = true) : DefK K r_check_brick.x r_check_brick.st r_check_brick.ps :=
  dk_mk a l c k fun _ _ _ _ _ _ us hl => match us, hl with | [_, _], _ => rfl
theorem d_divisor {K : PySem.W.Frag} {f : Addr} {oc : Value} {od an : Option Addr} {osl : Array (Option Value)} {kV doc pm cdv ct : Value} (a : PySem.W.nsIn K mainGlobals "divisor" = some (some (.ref f)))
    (l : K.lookup f = some ⟨oc, od, .func (PySem.W.fnOf "divisor" "divisor" (defArgs (topS 12)) (defBody (topS 12)) (defScope (topS 12)) .none kV doc pm an cdv ct), osl⟩) (c : PySem.W.codeIn K cdv "divisor" = true) (k : PySem.W.keepIn K (.ref f) = true) : DefK K r_divisor.x r_divisor.st r_divisor.ps :=
  dk_mk a l c k fun _ _ _ _ _ _ us hl => match us, hl with | [_, _], _ => rfl
theorem d_sum_of {K : PySem.W.Frag} {f : Addr} {oc : Value} {od an : Option Addr} {osl : Array (Option Value)} {kV doc pm cdv ct : Value} (a : PySem.W.nsIn K mainGlobals "sum_of" = some (some (.ref f)))
    (l : K.lookup f = some ⟨oc, od, .func (PySem.W.fnOf "sum_of" "sum_of" (defArgs (topS 13)) (defBody (topS 13)) (defScope (topS 13)) .none kV doc pm an cdv ct), osl⟩) (c : PySem.W.codeIn K cdv "sum_of" = true) (k : PySem.W.keepIn K (.ref f) = true) : DefK K r_sum_of.x r_sum_of.st r_sum_of.ps :=
  dk_mk a l c k fun _ _ _ _ _ _ us hl => match us, hl with | [_, _, _], _ => rfl
theorem d_reduced {K : PySem.W.Frag} {f : Addr} {oc : Value} {od an : Option Addr} {osl : Array (Option Value)} {kV doc pm cdv ct : Value} (a : PySem.W.nsIn K mainGlobals "reduced" = some (some (.ref f)))
    (l : K.lookup f = some ⟨oc, od, .func (PySem.W.fnOf "reduced" "reduced" (defArgs (topS 14)) (defBody (topS 14)) (defScope (topS 14)) .none kV doc pm an cdv ct), osl⟩) (c : PySem.W.codeIn K cdv "reduced" = true) (k : PySem.W.keepIn K (.ref f) = true) : DefK K r_reduced.x r_reduced.st r_reduced.ps :=
  dk_mk a l c k fun _ _ _ _ _ _ us hl => match us, hl with | [_, _, _, _], _ => rfl
theorem d_can_fill {K : PySem.W.Frag} {f : Addr} {oc : Value} {od an : Option Addr} {osl : Array (Option Value)} {kV doc pm cdv ct : Value} (a : PySem.W.nsIn K mainGlobals "can_fill" = some (some (.ref f)))
    (l : K.lookup f = some ⟨oc, od, .func (PySem.W.fnOf "can_fill" "can_fill" (defArgs (topS 15)) (defBody (topS 15)) (defScope (topS 15)) .none kV doc pm an cdv ct), osl⟩) (c : PySem.W.codeIn K cdv "can_fill" = true) (k : PySem.W.keepIn K (.ref f) = true) : DefK K r_can_fill.x r_can_fill.st r_can_fill.ps :=
  dk_mk a l c k fun _ _ _ _ _ _ us hl => match us, hl with | [_, _, _, _], _ => rfl
theorem d_known_bar {K : PySem.W.Frag} {f : Addr} {oc : Value} {od an : Option Addr} {osl : Array (Option Value)} {kV doc pm cdv ct : Value} (a : PySem.W.nsIn K mainGlobals "known_bar" = some (some (.ref f)))
    (l : K.lookup f = some ⟨oc, od, .func (PySem.W.fnOf "known_bar" "known_bar" (defArgs (topS 16)) (defBody (topS 16)) (defScope (topS 16)) .none kV doc pm an cdv ct), osl⟩) (c : PySem.W.codeIn K cdv "known_bar" = true) (k : PySem.W.keepIn K (.ref f) = true) : DefK K r_known_bar.x r_known_bar.st r_known_bar.ps :=
  dk_mk a l c k fun _ _ _ _ _ _ us hl => match us, hl with | [_, _, _, _], _ => rfl
theorem d_bar {K : PySem.W.Frag} {f : Addr} {oc : Value} {od an : Option Addr} {osl : Array (Option Value)} {kV doc pm cdv ct : Value} (a : PySem.W.nsIn K mainGlobals "bar" = some (some (.ref f)))
    (l : K.lookup f = some ⟨oc, od, .func (PySem.W.fnOf "bar" "bar" (defArgs (topS 17)) (defBody (topS 17)) (defScope (topS 17)) .none kV doc pm an cdv ct), osl⟩) (c : PySem.W.codeIn K cdv "bar" = true) (k : PySem.W.keepIn K (.ref f) = true) : DefK K r_bar.x r_bar.st r_bar.ps :=
  dk_mk a l c k fun _ _ _ _ _ _ us hl => match us, hl with | [_, _, _, _], _ => rfl
theorem d_filling {K : PySem.W.Frag} {f : Addr} {oc : Value} {od an : Option Addr} {osl : Array (Option Value)} {kV doc pm cdv ct : Value} (a : PySem.W.nsIn K mainGlobals "filling" = some (some (.ref f)))
    (l : K.lookup f = some ⟨oc, od, .func (PySem.W.fnOf "filling" "filling" (defArgs (topS 18)) (defBody (topS 18)) (defScope (topS 18)) .none kV doc pm an cdv ct), osl⟩) (c : PySem.W.codeIn K cdv "filling" = true) (k : PySem.W.keepIn K (.ref f) = true) : DefK K r_filling.x r_filling.st r_filling.ps :=
  dk_mk a l c k fun _ _ _ _ _ _ us hl => match us, hl with | [_, _, _, _], _ => rfl
theorem d_put {K : PySem.W.Frag} {f : Addr} {oc : Value} {od an : Option Addr} {osl : Array (Option Value)} {kV doc pm cdv ct : Value} (a : PySem.W.nsIn K mainGlobals "put" = some (some (.ref f)))
    (l : K.lookup f = some ⟨oc, od, .func (PySem.W.fnOf "put" "put" (defArgs (topS 19)) (defBody (topS 19)) (defScope (topS 19)) .none kV doc pm an cdv ct), osl⟩) (c : PySem.W.codeIn K cdv "put" = true) (k : PySem.W.keepIn K (.ref f) = true) : DefK K r_put.x r_put.st r_put.ps :=
  dk_mk a l c k fun _ _ _ _ _ _ us hl => match us, hl with | [_, _, _, _, _], _ => rfl
theorem d_blocks {K : PySem.W.Frag} {f : Addr} {oc : Value} {od an : Option Addr} {osl : Array (Option Value)} {kV doc pm cdv ct : Value} (a : PySem.W.nsIn K mainGlobals "blocks" = some (some (.ref f)))
    (l : K.lookup f = some ⟨oc, od, .func (PySem.W.fnOf "blocks" "blocks" (defArgs (topS 20)) (defBody (topS 20)) (defScope (topS 20)) .none kV doc pm an cdv ct), osl⟩) (c : PySem.W.codeIn K cdv "blocks" = true) (k : PySem.W.keepIn K (.ref f) = true) : DefK K r_blocks.x r_blocks.st r_blocks.ps :=
  dk_mk a l c k fun _ _ _ _ _ _ us hl => match us, hl with | [_, _, _, _], _ => rfl
theorem d_judge_filling {K : PySem.W.Frag} {f : Addr} {oc : Value} {od an : Option Addr} {osl : Array (Option Value)} {kV doc pm cdv ct : Value} (a : PySem.W.nsIn K mainGlobals "judge_filling" = some (some (.ref f)))
    (l : K.lookup f = some ⟨oc, od, .func (PySem.W.fnOf "judge_filling" "judge_filling" (defArgs (topS 21)) (defBody (topS 21)) (defScope (topS 21)) .none kV doc pm an cdv ct), osl⟩) (c : PySem.W.codeIn K cdv "judge_filling" = true) (k : PySem.W.keepIn K (.ref f) = true) : DefK K r_judge_filling.x r_judge_filling.st r_judge_filling.ps :=
  dk_mk a l c k fun _ _ _ _ _ _ us hl => match us, hl with | [_, _, _, _, _], _ => rfl
theorem d_is_brick {K : PySem.W.Frag} {f : Addr} {oc : Value} {od an : Option Addr} {osl : Array (Option Value)} {kV doc pm cdv ct : Value} (a : PySem.W.nsIn K mainGlobals "is_brick" = some (some (.ref f)))
    (l : K.lookup f = some ⟨oc, od, .func (PySem.W.fnOf "is_brick" "is_brick" (defArgs (topS 22)) (defBody (topS 22)) (defScope (topS 22)) .none kV doc pm an cdv ct), osl⟩) (c : PySem.W.codeIn K cdv "is_brick" = true) (k : PySem.W.keepIn K (.ref f) = true) : DefK K r_is_brick.x r_is_brick.st r_is_brick.ps :=
  dk_mk a l c k fun _ _ _ _ _ _ us hl => match us, hl with | [_, _, _], _ => rfl
theorem d_least_box {K : PySem.W.Frag} {f : Addr} {oc : Value} {od an : Option Addr} {osl : Array (Option Value)} {kV doc pm cdv ct : Value} (a : PySem.W.nsIn K mainGlobals "least_box" = some (some (.ref f)))
    (l : K.lookup f = some ⟨oc, od, .func (PySem.W.fnOf "least_box" "least_box" (defArgs (topS 23)) (defBody (topS 23)) (defScope (topS 23)) .none kV doc pm an cdv ct), osl⟩) (c : PySem.W.codeIn K cdv "least_box" = true) (k : PySem.W.keepIn K (.ref f) = true) : DefK K r_least_box.x r_least_box.st r_least_box.ps :=
  dk_mk a l c k fun _ _ _ _ _ _ us hl => match us, hl with | [_, _, _], _ => rfl
theorem d__law_same {K : PySem.W.Frag} {f : Addr} {oc : Value} {od an : Option Addr} {osl : Array (Option Value)} {kV doc pm cdv ct : Value} (a : PySem.W.nsIn K mainGlobals "_law_same" = some (some (.ref f)))
    (l : K.lookup f = some ⟨oc, od, .func (PySem.W.fnOf "_law_same" "_law_same" (defArgs (topS 25)) (defBody (topS 25)) (defScope (topS 25)) .none kV doc pm an cdv ct), osl⟩) (c : PySem.W.codeIn K cdv "_law_same" = true) (k : PySem.W.keepIn K (.ref f) = true) : DefK K r__law_same.x r__law_same.st r__law_same.ps :=
  dk_mk a l c k fun _ _ _ _ _ _ us hl => match us, hl with | [_, _], _ => rfl
theorem d__law_stream {K : PySem.W.Frag} {f : Addr} {oc : Value} {od an : Option Addr} {osl : Array (Option Value)} {kV doc pm cdv ct : Value} (a : PySem.W.nsIn K mainGlobals "_law_stream" = some (some (.ref f)))
    (l : K.lookup f = some ⟨oc, od, .func (PySem.W.fnOf "_law_stream" "_law_stream" (defArgs (topS 26)) (defBody (topS 26)) (defScope (topS 26)) .none kV doc pm an cdv ct), osl⟩) (c : PySem.W.codeIn K cdv "_law_stream" = true) (k : PySem.W.keepIn K (.ref f) = true) : DefK K r__law_stream.x r__law_stream.st r__law_stream.ps :=
  dk_mk a l c k fun _ _ _ _ _ _ us hl => match us, hl with | [_], _ => rfl
theorem d__law_next {K : PySem.W.Frag} {f : Addr} {oc : Value} {od an : Option Addr} {osl : Array (Option Value)} {kV doc pm cdv ct : Value} (a : PySem.W.nsIn K mainGlobals "_law_next" = some (some (.ref f)))
    (l : K.lookup f = some ⟨oc, od, .func (PySem.W.fnOf "_law_next" "_law_next" (defArgs (topS 27)) (defBody (topS 27)) (defScope (topS 27)) .none kV doc pm an cdv ct), osl⟩) (c : PySem.W.codeIn K cdv "_law_next" = true) (k : PySem.W.keepIn K (.ref f) = true) : DefK K r__law_next.x r__law_next.st r__law_next.ps :=
  dk_mk a l c k fun _ _ _ _ _ _ us hl => match us, hl with | [_, _], _ => rfl
theorem d__law_divisor {K : PySem.W.Frag} {f : Addr} {oc : Value} {od an : Option Addr} {osl : Array (Option Value)} {kV doc pm cdv ct : Value} (a : PySem.W.nsIn K mainGlobals "_law_divisor" = some (some (.ref f)))
    (l : K.lookup f = some ⟨oc, od, .func (PySem.W.fnOf "_law_divisor" "_law_divisor" (defArgs (topS 29)) (defBody (topS 29)) (defScope (topS 29)) .none kV doc pm an cdv ct), osl⟩) (c : PySem.W.codeIn K cdv "_law_divisor" = true) (k : PySem.W.keepIn K (.ref f) = true) : DefK K r__law_divisor.x r__law_divisor.st r__law_divisor.ps :=
  dk_mk a l c k fun _ _ _ _ _ _ us hl => match us, hl with | [_, _], _ => rfl
theorem d__law_sum {K : PySem.W.Frag} {f : Addr} {oc : Value} {od an : Option Addr} {osl : Array (Option Value)} {kV doc pm cdv ct : Value} (a : PySem.W.nsIn K mainGlobals "_law_sum" = some (some (.ref f)))
    (l : K.lookup f = some ⟨oc, od, .func (PySem.W.fnOf "_law_sum" "_law_sum" (defArgs (topS 30)) (defBody (topS 30)) (defScope (topS 30)) .none kV doc pm an cdv ct), osl⟩) (c : PySem.W.codeIn K cdv "_law_sum" = true) (k : PySem.W.keepIn K (.ref f) = true) : DefK K r__law_sum.x r__law_sum.st r__law_sum.ps :=
  dk_mk a l c k fun _ _ _ _ _ _ us hl => match us, hl with | [_, _, _], _ => rfl
theorem d__law_bar {K : PySem.W.Frag} {f : Addr} {oc : Value} {od an : Option Addr} {osl : Array (Option Value)} {kV doc pm cdv ct : Value} (a : PySem.W.nsIn K mainGlobals "_law_bar" = some (some (.ref f)))
    (l : K.lookup f = some ⟨oc, od, .func (PySem.W.fnOf "_law_bar" "_law_bar" (defArgs (topS 31)) (defBody (topS 31)) (defScope (topS 31)) .none kV doc pm an cdv ct), osl⟩) (c : PySem.W.codeIn K cdv "_law_bar" = true) (k : PySem.W.keepIn K (.ref f) = true) : DefK K r__law_bar.x r__law_bar.st r__law_bar.ps :=
  dk_mk a l c k fun _ _ _ _ _ _ us hl => match us, hl with | [_, _, _, _], _ => rfl
theorem d__law_found {K : PySem.W.Frag} {f : Addr} {oc : Value} {od an : Option Addr} {osl : Array (Option Value)} {kV doc pm cdv ct : Value} (a : PySem.W.nsIn K mainGlobals "_law_found" = some (some (.ref f)))
    (l : K.lookup f = some ⟨oc, od, .func (PySem.W.fnOf "_law_found" "_law_found" (defArgs (topS 32)) (defBody (topS 32)) (defScope (topS 32)) .none kV doc pm an cdv ct), osl⟩) (c : PySem.W.codeIn K cdv "_law_found" = true) (k : PySem.W.keepIn K (.ref f) = true) : DefK K r__law_found.x r__law_found.st r__law_found.ps :=
  dk_mk a l c k fun _ _ _ _ _ _ us hl => match us, hl with | [_, _, _, _], _ => rfl
theorem d__law_right {K : PySem.W.Frag} {f : Addr} {oc : Value} {od an : Option Addr} {osl : Array (Option Value)} {kV doc pm cdv ct : Value} (a : PySem.W.nsIn K mainGlobals "_law_right" = some (some (.ref f)))
    (l : K.lookup f = some ⟨oc, od, .func (PySem.W.fnOf "_law_right" "_law_right" (defArgs (topS 33)) (defBody (topS 33)) (defScope (topS 33)) .none kV doc pm an cdv ct), osl⟩) (c : PySem.W.codeIn K cdv "_law_right" = true) (k : PySem.W.keepIn K (.ref f) = true) : DefK K r__law_right.x r__law_right.st r__law_right.ps :=
  dk_mk a l c k fun _ _ _ _ _ _ us hl => match us, hl with | [_, _, _, _, _], _ => rfl
theorem d__law_bent {K : PySem.W.Frag} {f : Addr} {oc : Value} {od an : Option Addr} {osl : Array (Option Value)} {kV doc pm cdv ct : Value} (a : PySem.W.nsIn K mainGlobals "_law_bent" = some (some (.ref f)))
    (l : K.lookup f = some ⟨oc, od, .func (PySem.W.fnOf "_law_bent" "_law_bent" (defArgs (topS 34)) (defBody (topS 34)) (defScope (topS 34)) .none kV doc pm an cdv ct), osl⟩) (c : PySem.W.codeIn K cdv "_law_bent" = true) (k : PySem.W.keepIn K (.ref f) = true) : DefK K r__law_bent.x r__law_bent.st r__law_bent.ps :=
  dk_mk a l c k fun _ _ _ _ _ _ us hl => match us, hl with | [_, _], _ => rfl
theorem d__law_refuses {K : PySem.W.Frag} {f : Addr} {oc : Value} {od an : Option Addr} {osl : Array (Option Value)} {kV doc pm cdv ct : Value} (a : PySem.W.nsIn K mainGlobals "_law_refuses" = some (some (.ref f)))
    (l : K.lookup f = some ⟨oc, od, .func (PySem.W.fnOf "_law_refuses" "_law_refuses" (defArgs (topS 35)) (defBody (topS 35)) (defScope (topS 35)) .none kV doc pm an cdv ct), osl⟩) (c : PySem.W.codeIn K cdv "_law_refuses" = true) (k : PySem.W.keepIn K (.ref f) = true) : DefK K r__law_refuses.x r__law_refuses.st r__law_refuses.ps :=
  dk_mk a l c k fun _ _ _ _ _ _ us hl => match us, hl with | [], _ => rfl
theorem d_law {K : PySem.W.Frag} {f : Addr} {oc : Value} {od an : Option Addr} {osl : Array (Option Value)} {kV doc pm cdv ct : Value} (a : PySem.W.nsIn K mainGlobals "law" = some (some (.ref f)))
    (l : K.lookup f = some ⟨oc, od, .func (PySem.W.fnOf "law" "law" (defArgs (topS 36)) (defBody (topS 36)) (defScope (topS 36)) .none kV doc pm an cdv ct), osl⟩) (c : PySem.W.codeIn K cdv "law" = true) (k : PySem.W.keepIn K (.ref f) = true) : DefK K r_law.x r_law.st r_law.ps :=
  dk_mk a l c k fun _ _ _ _ _ _ us hl => match us, hl with | [_], _ => rfl
theorem d__law_told {K : PySem.W.Frag} {f : Addr} {oc : Value} {od an : Option Addr} {osl : Array (Option Value)} {kV doc pm cdv ct : Value} (a : PySem.W.nsIn K mainGlobals "_law_told" = some (some (.ref f)))
    (l : K.lookup f = some ⟨oc, od, .func (PySem.W.fnOf "_law_told" "_law_told" (defArgs (topS 28)) (defBody (topS 28)) (defScope (topS 28)) .none kV doc pm an cdv ct), osl⟩) (c : PySem.W.codeIn K cdv "_law_told" = true) (k : PySem.W.keepIn K (.ref f) = true) : DefK K t_told.x t_told.st ["call"] :=
  dk_mk a l c k fun _ _ _ _ _ _ us hl => match us, hl with | [_], _ => rfl
theorem mk {q : Program} {l : PySem.W.OpenLaw} {w : World} {K : PySem.W.Frag} {h : Heap} {mg : Str → Option Value} {fa : Addr} {cs : List (Addr × Addr)} (X : K.In h) (G : h.Ns mainGlobals mg) (hfa : mg "law" = some (.ref fa))
    (d_check_sides : DefK K r_check_sides.x r_check_sides.st r_check_sides.ps) (d_check_brick : DefK K r_check_brick.x r_check_brick.st r_check_brick.ps) (d_divisor : DefK K r_divisor.x r_divisor.st r_divisor.ps) (d_sum_of : DefK K r_sum_of.x r_sum_of.st r_sum_of.ps) (d_reduced : DefK K r_reduced.x r_reduced.st r_reduced.ps) (d_can_fill : DefK K r_can_fill.x r_can_fill.st r_can_fill.ps) (d_known_bar : DefK K r_known_bar.x r_known_bar.st r_known_bar.ps) (d_bar : DefK K r_bar.x r_bar.st r_bar.ps) (d_filling : DefK K r_filling.x r_filling.st r_filling.ps) (d_put : DefK K r_put.x r_put.st r_put.ps) (d_blocks : DefK K r_blocks.x r_blocks.st r_blocks.ps) (d_judge_filling : DefK K r_judge_filling.x r_judge_filling.st r_judge_filling.ps) (d_is_brick : DefK K r_is_brick.x r_is_brick.st r_is_brick.ps) (d_least_box : DefK K r_least_box.x r_least_box.st r_least_box.ps) (d__law_same : DefK K r__law_same.x r__law_same.st r__law_same.ps) (d__law_stream : DefK K r__law_stream.x r__law_stream.st r__law_stream.ps) (d__law_next : DefK K r__law_next.x r__law_next.st r__law_next.ps) (d__law_divisor : DefK K r__law_divisor.x r__law_divisor.st r__law_divisor.ps) (d__law_sum : DefK K r__law_sum.x r__law_sum.st r__law_sum.ps) (d__law_bar : DefK K r__law_bar.x r__law_bar.st r__law_bar.ps) (d__law_found : DefK K r__law_found.x r__law_found.st r__law_found.ps) (d__law_right : DefK K r__law_right.x r__law_right.st r__law_right.ps) (d__law_bent : DefK K r__law_bent.x r__law_bent.st r__law_bent.ps) (d__law_refuses : DefK K r__law_refuses.x r__law_refuses.st r__law_refuses.ps) (d_law : DefK K r_law.x r_law.st r_law.ps) (d_told : DefK K t_told.x t_told.st ["call"]) (tn : TellN K t_told ["NotAllowed", "TooLarge", "Missing"])
    (z_len : PySem.W.nsIn K mainGlobals "len" = some none) (z_abs : PySem.W.nsIn K mainGlobals "abs" = some none) (z_int : PySem.W.nsIn K mainGlobals "int" = some none) (z_str : PySem.W.nsIn K mainGlobals "str" = some none) (z_repr : PySem.W.nsIn K mainGlobals "repr" = some none) (z_sum : PySem.W.nsIn K mainGlobals "sum" = some none) (z_max : PySem.W.nsIn K mainGlobals "max" = some none) (z_min : PySem.W.nsIn K mainGlobals "min" = some none) (z_all : PySem.W.nsIn K mainGlobals "all" = some none) (z_any : PySem.W.nsIn K mainGlobals "any" = some none) (z_range : PySem.W.nsIn K mainGlobals "range" = some none) (z_zip : PySem.W.nsIn K mainGlobals "zip" = some none) (z_list : PySem.W.nsIn K mainGlobals "list" = some none) (z_tuple : PySem.W.nsIn K mainGlobals "tuple" = some none) (z_isinstance : PySem.W.nsIn K mainGlobals "isinstance" = some none) (z_sorted : PySem.W.nsIn K mainGlobals "sorted" = some none) (z_set : PySem.W.nsIn K mainGlobals "set" = some none) (z_enumerate : PySem.W.nsIn K mainGlobals "enumerate" = some none) (z_divmod : PySem.W.nsIn K mainGlobals "divmod" = some none) (c_NotAllowed : CK K "NotAllowed") (c_TooLarge : CK K "TooLarge") (c_Missing : CK K "Missing")
    (lk : LamsK q K ["_law_refuses", "law"] cs) (nd : (cs.map (·.2)).Nodup) (gk : GlsK K ext.gl) :
    AtLaw q l w K 63 "script" mg fa :=
  all_mk (ex := ext) (F := (2 ^ 400)) (J := 6) (f := 24) (r := r_law) (xs := ["NotAllowed", "TooLarge", "Missing"]) (cs := cs) rows_ok defs_ok ⟨⟨rfl, by decide +kernel, by decide +kernel⟩, rfl⟩ rfl rfl rfl rfl (by decide +kernel) (fun _ _ _ _ _ _ _ _ => .of_eq rfl) plain X G hfa ⟨d_check_sides, d_check_brick, d_divisor, d_sum_of, d_reduced, d_can_fill, d_known_bar, d_bar, d_filling, d_put, d_blocks, d_judge_filling, d_is_brick, d_least_box, d__law_same, d__law_stream, d__law_next, d__law_divisor, d__law_sum, d__law_bar, d__law_found, d__law_right, d__law_bent, d__law_refuses, d_law, trivial⟩ ⟨z_len, z_abs, z_int, z_str, z_repr, z_sum, z_max, z_min, z_all, z_any, z_range, z_zip, z_list, z_tuple, z_isinstance, z_sorted, z_set, z_enumerate, z_divmod, trivial⟩ ⟨c_NotAllowed, c_TooLarge, c_Missing, trivial⟩ lk nd (tellT_some told_c rfl d_told tn tells) gk
end K12
open PySem PySem.W PyProof.Rows
set_option maxHeartbeats 0 in
theorem PySem.Challenge.cw_cellshapes_k12_whole_bricks_in_boxes_holds : PySem.Challenge.rw_cellshapes_k12_whole_bricks_in_boxes.Holds := by
  w_on; o_law; k_head; (case hw => w_witness2)
  k_fill
  refine Ip.walk_G (l := PySem.Challenge.rw_cellshapes_k12_whole_bricks_in_boxes) (n := 63) (x := "script") rfl (by decide) rfl (fun w h Y => PySem.W.km_in_of Y) ?F
  case F =>
    intro w mg fa h KX G hmg
    refine' K12.mk KX G hmg ?d_check_sides ?d_check_brick ?d_divisor ?d_sum_of ?d_reduced ?d_can_fill ?d_known_bar ?d_bar ?d_filling ?d_put ?d_blocks ?d_judge_filling ?d_is_brick ?d_least_box ?d__law_same ?d__law_stream ?d__law_next ?d__law_divisor ?d__law_sum ?d__law_bar ?d__law_found ?d__law_right ?d__law_bent ?d__law_refuses ?d_law ?d_told ?tn ?z_len ?z_abs ?z_int ?z_str ?z_repr ?z_sum ?z_max ?z_min ?z_all ?z_any ?z_range ?z_zip ?z_list ?z_tuple ?z_isinstance ?z_sorted ?z_set ?z_enumerate ?z_divmod ?c_NotAllowed ?c_TooLarge ?c_Missing (Ip.lamsK_mk ?lt0 ?ln0 ?lf0 (Ip.lamsK_mk ?lt1 ?ln1 ?lf1 Ip.lamsK_nil)) ?nd (Ip.gls_mk ?g_MAX_SIDE (Ip.gls_mk ?g_MAX_SHOWN trivial))
    (case d_check_sides => (refine' K12.d_check_sides ?a ?l ?c ?k; (case a => k_is); (case l => k_is); (case c => k_is); (case k => k_is)))
    (case d_check_brick => (refine' K12.d_check_brick ?a ?l ?c ?k; (case a => k_is); (case l => k_is); (case c => k_is); (case k => k_is)))
    (case d_divisor => (refine' K12.d_divisor ?a ?l ?c ?k; (case a => k_is); (case l => k_is); (case c => k_is); (case k => k_is)))
    (case d_sum_of => (refine' K12.d_sum_of ?a ?l ?c ?k; (case a => k_is); (case l => k_is); (case c => k_is); (case k => k_is)))
    (case d_reduced => (refine' K12.d_reduced ?a ?l ?c ?k; (case a => k_is); (case l => k_is); (case c => k_is); (case k => k_is)))
    (case d_can_fill => (refine' K12.d_can_fill ?a ?l ?c ?k; (case a => k_is); (case l => k_is); (case c => k_is); (case k => k_is)))
    (case d_known_bar => (refine' K12.d_known_bar ?a ?l ?c ?k; (case a => k_is); (case l => k_is); (case c => k_is); (case k => k_is)))
    (case d_bar => (refine' K12.d_bar ?a ?l ?c ?k; (case a => k_is); (case l => k_is); (case c => k_is); (case k => k_is)))
    (case d_filling => (refine' K12.d_filling ?a ?l ?c ?k; (case a => k_is); (case l => k_is); (case c => k_is); (case k => k_is)))
    (case d_put => (refine' K12.d_put ?a ?l ?c ?k; (case a => k_is); (case l => k_is); (case c => k_is); (case k => k_is)))
    (case d_blocks => (refine' K12.d_blocks ?a ?l ?c ?k; (case a => k_is); (case l => k_is); (case c => k_is); (case k => k_is)))
    (case d_judge_filling => (refine' K12.d_judge_filling ?a ?l ?c ?k; (case a => k_is); (case l => k_is); (case c => k_is); (case k => k_is)))
    (case d_is_brick => (refine' K12.d_is_brick ?a ?l ?c ?k; (case a => k_is); (case l => k_is); (case c => k_is); (case k => k_is)))
    (case d_least_box => (refine' K12.d_least_box ?a ?l ?c ?k; (case a => k_is); (case l => k_is); (case c => k_is); (case k => k_is)))
    (case d__law_same => (refine' K12.d__law_same ?a ?l ?c ?k; (case a => k_is); (case l => k_is); (case c => k_is); (case k => k_is)))
    (case d__law_stream => (refine' K12.d__law_stream ?a ?l ?c ?k; (case a => k_is); (case l => k_is); (case c => k_is); (case k => k_is)))
    (case d__law_next => (refine' K12.d__law_next ?a ?l ?c ?k; (case a => k_is); (case l => k_is); (case c => k_is); (case k => k_is)))
    (case d__law_divisor => (refine' K12.d__law_divisor ?a ?l ?c ?k; (case a => k_is); (case l => k_is); (case c => k_is); (case k => k_is)))
    (case d__law_sum => (refine' K12.d__law_sum ?a ?l ?c ?k; (case a => k_is); (case l => k_is); (case c => k_is); (case k => k_is)))
    (case d__law_bar => (refine' K12.d__law_bar ?a ?l ?c ?k; (case a => k_is); (case l => k_is); (case c => k_is); (case k => k_is)))
    (case d__law_found => (refine' K12.d__law_found ?a ?l ?c ?k; (case a => k_is); (case l => k_is); (case c => k_is); (case k => k_is)))
    (case d__law_right => (refine' K12.d__law_right ?a ?l ?c ?k; (case a => k_is); (case l => k_is); (case c => k_is); (case k => k_is)))
    (case d__law_bent => (refine' K12.d__law_bent ?a ?l ?c ?k; (case a => k_is); (case l => k_is); (case c => k_is); (case k => k_is)))
    (case d__law_refuses => (refine' K12.d__law_refuses ?a ?l ?c ?k; (case a => k_is); (case l => k_is); (case c => k_is); (case k => k_is)))
    (case d_law => (refine' K12.d_law ?a ?l ?c ?k; (case a => k_is); (case l => k_is); (case c => k_is); (case k => k_is)))
    (case d_told => (refine' K12.d__law_told ?a ?l ?c ?k; (case a => k_is); (case l => k_is); (case c => k_is); (case k => k_is)))
    (case z_len => k_is)
    (case z_abs => k_is)
    (case z_int => k_is)
    (case z_str => k_is)
    (case z_repr => k_is)
    (case z_sum => k_is)
    (case z_max => k_is)
    (case z_min => k_is)
    (case z_all => k_is)
    (case z_any => k_is)
    (case z_range => k_is)
    (case z_zip => k_is)
    (case z_list => k_is)
    (case z_tuple => k_is)
    (case z_isinstance => k_is)
    (case z_sorted => k_is)
    (case z_set => k_is)
    (case z_enumerate => k_is)
    (case z_divmod => k_is)
    (case c_NotAllowed => (refine' Ip.ck_mk ?a ?e ?k ?s ?t; (case a => k_is); (case e => k_exc); (case k => k_is); (case s => k_is); (case t => k_is)))
    (case c_TooLarge => (refine' Ip.ck_mk ?a ?e ?k ?s ?t; (case a => k_is); (case e => k_exc); (case k => k_is); (case s => k_is); (case t => k_is)))
    (case c_Missing => (refine' Ip.ck_mk ?a ?e ?k ?s ?t; (case a => k_is); (case e => k_exc); (case k => k_is); (case s => k_is); (case t => k_is)))
    (case lt0 => (refine' Ip.tabIn_mk ?a ?l ?c ?m ?v; (case a => k_is); (case l => k_is); (case c => rfl); (case m => k_is); (case v => rfl)))
    (case ln0 => kernel_rfl)
    (case lf0 => rfl)
    (case lt1 => (refine' Ip.tabIn_mk ?a ?l ?c ?m ?v; (case a => k_is); (case l => k_is); (case c => rfl); (case m => k_is); (case v => rfl)))
    (case ln1 => kernel_rfl)
    (case lf1 => rfl)
    (case nd => decide)
    (case g_MAX_SIDE => k_is)
    (case g_MAX_SHOWN => k_is)
    case tn =>
      refine' Ip.tellN_mk ?a ?l
      (case a => k_is)
      refine' Ip.tellL_mk ?a ?hg ?hk ?hs ?hd ?ha ?hn ?ht ?hm ?x1 ?x2 ?x3 ?x4 (Ip.isN_mk ?ia0 ?ik0 (Ip.isN_mk ?ia1 ?ik1 (Ip.isN_mk ?ia2 ?ik2 (Ip.isN_mk ?ia3 ?ik3 (Ip.isN_mk ?ia4 ?ik4 trivial))))) ?r0
      (case a => first | rfl | k_is)
      (case hg => first | rfl | k_is)
      (case hk => first | rfl | k_is)
      (case hs => first | rfl | k_is)
      (case hd => first | rfl | k_is)
      (case ha => first | rfl | k_is)
      (case hn => first | rfl | k_is)
      (case ht => first | rfl | k_is)
      (case hm => first | rfl | k_is)
      (case x1 => first | rfl | k_is)
      (case x2 => first | rfl | k_is)
      (case x3 => first | rfl | k_is)
      (case x4 => first | rfl | k_is)
      (case ia0 => k_is)
      (case ik0 => first | k_is | rfl)
      (case ia1 => k_is)
      (case ik1 => first | k_is | rfl)
      (case ia2 => k_is)
      (case ik2 => first | k_is | rfl)
      (case ia3 => k_is)
      (case ik3 => first | k_is | rfl)
      (case ia4 => k_is)
      (case ik4 => first | k_is | rfl)
      refine' Ip.tellL_mk ?a ?hg ?hk ?hs ?hd ?ha ?hn ?ht ?hm ?x1 ?x2 ?x3 ?x4 (Ip.isN_mk ?ia0 ?ik0 (Ip.isN_mk ?ia1 ?ik1 (Ip.isN_mk ?ia2 ?ik2 (Ip.isN_mk ?ia3 ?ik3 (Ip.isN_mk ?ia4 ?ik4 trivial))))) ?r1
      (case a => first | rfl | k_is)
      (case hg => first | rfl | k_is)
      (case hk => first | rfl | k_is)
      (case hs => first | rfl | k_is)
      (case hd => first | rfl | k_is)
      (case ha => first | rfl | k_is)
      (case hn => first | rfl | k_is)
      (case ht => first | rfl | k_is)
      (case hm => first | rfl | k_is)
      (case x1 => first | rfl | k_is)
      (case x2 => first | rfl | k_is)
      (case x3 => first | rfl | k_is)
      (case x4 => first | rfl | k_is)
      (case ia0 => k_is)
      (case ik0 => first | k_is | rfl)
      (case ia1 => k_is)
      (case ik1 => first | k_is | rfl)
      (case ia2 => k_is)
      (case ik2 => first | k_is | rfl)
      (case ia3 => k_is)
      (case ik3 => first | k_is | rfl)
      (case ia4 => k_is)
      (case ik4 => first | k_is | rfl)
      refine' Ip.tellL_mk ?a ?hg ?hk ?hs ?hd ?ha ?hn ?ht ?hm ?x1 ?x2 ?x3 ?x4 (Ip.isN_mk ?ia0 ?ik0 (Ip.isN_mk ?ia1 ?ik1 (Ip.isN_mk ?ia2 ?ik2 (Ip.isN_mk ?ia3 ?ik3 (Ip.isN_mk ?ia4 ?ik4 trivial))))) ?r2
      (case a => first | rfl | k_is)
      (case hg => first | rfl | k_is)
      (case hk => first | rfl | k_is)
      (case hs => first | rfl | k_is)
      (case hd => first | rfl | k_is)
      (case ha => first | rfl | k_is)
      (case hn => first | rfl | k_is)
      (case ht => first | rfl | k_is)
      (case hm => first | rfl | k_is)
      (case x1 => first | rfl | k_is)
      (case x2 => first | rfl | k_is)
      (case x3 => first | rfl | k_is)
      (case x4 => first | rfl | k_is)
      (case ia0 => k_is)
      (case ik0 => first | k_is | rfl)
      (case ia1 => k_is)
      (case ik1 => first | k_is | rfl)
      (case ia2 => k_is)
      (case ik2 => first | k_is | rfl)
      (case ia3 => k_is)
      (case ik3 => first | k_is | rfl)
      (case ia4 => k_is)
      (case ik4 => first | k_is | rfl)
      exact trivial

