import PyProof.Rows.All
import HandS.ForExc
import HandS.Comp
import HandS.Lambda
import HandS.Wide
import HandS.Deep
import HandS.Zip
import HandS.Iter
import HandS.FStr
import HandS.TupAny
import HandS.TupMul
import HandS.NoneIn
import HandS.SetFor
import HandS.Strs
import HandS.WideBits
import KE.KDictDisplayH
import HandS.ExcCtx
import HandS.Hot
import HandS.HotCalls
import HandS.ExcIs
import HandS.IsInst
import HandS.Conv
import KE.SortData
import HandS.Flow
import HandS.Ends
import PySem.Challenge.RW_cellshapes_k13_whole_bars_in_boxes
set_option linter.all false
set_option Elab.async false
/-! An evaluator of our own over plain data: values, objects, expressions, statements, calls. -/
namespace Ip
open PySem

abbrev D := PyData

/-- a value: plain data that nobody changes; an object of this run that may change; a def -/
inductive Val where
  | d (x : D)
  | ref (n : Nat)
  | fn (f : Nat)

/-- a dict: keys that are ints and texts; tuples of them -/
inductive Dc where
  | k (kvs : List (L2.Key × Val))
  | t (kvs : List (List L2.Key × Val))
inductive IO where
  | lst (xs : List Val)
  | dead (x : D)
  | dct (c : Dc)
  | tx (ds : List D)

def IO.alive : IO → Bool
  | .dead _ => false
  | .tx _ => false
  | _ => true
abbrev Hq := List IO
abbrev Sg := List (Option Val)

structure Exc where
  cls : Nat
  arg : Option D

inductive R (α : Type) where
  | ok (a : α) (h : Hq)
  | er (e : Exc) (h : Hq)
  | no

def R.bind {α β : Type} (r : R α) (f : α → Hq → R β) : R β :=
  match r with
  | .ok a h => f a h
  | .er e h => .er e h
  | .no => .no
@[simp] theorem R.bind_ok {α β : Type} (a : α) (h : Hq) (f : α → Hq → R β) : (R.ok a h).bind f = f a h := rfl
@[simp] theorem R.bind_er {α β : Type} (e : Exc) (h : Hq) (f : α → Hq → R β) : (R.er e h : R α).bind f = R.er e h := rfl
@[simp] theorem R.bind_no {α β : Type} (f : α → Hq → R β) : (R.no : R α).bind f = R.no := rfl
theorem R.bind_assoc {α β γ : Type} (r : R α) (f : α → Hq → R β) (g : β → Hq → R γ) : (r.bind f).bind g = r.bind fun a h => (f a h).bind g := by cases r <;> rfl
/-- nothing may be raised -/
def R.quiet {α : Type} (r : R α) : R α := match r with
  | .er _ _ => .no
  | r => r
@[simp] theorem R.quiet_ok {α : Type} (a : α) (h : Hq) : (R.ok a h).quiet = .ok a h := rfl
@[simp] theorem R.quiet_no {α : Type} : (R.no : R α).quiet = .no := rfl
/-- a look that may fail -/
def R.of {α : Type} (o : Option α) (h : Hq) : R α := match o with | some a => .ok a h | none => .no
@[simp] theorem R.of_some {α : Type} (a : α) (h : Hq) : R.of (some a) h = .ok a h := rfl
@[simp] theorem R.of_none {α : Type} (h : Hq) : (R.of none h : R α) = .no := rfl

inductive Flow where
  | nx (σ : Sg)
  | bk (σ : Sg)
  | ct (σ : Sg)
  | rt (v : Val)

/-! ### looking at values -/
def allO (f : Val → Option D) : List Val → Option (List D)
  | [] => some []
  | v :: vs => match f v, allO f vs with
    | some x, some xs => some (x :: xs)
    | _, _ => none
/-- the data that a value is now -/
def pk (h : Hq) : Nat → Val → Option D
  | 0, v => match v with
    | .d x => some x
    | _ => none
  | n + 1, v => match v with
    | .d x => some x
    | .ref a => match h[a]? with
      | some (.lst vs) => (allO (pk h n) vs).map .list
      | some (.dead x) => some x
      | some (.tx ds) => some (.tuple ds)
      | _ => none
    | .fn _ => none
abbrev pks (h : Hq) (n : Nat) (vs : List Val) : Option (List D) := allO (pk h n) vs
abbrev peek (h : Hq) (v : Val) : Option D := pk h 3 v

def dat : Val → Option D
  | .d x => some x
  | _ => none
def dats : List Val → Option (List D)
  | [] => some []
  | v :: vs => match dat v, dats vs with
    | some x, some xs => some (x :: xs)
    | _, _ => none
/-- a value that becomes data: the object changes no more (its items are data) -/
def toD (v : Val) (h : Hq) : R D := match v with
  | .d x => .ok x h
  | .ref a => match h[a]? with
    | some (.lst vs) => match dats vs with
      | some ds => .ok (.list ds) (h.set a (.dead (.list ds)))
      | none => .no
    | some (.dead x) => .ok x h
    | some (.tx ds) => .ok (.tuple ds) h
    | _ => .no
  | .fn _ => .no
def toDs : List Val → Hq → R (List D)
  | [], h => .ok [] h
  | v :: vs, h => (toD v h).bind fun x h1 => (toDs vs h1).bind fun xs h2 => .ok (x :: xs) h2

mutual
/-- no list within -/
def flat : D → Bool
  | .none | .bool _ | .int _ | .str _ => true
  | .tuple xs => flatAll xs
  | .list _ => false
  | .dict _ => false
def flatAll : List D → Bool
  | [] => true
  | x :: xs => flat x && flatAll xs
end

/-- the items of a list or tuple -/
def els (h : Hq) : Val → Option (List Val)
  | .d (.list xs) => some (xs.map .d)
  | .d (.tuple xs) => some (xs.map .d)
  | .ref n => match h[n]? with
    | some (.lst vs) => some vs
    | some (.dead (.list xs)) => some (xs.map .d)
    | some (.tx ds) => some (ds.map .d)
    | _ => none
  | _ => none

def fits (n : Nat) : Bool := decide (n ≤ 16777216)
def truthD : D → Option Bool
  | .none => some false
  | .bool b => some b
  | .int i => some (i != 0)
  | .str s => if fits s.length then some (s.length != 0) else none
  | .list xs => some (!xs.isEmpty)
  | .tuple xs => some (!xs.isEmpty)
  | .dict _ => none
def tru (v : Val) (h : Hq) : R Bool := match peek h v with
  | some x => R.of (truthD x) h
  | none => .no

/-! ### operators -/
inductive Bop | add | sub | mul | fdiv | mod | pow
inductive Cop | eq | ne | lt | le | gt | ge | isN | notN | inn | nin

def okMul (i j : Int) : Bool := decide (i.natAbs.log2 + j.natAbs.log2 < 900000)
def okDiv (j : Int) : Bool := decide (j ≠ 0) && decide (j.natAbs.log2 < 8000)
def okPow (i j : Int) : Bool := decide (0 ≤ j) && decide (j ≤ 1000000) && decide (i.natAbs.log2 < 64)

def binD : Bop → D → D → Option D
  | .add, .int i, .int j => some (.int (i + j))
  | .add, .str x, .str y => if fits (x.length + y.length) then some (.str (x ++ y)) else none
  | .sub, .int i, .int j => some (.int (i - j))
  | .mul, .int i, .int j => if okMul i j then some (.int (i * j)) else none
  | .fdiv, .int i, .int j => if okDiv j then some (.int (i.fdiv j)) else none
  | .mod, .int i, .int j => if j = 0 then none else some (.int (i.fmod j))
  | .pow, .int i, .int j => if okPow i j then some (.int (i ^ j.toNat)) else none
  | _, _, _ => none

def cmpD : Cop → D → D → Option Bool
  | .eq, .int x, .int y => some (decide (x = y))
  | .ne, .int x, .int y => some (!decide (x = y))
  | .eq, .str x, .str y => some (decide (x = y))
  | .ne, .str x, .str y => some (!decide (x = y))
  | .eq, x, y => if SeqAt.shaped x && SeqAt.shaped y then some (PyData.eqv x y) else none
  | .ne, x, y => if SeqAt.shaped x && SeqAt.shaped y then some (!PyData.eqv x y) else none
  | .lt, .int i, .int j => some (decide (i < j))
  | .le, .int i, .int j => some (decide (i ≤ j))
  | .gt, .int i, .int j => some (decide (j < i))
  | .ge, .int i, .int j => some (decide (j ≤ i))
  | .isN, x, .none => some (match x with | .none => true | _ => false)
  | .notN, x, .none => some (match x with | .none => false | _ => true)
  | .inn, d, .list ds => if SeqAt.shaped d && SeqAt.shaped (.list ds) then some (ds.any fun z => PyData.eqv z d) else none
  | .nin, d, .list ds => if SeqAt.shaped d && SeqAt.shaped (.list ds) then some (!ds.any fun z => PyData.eqv z d) else none
  | .inn, d, .tuple ds => if SeqAt.shaped d && SeqAt.shaped (.tuple ds) then some (ds.any fun z => PyData.eqv z d) else none
  | .nin, d, .tuple ds => if SeqAt.shaped d && SeqAt.shaped (.tuple ds) then some (!ds.any fun z => PyData.eqv z d) else none
  | _, _, _ => none

/-- Python's place of an index -/
def ixn (n : Nat) (i : Int) : Option Nat := if 0 ≤ i then (if i < n then some i.toNat else none) else if -(n : Int) ≤ i then some (i + n).toNat else none
def atD (xs : List Val) (i : Int) : Option Val := match ixn xs.length i with | some j => xs[j]? | none => none
/-- an end of a slice -/
def cutIx (n d : Nat) : Option Int → Nat
  | none => d
  | some i => if i < 0 then (i + n).toNat else min i.toNat n
def cutD {α : Type} (xs : List α) (lo hi : Option Int) : List α := (xs.drop (cutIx xs.length 0 lo)).take (cutIx xs.length xs.length hi - cutIx xs.length 0 lo)

/-! ### built-ins by their data -/
inductive Prm | len | abs | int | str | repr | sum | max1 | min1 | max2 | min2 | all | any

def intsOf : List D → Option (List Int)
  | [] => some []
  | .int i :: r => (intsOf r).map (i :: ·)
  | _ => none
def boolsOf : List D → Option (List Bool)
  | [] => some []
  | .bool i :: r => (boolsOf r).map (i :: ·)
  | _ => none
def maxI : Int → List Int → Int
  | m, [] => m
  | m, x :: r => maxI (if x > m then x else m) r
def minI : Int → List Int → Int
  | m, [] => m
  | m, x :: r => minI (if x < m then x else m) r
def sumI : List Int → Int
  | [] => 0
  | x :: r => x + sumI r

def prmD : Prm → List D → Option D
  | .len, [.list xs] => some (.int xs.length)
  | .len, [.tuple xs] => some (.int xs.length)
  | .len, [.str s] => if fits s.length then some (.int s.length) else none
  | .abs, [.int i] => some (.int (if i < 0 then -i else i))
  | .int, [.int i] => some (.int i)
  | .int, [.bool b] => some (.int (if b then 1 else 0))
  | .str, [.int i] => if i.natAbs.log2 < 1920 then some (.str (toString i)) else none
  | .repr, [.list xs] => if (PyData.list xs).showable && !(PyData.list xs).hasDict && decide ((PyData.list xs).depth ≤ 60) && fits (PyData.list xs).shown.length then some (.str (PyData.list xs).shown) else none
  | .repr, [.tuple xs] => if (PyData.tuple xs).showable && !(PyData.tuple xs).hasDict && decide ((PyData.tuple xs).depth ≤ 60) && fits (PyData.tuple xs).shown.length then some (.str (PyData.tuple xs).shown) else none
  | .sum, [.list xs] => (intsOf xs).map fun ns => .int (sumI ns)
  | .sum, [.tuple xs] => (intsOf xs).map fun ns => .int (sumI ns)
  | .max1, [.list xs] => match intsOf xs with | some (n :: ns) => some (.int (maxI n ns)) | _ => none
  | .min1, [.list xs] => match intsOf xs with | some (n :: ns) => some (.int (minI n ns)) | _ => none
  | .max2, [.int i, .int j] => some (.int (if j > i then j else i))
  | .min2, [.int i, .int j] => some (.int (if j < i then j else i))
  | .all, [.list xs] => (boolsOf xs).map fun bs => .bool (bs.all id)
  | .any, [.list xs] => (boolsOf xs).map fun bs => .bool (bs.any id)
  | _, _ => none

/-! ### syntax -/
inductive Tgt where
  | nm (i : Nat)
  | tp (is : List Nat)

mutual
inductive Ex where
  | lit (x : D)
  | var (i : Nat)
  | fnv (f : Nat)
  | bin (o : Bop) (a b : Ex)
  | neg (a : Ex)
  | cmp (o : Cop) (a b : Ex)
  | chn (o o' : Cop) (a b c : Ex)
  | and_ (a b : Ex)
  | or_ (a b : Ex)
  | not_ (a : Ex)
  | ife (c a b : Ex)
  | tup (xs : List Ex)
  | ofL (l : Lx)
  | new (l : Lx)
  | ix (a b : Ex)
  | slc (a : Ex) (lo hi : Option Ex)
  | call (f : Nat) (xs : List Ex)
  | prm (p : Prm) (xs : List Ex)
  | app (o a : Ex)
  | fmt (a : Ex)
  | fst (xs : List Ex)
  | frz (a : Ex)
  | nev
  | tupO (a : Ex)
  | pop (o : Ex)
  | told (ws : List Str) (a : Ex)
  | ext (o : Ex) (l : Lx)
  | tix (o a : Ex)
  | tupX (xs : List Ex)
  | repX (a b : Ex)
  | tupL (a : Ex)
  | dvm (a b : Ex)
  | lset (a : Ex)
  | dnew (t : Bool)
  | ddsp (t : Bool) (k v : Ex)
/-- a list that is made here -/
inductive Lx where
  | dsp (xs : List Ex)
  | lst (a : Ex)
  | cat (a b : Ex)
  | rep (l : Lx) (b : Ex)
  | cmp (own : List Nat) (t : Tgt) (s : Sx) (ifs : List Ex) (e : Ex)
/-- what is walked -/
inductive Sx where
  | val (a : Ex)
  | rng (a : Ex)
  | rng2 (a b : Ex)
  | zip (a b : Ex)
end

inductive St where
  | set (i : Nat) (e : Ex)
  | asg (t : Tgt) (e : Ex)
  | par (i j : Nat) (a b : Ex)
  | six (o i e : Ex)
  | exp (e : Ex)
  | iff (c : Ex) (a b : List St)
  | for_ (t : Tgt) (s : Sx) (b : List St)
  | whl (c : Ex) (b : List St)
  | ret (e : Ex)
  | retN
  | brk
  | cnt
  | pas
  | rse (c : Nat)
  | nev

/-! ### walks -/
def bindT (h : Hq) : Tgt → Val → Sg → Option Sg
  | .nm i, v, σ => some (σ.set i (some v))
  | .tp is, v, σ => match els h v with
    | some vs => if vs.length = is.length then some ((is.zip vs).foldl (fun s p => s.set p.1 (some p.2)) σ) else none
    | none => none
def wipe (σ : Sg) : List Nat → Sg
  | [] => σ
  | i :: is => (wipe σ is).set i none

/-- what a statement brings about -/
inductive RF where
  | ok (fl : Flow) (h : Hq)
  | er (e : Exc) (σ : Sg) (h : Hq)
  | no
/-- an expression, then a statement's rest -/
def R.thn {α : Type} (r : R α) (σ : Sg) (f : α → Hq → RF) : RF := match r with
  | .ok a h => f a h
  | .er e h => .er e σ h
  | .no => .no
@[simp] theorem R.thn_ok {α : Type} (a : α) (h : Hq) (σ : Sg) (f : α → Hq → RF) : (R.ok a h).thn σ f = f a h := rfl
@[simp] theorem R.thn_er {α : Type} (e : Exc) (h : Hq) (σ : Sg) (f : α → Hq → RF) : (R.er e h : R α).thn σ f = .er e σ h := rfl
@[simp] theorem R.thn_no {α : Type} (σ : Sg) (f : α → Hq → RF) : (R.no : R α).thn σ f = .no := rfl
/-- a statement, then the next -/
def RF.thn (r : RF) (f : Sg → Hq → RF) : RF := match r with
  | .ok (.nx σ) h => f σ h
  | r => r
/-- a loop's body, then the next turn -/
def RF.turn (r : RF) (f : Sg → Hq → RF) : RF := match r with
  | .ok (.nx σ) h => f σ h
  | .ok (.ct σ) h => f σ h
  | .ok (.bk σ) h => .ok (.nx σ) h
  | r => r
@[simp] theorem RF.thn_nx (σ : Sg) (h : Hq) (f : Sg → Hq → RF) : (RF.ok (.nx σ) h).thn f = f σ h := rfl
@[simp] theorem RF.turn_nx (σ : Sg) (h : Hq) (f : Sg → Hq → RF) : (RF.ok (.nx σ) h).turn f = f σ h := rfl
@[simp] theorem RF.turn_ct (σ : Sg) (h : Hq) (f : Sg → Hq → RF) : (RF.ok (.ct σ) h).turn f = f σ h := rfl
@[simp] theorem RF.turn_bk (σ : Sg) (h : Hq) (f : Sg → Hq → RF) : (RF.ok (.bk σ) h).turn f = .ok (.nx σ) h := rfl
def forL (f : Val → Sg → Hq → RF) : List Val → Sg → Hq → RF
  | [], σ, h => .ok (.nx σ) h
  | v :: vs, σ, h => (f v σ h).turn fun σ' h1 => forL f vs σ' h1
/-- the items of a list -/
def elsL (h : Hq) : Val → Option (List Val)
  | .d (.list xs) => some (xs.map .d)
  | .ref n => match h[n]? with
    | some (.lst vs) => some vs
    | some (.dead (.list xs)) => some (xs.map .d)
    | _ => none
  | _ => none
/-- over an object, as it stands at each turn -/
def forO (f : Val → Sg → Hq → RF) (n : Nat) : Nat → Nat → Sg → Hq → RF
  | 0, _, _, _ => .no
  | w + 1, i, σ, h => match elsL h (.ref n) with
    | none => .no
    | some vs => match vs[i]? with
      | none => .ok (.nx σ) h
      | some v => (f v σ h).turn fun σ' h1 => forO f n w (i + 1) σ' h1
def whlN (c : Sg → Hq → R Bool) (f : Sg → Hq → RF) : Nat → Sg → Hq → RF
  | 0, _, _ => .no
  | w + 1, σ, h => (c σ h).thn σ fun b h1 => if b then (f σ h1).turn fun σ' h2 => whlN c f w σ' h2 else .ok (.nx σ) h1
def cmpL (f : Val → Hq → R (List Val)) : List Val → Hq → R (List Val)
  | [], h => .ok [] h
  | v :: vs, h => (f v h).bind fun ws h1 => (cmpL f vs h1).bind fun us h2 => .ok (ws ++ us) h2
def rangeL : Int → Nat → List Val
  | _, 0 => []
  | i, n + 1 => .d (.int i) :: rangeL (i + 1) n
def okRng (i : Int) : Bool := decide (i.natAbs.log2 < 62)

abbrev Orc := Nat → List Val → Hq → R Val
/-- what is walked: data, or an object -/
inductive Sv where
  | data (vs : List Val)
  | obj (n : Nat)

def binV (o : Bop) (x y : Val) (h : Hq) : R Val := match peek h x, peek h y with
  | some a, some b => match binD o a b with
    | some c => .ok (.d c) h
    | none => .no
  | _, _ => .no
def cmpW (o : Cop) (x y : Val) (h : Hq) : R Bool := match peek h x, peek h y with
  | some a, some b => match cmpD o a b with
    | some c => .ok c h
    | none => .no
  | _, _ => .no
/-! ### dicts -/
def keyK : D → Option L2.Key
  | .int i => some (.inl i)
  | .str x => some (.inr x)
  | _ => none
def keyKs : List D → Option (List L2.Key)
  | [] => some []
  | d :: ds => match keyK d, keyKs ds with
    | some k, some ks => some (k :: ks)
    | _, _ => none
def keyT : D → Option (List L2.Key)
  | .tuple ds => keyKs ds
  | _ => none
def lookK {κ : Type} [DecidableEq κ] (kvs : List (κ × Val)) (k : κ) : Option Val := (kvs.find? fun p => decide (p.1 = k)).map (·.2)
def storK {κ : Type} [DecidableEq κ] (kvs : List (κ × Val)) (k : κ) (v : Val) : List (κ × Val) :=
  if (kvs.any fun p => decide (p.1 = k)) = true then kvs.map (fun p => if p.1 = k then (p.1, v) else p) else kvs ++ [(k, v)]
def dropD {κ : Type} [DecidableEq κ] (kvs : List (κ × Val)) (k : κ) : List (κ × Val) := kvs.filter fun p => decide (p.1 ≠ k)
/-- the dict at a value -/
def dct (h : Hq) : Val → Option Dc
  | .ref n => match h[n]? with
    | some (.dct c) => some c
    | _ => none
  | _ => none
/-- what it holds at a key; none: no key of its kind -/
def Dc.get : Dc → Val → Option (Option Val)
  | .k kvs, .d d => (keyK d).map (lookK kvs)
  | .t kvs, .d d => (keyT d).map (lookK kvs)
  | _, _ => none
def Dc.put : Dc → Val → Val → Option Dc
  | .k kvs, .d d, v => match keyK d with
    | some q => if kvs.length < 16777216 then some (.k (storK kvs q v)) else none
    | none => none
  | .t kvs, .d d, v => match keyT d with
    | some q => if kvs.length < 16777216 then some (.t (storK kvs q v)) else none
    | none => none
  | _, _, _ => none
def Dc.len : Dc → Nat
  | .k kvs => kvs.length
  | .t kvs => kvs.length
def dgetV (c : Dc) (y : Val) (h : Hq) : R Val := match c.get y with
  | some (some v) => .ok v h
  | _ => .no
def dinV (c : Dc) (x : Val) (h : Hq) : R Bool := match c.get x with
  | some o => .ok o.isSome h
  | none => .no
def ixW (x y : Val) (h : Hq) : R Val := match els h x, y with
  | some vs, .d (.int i) => match atD vs i with
    | some v => .ok v h
    | none => .no
  | none, .d (.int i) => match x with
    | .d (.str z) => if fits z.length then match ixn z.cps.toList.length i with
        | some j => match z.cps.toList[j]? with
          | some c => .ok (.d (.str ⟨#[c]⟩)) h
          | none => .no
        | none => .no
      else .no
    | _ => .no
  | _, _ => .no
def ixV (x y : Val) (h : Hq) : R Val := match dct h x with
  | some c => dgetV c y h
  | none => ixW x y h
def cmpV (o : Cop) (x y : Val) (h : Hq) : R Bool := match dct h y with
  | some c => match o with
    | .inn => dinV c x h
    | .nin => (dinV c x h).bind fun b h1 => .ok (!b) h1
    | _ => .no
  | none => cmpW o x y h
def slcV (x : Val) (l u : Option Int) (h : Hq) : R Val := match elsL h x with
  | some vs => (toDs (cutD vs l u) h).bind fun ds h1 => .ok (.d (.list ds)) h1
  | none => match x with
    | .d (.tuple xs) => .ok (.d (.tuple (cutD xs l u))) h
    | .d (.str z) => if fits z.length then .ok (.d (.str ⟨(cutD z.cps.toList l u).toArray⟩)) h else .no
    | _ => .no
/-- a list that may change -/
def lstV (x : Val) (h : Hq) : R Unit := match x with
  | .ref n => match h[n]? with
    | some (.lst _) => .ok () h
    | _ => .no
  | _ => .no
def prmV (p : Prm) (vs : List Val) (h : Hq) : R Val := match pks h 3 vs with
  | some ds => match prmD p ds with
    | some c => .ok (.d c) h
    | none => .no
  | none => .no
def appV (o v : Val) (h : Hq) : R Val := match o with
  | .ref n => match h[n]? with
    | some (.lst vs) => if vs.length < 16777216 then .ok (.d .none) (h.set n (.lst (vs ++ [v]))) else .no
    | _ => .no
  | _ => .no
def setW (o i v : Val) (h : Hq) : R Unit := match o, i with
  | .ref n, .d (.int k) => match h[n]? with
    | some (.lst vs) => match ixn vs.length k with
      | some j => .ok () (h.set n (.lst (vs.set j v)))
      | none => .no
    | _ => .no
  | _, _ => .no
def setD (o i v : Val) (h : Hq) : R Unit := match o with
  | .ref n => match h[n]? with
    | some (.dct c) => match c.put i v with
      | some c' => .ok () (h.set n (.dct c'))
      | none => .no
    | _ => .no
  | _ => .no
def setV (o i v : Val) (h : Hq) : R Unit := match dct h o with
  | some _ => setD o i v h
  | none => setW o i v h
/-- divmod -/
def dvmV (x y : Val) (h : Hq) : R Val := match x, y with
  | .d (.int i), .d (.int j) => if 0 < j && okDiv j then .ok (.d (.tuple [.int (i / j), .int (i % j)])) h else .no
  | _, _ => .no
/-- how many different ones -/
def distI : List Int → List Int
  | [] => []
  | x :: r => if x ∈ r then distI r else x :: distI r
def lsetV (x : Val) (h : Hq) : R Val := match x with
  | .d (.tuple xs) => match intsOf xs with
    | some ns => if ns.length ≤ 1000 then .ok (.d (.int (distI ns).length)) h else .no
    | none => .no
  | _ => .no
/-- an exact tuple -/
def txV (x : Val) (h : Hq) : R (List D) := match x with
  | .ref n => match h[n]? with
    | some (.tx ds) => .ok ds h
    | _ => .no
  | _ => .no
/-- the place of a value in a tuple -/
def tixV (xs : List D) (y : Val) (h : Hq) : R Val := match y with
  | .d (.int k) => match intsOf xs with
    | some ns => match ns.findIdx? (· == k) with
      | some j => .ok (.d (.int j)) h
      | none => .no
    | none => .no
  | _ => .no
def repX (x : Val) (ds : List D) (y : Val) (h : Hq) : R Val := match y with
  | .d (.int k) => if k = 1 then .ok x h else if !ds.isEmpty && decide (ds.length ≤ 1000) && decide (k.natAbs.log2 < 9) && decide (2 ≤ k) then .ok (.ref h.length) (h ++ [.tx (List.replicate k.toNat ds).flatten]) else .no
  | _ => .no
/-- a list grows by new ones -/
def extV (o : Val) (vs : List Val) (h : Hq) : R Val := match o with
  | .ref n => match h[n]? with
    | some (.lst us) => if fits (us.length + vs.length) then .ok (.d .none) (h.set n (.lst (us ++ vs))) else .no
    | _ => .no
  | _ => .no
/-- a dict with one pair -/
def dspV (t : Bool) (k v : Val) (h : Hq) : R Val := match (if t then Dc.t [] else Dc.k []).put k v with
  | some c => .ok (.ref h.length) (h ++ [.dct c])
  | none => .no
/-- tuple(x) -/
def tupV (x : Val) (h : Hq) : R Val := match x with
  | .d (.tuple xs) => .ok (.d (.tuple xs)) h
  | x => match elsL h x with
    | some vs => (toDs vs h).bind fun ds h1 => .ok (.d (.tuple ds)) h1
    | none => .no
def catV (x y : Val) (h : Hq) : R Val := match x, y with
  | .d (.tuple xs), .d (.tuple ys) => if fits (xs.length + ys.length) then .ok (.d (.tuple (xs ++ ys))) h else .no
  | _, _ => .no
def repV (x y : Val) (h : Hq) : R Val := match x, y with
  | .d (.tuple xs), .d (.int k) => if k = 1 then .ok x h else if !xs.isEmpty && decide (xs.length ≤ 1000) && decide (k.natAbs.log2 < 9) && decide (2 ≤ k) then .ok (.d (.tuple (List.replicate k.toNat xs).flatten)) h else .no
  | _, _ => .no
/-- + and * of texts, ints, tuples -/
def binA (o : Bop) (x y : Val) (h : Hq) : R Val := match binV o x y h with
  | .no => match o with
    | .add => catV x y h
    | .mul => repV x y h
    | _ => .no
  | r => r
/-- the last one, taken away -/
def popV (o : Val) (h : Hq) : R Val := match o with
  | .ref n => match h[n]? with
    | some (.lst vs) => match vs.getLast? with
      | some v => .ok v (h.set n (.lst vs.dropLast))
      | none => .no
    | _ => .no
  | _ => .no
/-- what the def that calls a lambda makes of its end; ws: the word of each class -/
def toldV (ws : List Str) (r : R Val) : R Val := match r with
  | .ok v h => (toD v h).bind fun x h1 => .ok (.d (.tuple [.str "told", x])) h1
  | .er e h => match ws[e.cls]?, e.arg with
    | some w, none => .ok (.d (.tuple [.str w])) h
    | _, _ => .no
  | .no => .no
def catL (x y : Val) (h : Hq) : R (List Val) := match elsL h x, elsL h y with
  | some vs, some ws => if fits (vs.length + ws.length) then .ok (vs ++ ws) h else .no
  | _, _ => .no
def repL (vs : List Val) (y : Val) (h : Hq) : R (List Val) := match y with
  | .d (.int k) => if okRng k && fits (vs.length * k.toNat) then .ok (List.replicate k.toNat vs).flatten h else .no
  | _ => .no
/-- the text of an f-string's part -/
def partS : Val → Option Str
  | .d (.str s) => if fits s.length then some s else none
  | .d (.int i) => if i.natAbs.log2 < 1920 then some (toString i) else none
  | _ => none

def intV : Val → Option Int
  | .d (.int i) => some i
  | _ => none
def srcV (v : Val) (h : Hq) : R Sv := match v with
  | .ref n => match h[n]? with
    | some (.lst _) => .ok (.obj n) h
    | some (.dead (.list xs)) => .ok (.data (xs.map .d)) h
    | some (.tx ds) => .ok (.data (ds.map .d)) h
    | _ => .no
  | v => match els h v with
    | some vs => .ok (.data vs) h
    | none => .no

mutual
def ev (W : Nat) (C : List Orc) : Ex → Sg → Hq → R Val
  | .lit x, _, h => .ok (.d x) h
  | .var i, σ, h => match σ[i]? with
    | some (some v) => .ok v h
    | _ => .no
  | .fnv f, _, h => .ok (.fn f) h
  | .bin o a b, σ, h => (ev W C a σ h).bind fun x h1 => (ev W C b σ h1).bind fun y h2 => binA o x y h2
  | .neg a, σ, h => (ev W C a σ h).bind fun x h1 => match intV x with
    | some i => .ok (.d (.int (-i))) h1
    | none => .no
  | .cmp o a b, σ, h => (ev W C a σ h).bind fun x h1 => (ev W C b σ h1).bind fun y h2 => (cmpV o x y h2).bind fun c h3 => .ok (.d (.bool c)) h3
  | .chn o o' a b c, σ, h => (ev W C a σ h).bind fun x h1 => (ev W C b σ h1).bind fun y h2 => (cmpV o x y h2).bind fun k h3 =>
      if k then (ev W C c σ h3).bind fun z h4 => (cmpV o' y z h4).bind fun k' h5 => .ok (.d (.bool k')) h5 else .ok (.d (.bool false)) h3
  | .and_ a b, σ, h => (ev W C a σ h).bind fun x h1 => (tru x h1).bind fun k h2 => if k then ev W C b σ h2 else .ok x h2
  | .or_ a b, σ, h => (ev W C a σ h).bind fun x h1 => (tru x h1).bind fun k h2 => if k then .ok x h2 else ev W C b σ h2
  | .not_ a, σ, h => (ev W C a σ h).bind fun x h1 => (tru x h1).bind fun k h2 => .ok (.d (.bool (!k))) h2
  | .ife c a b, σ, h => (ev W C c σ h).bind fun x h1 => (tru x h1).bind fun k h2 => if k then ev W C a σ h2 else ev W C b σ h2
  | .tup xs, σ, h => (evs W C xs σ h).bind fun vs h1 => (toDs vs h1).bind fun ds h2 => .ok (.d (.tuple ds)) h2
  | .ofL l, σ, h => (evL W C l σ h).bind fun vs h1 => (toDs vs h1).bind fun ds h2 => .ok (.d (.list ds)) h2
  | .new l, σ, h => (evL W C l σ h).bind fun vs h1 => .ok (.ref h1.length) (h1 ++ [.lst vs])
  | .ix a b, σ, h => (ev W C a σ h).bind fun x h1 => (ev W C b σ h1).bind fun y h2 => ixV x y h2
  | .slc a lo hi, σ, h => (ev W C a σ h).bind fun x h1 => (evO W C lo σ h1).bind fun l h2 => (evO W C hi σ h2).bind fun u h3 => slcV x l u h3
  | .call f xs, σ, h => match C with
    | c :: _ => (evs W C xs σ h).bind fun vs h1 => c f vs h1
    | [] => .no
  | .prm p xs, σ, h => (evs W C xs σ h).bind fun vs h1 => prmV p vs h1
  | .app o a, σ, h => (ev W C o σ h).bind fun x h1 => (lstV x h1).bind fun _ h1 => (ev W C a σ h1).bind fun y h2 => appV x y h2
  | .fmt a, σ, h => (ev W C a σ h).bind fun x h1 => match partS x with
    | some s => .ok (.d (.str s)) h1
    | none => .no
  | .fst xs, σ, h => (evJ W C xs Str.empty σ h).bind fun s h1 => .ok (.d (.str s)) h1
  | .frz a, σ, h => (ev W C a σ h).bind fun x h1 => (toD x h1).bind fun d h2 => .ok (.d d) h2
  | .nev, _, _ => .no
  | .tupO a, σ, h => (ev W C a σ h).bind fun x h1 => tupV x h1
  | .pop o, σ, h => (ev W C o σ h).bind fun x h1 => popV x h1
  | .told ws a, σ, h => toldV ws (ev W C a σ h)
  | .ext o l, σ, h => (ev W C o σ h).bind fun x h1 => (lstV x h1).bind fun _ h1 => (evL W C l σ h1).bind fun vs h2 => extV x vs h2
  | .tix o a, σ, h => (ev W C o σ h).bind fun x h1 => (txV x h1).bind fun ds h1 => (ev W C a σ h1).bind fun y h2 => tixV ds y h2
  | .tupX xs, σ, h => (evs W C xs σ h).bind fun vs h1 => (toDs vs h1).bind fun ds h2 => .ok (.ref h2.length) (h2 ++ [.tx ds])
  | .repX a b, σ, h => (ev W C a σ h).bind fun x h1 => (txV x h1).bind fun ds h1 => (ev W C b σ h1).bind fun y h2 => repX x ds y h2
  | .tupL a, σ, h => (ev W C a σ h).bind fun x h1 => match elsL h1 x with
    | some vs => (toDs vs h1).bind fun ds h2 => .ok (.ref h2.length) (h2 ++ [.tx ds])
    | none => .no
  | .dvm a b, σ, h => (ev W C a σ h).bind fun x h1 => (ev W C b σ h1).bind fun y h2 => dvmV x y h2
  | .lset a, σ, h => (ev W C a σ h).bind fun x h1 => lsetV x h1
  | .dnew t, _, h => .ok (.ref h.length) (h ++ [.dct (if t then .t [] else .k [])])
  | .ddsp t k v, σ, h => (ev W C k σ h).bind fun x h1 => (ev W C v σ h1).bind fun y h2 => dspV t x y h2
def evs (W : Nat) (C : List Orc) : List Ex → Sg → Hq → R (List Val)
  | [], _, h => .ok [] h
  | e :: es, σ, h => (ev W C e σ h).bind fun v h1 => (evs W C es σ h1).bind fun vs h2 => .ok (v :: vs) h2
/-- parts, one behind the other -/
def evJ (W : Nat) (C : List Orc) : List Ex → Str → Sg → Hq → R Str
  | [], acc, _, h => .ok acc h
  | e :: es, acc, σ, h => (ev W C e σ h).bind fun v h1 => match v with
    | .d (.str y) => if fits (acc ++ y).length then evJ W C es (acc ++ y) σ h1 else .no
    | _ => .no
def evL (W : Nat) (C : List Orc) : Lx → Sg → Hq → R (List Val)
  | .dsp xs, σ, h => (evs W C xs σ h).bind fun vs h1 => if fits vs.length then .ok vs h1 else .no
  | .lst a, σ, h => (ev W C a σ h).bind fun x h1 => match els h1 x with
    | some vs => .ok vs h1
    | none => .no
  | .cat a b, σ, h => (ev W C a σ h).bind fun x h1 => (ev W C b σ h1).bind fun y h2 => catL x y h2
  | .rep l b, σ, h => (evL W C l σ h).bind fun vs h1 => (ev W C b σ h1).bind fun y h2 => repL vs y h2
  | .cmp own t s ifs e, σ, h => (evS W C s σ h).bind fun sv h1 => match sv with
    | .data vs => if fits vs.length then cmpL (fun v h => match bindT h t v (wipe σ own) with
        | none => .no
        | some σ' => ((evI W C ifs σ' h).bind fun k h2 => if k then (ev W C e σ' h2).bind fun x h3 => .ok [x] h3 else .ok [] h2).quiet) vs h1 else .no
    | .obj n => .no
def evS (W : Nat) (C : List Orc) : Sx → Sg → Hq → R Sv
  | .val a, σ, h => (ev W C a σ h).bind fun x h1 => srcV x h1
  | .rng a, σ, h => (ev W C a σ h).bind fun x h1 => match intV x with
    | some i => if okRng i then .ok (.data (rangeL 0 i.toNat)) h1 else .no
    | none => .no
  | .rng2 a b, σ, h => (ev W C a σ h).bind fun x h1 => (ev W C b σ h1).bind fun y h2 => match intV x, intV y with
    | some i, some j => if okRng i && okRng j then .ok (.data (rangeL i (j - i).toNat)) h2 else .no
    | _, _ => .no
  | .zip a b, σ, h => (ev W C a σ h).bind fun x h1 => (ev W C b σ h1).bind fun y h2 => match x, y with
    | .d (.list xs), .d (.list ys) => .ok (.data ((xs.zip ys).map fun p => .d (.tuple [p.1, p.2]))) h2
    | _, _ => .no
/-- the tests of a comprehension -/
def evI (W : Nat) (C : List Orc) : List Ex → Sg → Hq → R Bool
  | [], _, h => .ok true h
  | e :: es, σ, h => (ev W C e σ h).bind fun x h1 => (tru x h1).bind fun k h2 => if k then evI W C es σ h2 else .ok false h2
def evO (W : Nat) (C : List Orc) : Option Ex → Sg → Hq → R (Option Int)
  | none, _, h => .ok none h
  | some e, σ, h => (ev W C e σ h).bind fun x h1 => match intV x with
    | some i => .ok (some i) h1
    | none => .no
end

/-- a test -/
abbrev tst (m : Sg → Hq → R Val) : Sg → Hq → R Bool := fun σ h => (m σ h).bind fun v h1 => tru v h1
/-- a turn of a walk -/
def turnV (t : Tgt) (f : Sg → Hq → RF) (v : Val) (σ : Sg) (h : Hq) : RF := match bindT h t v σ with
  | none => .no
  | some σ' => f σ' h
mutual
def ex (W : Nat) (C : List Orc) : St → Sg → Hq → RF
  | .set i e, σ, h => (ev W C e σ h).thn σ fun v h1 => .ok (.nx (σ.set i (some v))) h1
  | .asg t e, σ, h => (ev W C e σ h).thn σ fun v h1 => match bindT h1 t v σ with
    | some σ' => .ok (.nx σ') h1
    | none => .no
  | .par i j a b, σ, h => (ev W C a σ h).thn σ fun v h1 => (ev W C b σ h1).thn σ fun w h2 => .ok (.nx ((σ.set i (some v)).set j (some w))) h2
  | .six o i e, σ, h => (ev W C e σ h).thn σ fun v h1 => (ev W C o σ h1).thn σ fun x h2 => (ev W C i σ h2).thn σ fun y h3 => (setV x y v h3).thn σ fun _ h4 => .ok (.nx σ) h4
  | .exp e, σ, h => (ev W C e σ h).thn σ fun _ h1 => .ok (.nx σ) h1
  | .iff c a b, σ, h => (tst (ev W C c) σ h).thn σ fun k h2 => if k then exs W C a σ h2 else exs W C b σ h2
  | .for_ t s b, σ, h => (evS W C s σ h).thn σ fun sv h1 => match sv with
    | .data vs => forL (turnV t fun σ h => exs W C b σ h) vs σ h1
    | .obj n => forO (turnV t fun σ h => exs W C b σ h) n W 0 σ h1
  | .whl c b, σ, h => whlN (tst (ev W C c)) (fun σ h => exs W C b σ h) W σ h
  | .ret e, σ, h => (ev W C e σ h).thn σ fun v h1 => .ok (.rt v) h1
  | .retN, _, h => .ok (.rt (.d .none)) h
  | .brk, σ, h => .ok (.bk σ) h
  | .cnt, σ, h => .ok (.ct σ) h
  | .pas, σ, h => .ok (.nx σ) h
  | .rse c, σ, h => .er ⟨c, none⟩ σ h
  | .nev, _, _ => .no
def exs (W : Nat) (C : List Orc) : List St → Sg → Hq → RF
  | [], σ, h => .ok (.nx σ) h
  | s :: ss, σ, h => (ex W C s σ h).thn fun σ' h1 => exs W C ss σ' h1
end

/-! ### defs -/
structure Fn where
  ps : Nat
  ns : Nat
  pure : Bool
  body : List St

/-- a body, as it stands -/
def run (W : Nat) (C : List Orc) (f : Fn) (vs : List Val) (h : Hq) : R Val :=
  match exs W C f.body (vs.map some ++ List.replicate (f.ns - f.ps) none) h with
    | .ok (.rt v) h1 => .ok v h1
    | .ok (.nx _) h1 => .ok (.d .none) h1
    | .er e _ h1 => .er e h1
    | _ => .no
def allDat : List Val → Bool
  | [] => true
  | .d _ :: vs => allDat vs
  | _ => false
def below (n : Nat) : Val → Bool
  | .ref m => decide (m < n)
  | _ => true
/-- no object leads out of the first n -/
def closed (n : Nat) : Hq → Bool
  | [] => true
  | .lst vs :: r => vs.all (below n) && closed n r
  | .dead _ :: r => closed n r
  | .tx _ :: r => closed n r
  | .dct (.k kvs) :: r => kvs.all (fun p => below n p.2) && closed n r
  | .dct (.t kvs) :: r => kvs.all (fun p => below n p.2) && closed n r
/-- a call: of a pure def over data, in a run of its own; of another one over this run's objects -/
def callR (W : Nat) (C : List Orc) (f : Fn) (vs : List Val) (h : Hq) : R Val :=
  if vs.length = f.ps then
    if f.pure then match pks h 3 vs with
      | some ds => match run W C f (ds.map .d) [] with
        | .ok v h1 => match toD v h1 with
          | .ok x _ => if flat x || allDat vs then .ok (.d x) h else .no
          | _ => .no
        | .er e _ => .er e h
        | .no => .no
      | none => .no
    else match run W C f vs h with
      | .ok v h1 => match toD v h1 with
        | .ok x h2 => if closed h.length (h2.take h.length) then .ok (.d x) (h2.take h.length) else .no
        | _ => .no
      | .er e h1 => if closed h.length (h1.take h.length) then .er e (h1.take h.length) else .no
      | .no => .no
  else .no
def orcs (T : List Fn) (W : Nat) : Nat → List Orc
  | 0 => []
  | k + 1 => (fun f vs h => match T[f]? with
      | some fn => callR W (orcs T W k) fn vs h
      | none => .no) :: orcs T W k
end Ip

set_option linter.all false
set_option Elab.async false
set_option autoImplicit false
/-! How the evaluator's values lie in the abstract heap. -/
namespace Ip
open PySem L2

/-- what is fixed through a law: the written part, the defs' and the classes' addresses -/
structure Gb where
  K : PySem.W.Frag
  fa : List Addr
  ca : List Addr
  tb : List (Addr × Str)
  P : Program
  w : World

/-- a state: where the objects lie, the objects, the abstract heap -/
structure S3 where
  r : List Addr
  h : Hq
  H : Hp

abbrev WrL (K : PySem.W.Frag) (a : Addr) (xs : List V) : Prop := SqL K (fun _ => none) a xs
abbrev WrT (K : PySem.W.Frag) (a : Addr) (xs : List V) : Prop := SqT K (fun _ => none) a xs
theorem rd_none {a : Addr} {u : HO} : ¬ Rd (fun _ => none) a u := fun h => by
  rcases h with h | ⟨_, h⟩ <;> cases h
theorem WrL.any {K : PySem.W.Frag} {a : Addr} {xs : List V} (h : WrL K a xs) (H : Hp) : SqL K H a xs := by
  rcases h with h | h
  · exact (rd_none h).elim
  · exact .inr h
theorem WrT.any {K : PySem.W.Frag} {a : Addr} {xs : List V} (h : WrT K a xs) (H : Hp) : SqT K H a xs := by
  rcases h with h | h
  · exact (rd_none h).elim
  · exact .inr h

mutual
/-- plain data at a value; B: the addresses that may change -/
inductive DR (K : PySem.W.Frag) (H : Hp) (B : Addr → Prop) : V → D → Prop
  | non : DR K H B .non .none
  | bl (b : Bool) : DR K H B (.bl b) (.bool b)
  | int (i : Int) : DR K H B (.int i) (.int i)
  | str (x : Str) : DR K H B (.str x) (.str x)
  | lst {a : Addr} {xs : List V} {ds : List D} : (Rd H a (.lst xs) ∧ ¬ B a) ∨ WrL K a xs → DRs K H B xs ds → DR K H B (.ref a) (.list ds)
  | tup {a : Addr} {xs : List V} {ds : List D} : SqT K H a xs → DRs K H B xs ds → DR K H B (.ref a) (.tuple ds)
inductive DRs (K : PySem.W.Frag) (H : Hp) (B : Addr → Prop) : List V → List D → Prop
  | nil : DRs K H B [] []
  | cons {v : V} {vs : List V} {d : D} {ds : List D} : DR K H B v d → DRs K H B vs ds → DRs K H B (v :: vs) (d :: ds)
end

theorem DRs.length {K : PySem.W.Frag} {H : Hp} {B : Addr → Prop} : ∀ {xs : List V} {ds : List D}, DRs K H B xs ds → xs.length = ds.length
  | _, _, .nil => rfl
  | _, _, .cons _ t => by rw [List.length_cons, List.length_cons, DRs.length t]

/-- nothing but what may change changes; what stands stands on -/
structure Fr (P : Addr → Prop) (H H' : Hp) : Prop where
  keep : ∀ a o, H a = some o → ¬ P a → (∀ ps, o ≠ .tbl ps) → H' a = some o
  there : ∀ a, H a ≠ none → H' a ≠ none
  tup : ∀ a xs, H a = some (.tup xs) → H' a = some (.tup xs)
  frz : ∀ a o u, H a = some (.frz o u) → H' a = some (.frz o u)
theorem Fr.refl (P : Addr → Prop) (H : Hp) : Fr P H H := ⟨fun _ _ h _ _ => h, fun _ h => h, fun _ _ h => h, fun _ _ _ h => h⟩
theorem Fr.sqt {K : PySem.W.Frag} {P : Addr → Prop} {H H' : Hp} (f : Fr P H H') {a : Addr} {xs : List V} (h : SqT K H a xs) : SqT K H' a xs := by
  rcases h with (h | ⟨o, h⟩) | h
  · exact .inl (.inl (f.tup _ _ h))
  · exact .inl (.inr ⟨o, f.frz _ _ _ h⟩)
  · exact .inr h
theorem Fr.rd {P : Addr → Prop} {H H' : Hp} (f : Fr P H H') {a : Addr} {u : HO} (h : Rd H a u) (n : ¬ P a) (nt : ∀ ps, u ≠ .tbl ps) : Rd H' a u := by
  rcases h with h | ⟨o, h⟩
  · exact .inl (f.keep a _ h n nt)
  · exact .inr ⟨o, f.keep a _ h n (fun ps z => by cases z)⟩
theorem rd_some {H : Hp} {a : Addr} {u : HO} (h : Rd H a u) : H a ≠ none := by
  rcases h with h | ⟨o, h⟩ <;> rw [h] <;> exact fun z => by cases z

mutual
theorem DR.mono {K : PySem.W.Frag} {H H' : Hp} {B B' P : Addr → Prop} (f : Fr P H H') (hP : ∀ a, P a → B a) (hB : ∀ a, H a ≠ none → ¬ B a → ¬ B' a) : ∀ {v : V} {d : D}, DR K H B v d → DR K H' B' v d
  | _, _, .non => .non
  | _, _, .bl b => .bl b
  | _, _, .int i => .int i
  | _, _, .str x => .str x
  | _, _, .lst h t => .lst (h.elim (fun q => .inl ⟨f.rd q.1 (fun z => q.2 (hP _ z)) (fun ps z => by cases z), hB _ (rd_some q.1) q.2⟩) .inr) (DRs.mono f hP hB t)
  | _, _, .tup h t => .tup (f.sqt h) (DRs.mono f hP hB t)
theorem DRs.mono {K : PySem.W.Frag} {H H' : Hp} {B B' P : Addr → Prop} (f : Fr P H H') (hP : ∀ a, P a → B a) (hB : ∀ a, H a ≠ none → ¬ B a → ¬ B' a) : ∀ {vs : List V} {ds : List D}, DRs K H B vs ds → DRs K H' B' vs ds
  | _, _, .nil => .nil
  | _, _, .cons h t => .cons (DR.mono f hP hB h) (DRs.mono f hP hB t)
end
theorem DR.weak {K : PySem.W.Frag} {H : Hp} {B B' : Addr → Prop} (hB : ∀ a, H a ≠ none → ¬ B a → ¬ B' a) {v : V} {d : D} (h : DR K H B v d) : DR K H B' v d :=
  DR.mono (P := fun _ => False) (Fr.refl _ H) (fun _ z => z.elim) hB h
theorem DRs.weak {K : PySem.W.Frag} {H : Hp} {B B' : Addr → Prop} (hB : ∀ a, H a ≠ none → ¬ B a → ¬ B' a) {v : List V} {d : List D} (h : DRs K H B v d) : DRs K H B' v d :=
  DRs.mono (P := fun _ => False) (Fr.refl _ H) (fun _ z => z.elim) hB h

theorem sql_of {K : PySem.W.Frag} {H : Hp} {B : Addr → Prop} {a : Addr} {xs : List V} (h : (Rd H a (.lst xs) ∧ ¬ B a) ∨ WrL K a xs) : SqL K H a xs := h.elim (fun q => .inl q.1) fun q => q.any H
mutual
theorem DR.dp {K : PySem.W.Frag} {H : Hp} {B : Addr → Prop} : ∀ {v : V} {d : D}, DR K H B v d → Dp K H v d
  | _, _, .non => .non
  | _, _, .bl b => .bl b
  | _, _, .int i => .int i
  | _, _, .str x => .str x
  | _, _, .lst h t => .lst (sql_of h) (DRs.dp t)
  | _, _, .tup h t => .tup h (DRs.dp t)
theorem DRs.dp {K : PySem.W.Frag} {H : Hp} {B : Addr → Prop} : ∀ {vs : List V} {ds : List D}, DRs K H B vs ds → DpAll K H vs ds
  | _, _, .nil => .nil
  | _, _, .cons h t => .cons (DR.dp h) (DRs.dp t)
end

/-! ### objects -/
theorem tabs_upd {T : List (Addr × Str)} {H : Hp} {a : Addr} {o : HO} (t : LamX.Tabs T H) (h : H a = none ∨ ∃ u, H a = some u ∧ (∀ ps, u ≠ .tbl ps) ∧ ∀ q, u ≠ LamX.CodeO a q) : LamX.Tabs T (upd H a o) := fun p hp => by
  obtain ⟨ps, h1, h2, h3⟩ := t p hp
  have n1 : p.1 ≠ a := fun z => by
    rcases h with h | ⟨u, h, n, _⟩
    · rw [z, h] at h1; cases h1
    · rw [z, h] at h1; cases h1; exact n _ rfl
  refine ⟨ps, (upd_ne n1).trans h1, h2, fun pos cv hc => ?_⟩
  obtain ⟨c, e1, e2⟩ := h3 pos cv hc
  refine ⟨c, e1, (upd_ne fun z => ?_).trans e2⟩
  rcases h with h | ⟨u, h, _, n⟩
  · rw [z, h] at e2; cases e2
  · subst z; rw [h] at e2; exact n _ (Option.some.inj e2)

def live (h : Hq) (n : Nat) : Prop := ∃ o, h[n]? = some o ∧ o.alive = true
/-- what may change -/
def Bad (Av : Addr → Prop) (s : S3) (a : Addr) : Prop := Av a ∨ ∃ n, s.r[n]? = some a ∧ live s.h n

inductive VR (G : Gb) (Av : Addr → Prop) (s : S3) : Val → V → Prop
  | d {x : D} {v : V} : DR G.K s.H (Bad Av s) v x → VR G Av s (.d x) v
  | ref {n : Nat} {a : Addr} : s.r[n]? = some a → VR G Av s (.ref n) (.ref a)
  | fn {f : Nat} {a : Addr} : G.fa[f]? = some a → VR G Av s (.fn f) (.ref a)
inductive VRs (G : Gb) (Av : Addr → Prop) (s : S3) : List Val → List V → Prop
  | nil : VRs G Av s [] []
  | cons {v : Val} {vs : List Val} {x : V} {xs : List V} : VR G Av s v x → VRs G Av s vs xs → VRs G Av s (v :: vs) (x :: xs)
theorem VRs.length {G : Gb} {Av : Addr → Prop} {s : S3} : ∀ {vs : List Val} {xs : List V}, VRs G Av s vs xs → vs.length = xs.length
  | _, _, .nil => rfl
  | _, _, .cons _ t => by rw [List.length_cons, List.length_cons, VRs.length t]
theorem VRs.append {G : Gb} {Av : Addr → Prop} {s : S3} : ∀ {vs ws : List Val} {xs ys : List V}, VRs G Av s vs xs → VRs G Av s ws ys → VRs G Av s (vs ++ ws) (xs ++ ys)
  | _, _, _, _, .nil, q => q
  | _, _, _, _, .cons h t, q => .cons h (VRs.append t q)
theorem VRs.get {G : Gb} {Av : Addr → Prop} {s : S3} : ∀ {vs : List Val} {xs : List V} {i : Nat} {v : Val}, VRs G Av s vs xs → vs[i]? = some v → ∃ x, xs[i]? = some x ∧ VR G Av s v x
  | _, _, _, _, .nil, e => by simp at e
  | _, _, 0, v, .cons h _, e => by
    have e : some _ = some v := e
    cases e
    exact ⟨_, rfl, h⟩
  | _, _, i + 1, v, .cons _ t, e => VRs.get (i := i) t e
theorem VRs.get' {G : Gb} {Av : Addr → Prop} {s : S3} : ∀ {vs : List Val} {xs : List V} {i : Nat} {x : V}, VRs G Av s vs xs → xs[i]? = some x → ∃ v, vs[i]? = some v ∧ VR G Av s v x
  | _, _, _, _, .nil, e => by simp at e
  | _, _, 0, v, .cons h _, e => by
    have e : some _ = some v := e
    cases e
    exact ⟨_, rfl, h⟩
  | _, _, i + 1, v, .cons _ t, e => VRs.get' (i := i) t e
theorem VRs.set {G : Gb} {Av : Addr → Prop} {s : S3} {v : Val} {x : V} (r : VR G Av s v x) : ∀ {vs : List Val} {xs : List V} (i : Nat), VRs G Av s vs xs → VRs G Av s (vs.set i v) (xs.set i x)
  | _, _, _, .nil => .nil
  | _, _, 0, .cons _ t => .cons r t
  | _, _, i + 1, .cons h t => .cons h (VRs.set r i t)
theorem VRs.take {G : Gb} {Av : Addr → Prop} {s : S3} : ∀ {vs : List Val} {xs : List V} (i : Nat), VRs G Av s vs xs → VRs G Av s (vs.take i) (xs.take i)
  | _, _, 0, _ => .nil
  | _, _, _ + 1, .nil => .nil
  | _, _, i + 1, .cons h t => .cons h (VRs.take i t)
theorem VRs.drop {G : Gb} {Av : Addr → Prop} {s : S3} : ∀ {vs : List Val} {xs : List V} (i : Nat), VRs G Av s vs xs → VRs G Av s (vs.drop i) (xs.drop i)
  | _, _, 0, h => h
  | _, _, _ + 1, .nil => .nil
  | _, _, i + 1, .cons h t => VRs.drop i t
theorem VRs.of_data {G : Gb} {Av : Addr → Prop} {s : S3} : ∀ {xs : List V} {ds : List D}, DRs G.K s.H (Bad Av s) xs ds → VRs G Av s (ds.map .d) xs
  | _, _, .nil => .nil
  | _, _, .cons h t => .cons (.d h) (VRs.of_data t)
theorem VRs.to_data {G : Gb} {Av : Addr → Prop} {s : S3} : ∀ {ds : List D} {xs : List V}, VRs G Av s (ds.map .d) xs → DRs G.K s.H (Bad Av s) xs ds
  | [], _, .nil => .nil
  | _ :: _, _, .cons (.d h) t => .cons h (VRs.to_data t)

/-- the pairs of a dict -/
inductive KVs {κ : Type} (G : Gb) (Av : Addr → Prop) (s : S3) : List (κ × Val) → List (κ × V) → Prop
  | nil : KVs G Av s [] []
  | cons {k : κ} {v : Val} {x : V} {l : List (κ × Val)} {m : List (κ × V)} : VR G Av s v x → KVs G Av s l m → KVs G Av s ((k, v) :: l) ((k, x) :: m)
theorem KVs.map {κ : Type} {G : Gb} {Av Av' : Addr → Prop} {s s' : S3} (f : ∀ {v : Val} {x : V}, VR G Av s v x → VR G Av' s' v x) : ∀ {l : List (κ × Val)} {m : List (κ × V)}, KVs G Av s l m → KVs G Av' s' l m
  | _, _, .nil => .nil
  | _, _, .cons h t => .cons (f h) (KVs.map f t)
theorem KVs.length {κ : Type} {G : Gb} {Av : Addr → Prop} {s : S3} : ∀ {l : List (κ × Val)} {m : List (κ × V)}, KVs G Av s l m → l.length = m.length
  | _, _, .nil => rfl
  | _, _, .cons _ t => by rw [List.length_cons, List.length_cons, KVs.length t]
/-- the pairs of a dict whose keys are tuples, as they lie -/
def VT : List (List Key × Addr × V) → List (List Key × Addr × Value) → Prop := Paired fun p q => p.1 = q.1 ∧ p.2.1 = q.2.1 ∧ RelV p.2.2 q.2.2
def dtxP (P : Program) (w : World) (a : Addr) (xs : List (List Key × Addr × V)) (h : Heap) : Prop := xs.length ≤ sizeLine ∧ (a == sysModules) = false ∧ ∃ ys, VT xs ys ∧
  ∃ o es ep, h.get? a = some o ∧ o.ExactDict ∧ o.data = .dict es ep ∧ es.toList = ys.map (entryOfKey (tupleKind (mixKind P w))) ∧ (ys.map (·.1)).Nodup
/-- a dict whose keys are tuples, wherever these come from -/
def dtx (P : Program) (w : World) (a : Addr) (xs : List (List Key × Addr × V)) : HO := .ext (dtxP P w a xs)
theorem dtx_ne {P : Program} {w : World} {a : Addr} {xs : List (List Key × Addr × V)} (q : Str) : dtx P w a xs ≠ LamX.CodeO a q := fun z => by
  have e : dtxP P w a xs = _ := HO.ext.inj z
  have e2 := congrFun e ⟨Array.replicate (a + 1) { cls := .none, data := .fields #[.none, .str q 0] }, {}⟩
  have hg : Heap.get? ⟨Array.replicate (a + 1) { cls := .none, data := .fields #[.none, .str q 0] }, {}⟩ a = some { cls := .none, data := .fields #[.none, .str q 0] } := by
    unfold Heap.get?
    simp
  obtain ⟨_, _, _, _, o, es, ep, ho, _, hd, _⟩ := e2.mpr ⟨_, _, 0, hg, rfl, rfl⟩
  rw [hg] at ho
  cases ho
  cases hd
inductive KVt (G : Gb) (Av : Addr → Prop) (s : S3) : List (List Key × Val) → List (List Key × Addr × V) → Prop
  | nil : KVt G Av s [] []
  | cons {k : List Key} {b : Addr} {v : Val} {x : V} {l : List (List Key × Val)} {m : List (List Key × Addr × V)} : SqT G.K s.H b (k.map kV) → VR G Av s v x → KVt G Av s l m → KVt G Av s ((k, v) :: l) ((k, b, x) :: m)
theorem KVt.map {G : Gb} {Av Av' : Addr → Prop} {s s' : S3} (f : ∀ {v : Val} {x : V}, VR G Av s v x → VR G Av' s' v x) (g : ∀ {b : Addr} {ys : List V}, SqT G.K s.H b ys → SqT G.K s'.H b ys) : ∀ {l : List (List Key × Val)} {m : List (List Key × Addr × V)}, KVt G Av s l m → KVt G Av' s' l m
  | _, _, .nil => .nil
  | _, _, .cons q h t => .cons (g q) (f h) (KVt.map f g t)
theorem KVt.length {G : Gb} {Av : Addr → Prop} {s : S3} : ∀ {l : List (List Key × Val)} {m : List (List Key × Addr × V)}, KVt G Av s l m → l.length = m.length
  | _, _, .nil => rfl
  | _, _, .cons _ _ t => by rw [List.length_cons, List.length_cons, KVt.length t]
inductive CR2 (G : Gb) (Av : Addr → Prop) (s : S3) (a : Addr) : Dc → HO → Prop
  | k {kvs : List (Key × Val)} {es : List (Key × V)} : KVs G Av s kvs es → CR2 G Av s a (.k kvs) (.dK es)
  | t {kvs : List (List Key × Val)} {es : List (List Key × Addr × V)} : KVt G Av s kvs es → CR2 G Av s a (.t kvs) (dtx G.P G.w a es)
theorem CR2.map {G : Gb} {Av Av' : Addr → Prop} {s s' : S3} (f : ∀ {v : Val} {x : V}, VR G Av s v x → VR G Av' s' v x) (g : ∀ {b : Addr} {ys : List V}, SqT G.K s.H b ys → SqT G.K s'.H b ys) {a : Addr} {c : Dc} {o : HO} (h : CR2 G Av s a c o) : CR2 G Av' s' a c o := by
  cases h with
  | k h => exact .k (h.map f)
  | t h => exact .t (h.map f g)
theorem CR2.nt {G : Gb} {Av : Addr → Prop} {s : S3} {a : Addr} {c : Dc} {o : HO} (h : CR2 G Av s a c o) : (∀ ps, o ≠ .tbl ps) ∧ (∀ xs, o ≠ .tup xs) ∧ (∀ q, o ≠ LamX.CodeO a q) ∧ ∀ ob w, o ≠ .frz ob w := by
  cases h with
  | k h => exact ⟨fun _ z => (by cases z), fun _ z => (by cases z), fun _ z => (by cases z), fun _ _ z => (by cases z)⟩
  | t h => exact ⟨fun _ z => (by unfold dtx at z; cases z), fun _ z => (by unfold dtx at z; cases z), fun q => dtx_ne q, fun _ _ z => (by unfold dtx at z; cases z)⟩
/-- an object at an address -/
def OR (G : Gb) (Av : Addr → Prop) (s : S3) (a : Addr) : IO → Prop
  | .lst vs => ∃ xs, s.H a = some (.lst xs) ∧ VRs G Av s vs xs
  | .dead x => DR G.K s.H (Bad Av s) (.ref a) x
  | .dct c => ∃ o, s.H a = some o ∧ CR2 G Av s a c o
  | .tx ds => ∃ o xs, o.dict = none ∧ s.H a = some (.frz o (.tup xs)) ∧ DRs G.K s.H (Bad Av s) xs ds

structure RepH (G : Gb) (Av : Addr → Prop) (s : S3) : Prop where
  len : s.r.length = s.h.length
  nd : s.r.Nodup
  obj : ∀ (n : Nat) (a : Addr) (o : IO), s.r[n]? = some a → s.h[n]? = some o → OR G Av s a o
  av : ∀ a, Av a → s.H a ≠ none
  dis : ∀ a, Av a → a ∉ s.r
  trk : ∀ a ∈ s.r, s.H a ≠ none
  tabs : LamX.Tabs G.tb s.H

/-- slots -/
structure SR (G : Gb) (Av : Addr → Prop) (s : S3) (σ : Sg) (τ : L2.St) : Prop where
  len : σ.length = τ.length
  at_ : ∀ (i : Nat) (v : Val), σ[i]? = some (some v) → ∃ x, τ[i]? = some (some x) ∧ VR G Av s v x

/-- a step -/
structure Stp (s s' : S3) : Prop where
  pre : s.r <+: s'.r
  liv : ∀ n, n < s.r.length → live s'.h n → live s.h n
  fr : Fr (fun a => ∃ n, s.r[n]? = some a ∧ live s.h n) s.H s'.H
  new : ∀ a ∈ s'.r, a ∈ s.r ∨ s.H a = none
theorem Stp.refl (s : S3) : Stp s s := ⟨List.prefix_refl _, fun _ _ h => h, Fr.refl _ _, fun _ h => .inl h⟩
theorem pre_get {α : Type} {l l' : List α} (p : l <+: l') {n : Nat} {a : α} (h : l[n]? = some a) : l'[n]? = some a := by
  obtain ⟨t, rfl⟩ := p
  have hn : n < l.length := by
    rcases Nat.lt_or_ge n l.length with q | q
    · exact q
    · rw [List.getElem?_eq_none q] at h; cases h
  rw [List.getElem?_append_left hn]
  exact h
theorem nd_get {l : List Addr} (nd : l.Nodup) {i j : Nat} {a : Addr} (hi : l[i]? = some a) (hj : l[j]? = some a) : i = j := by
  obtain ⟨h1, e1⟩ := List.getElem?_eq_some_iff.mp hi
  obtain ⟨h2, e2⟩ := List.getElem?_eq_some_iff.mp hj
  exact (List.getElem_inj nd).mp (e1.trans e2.symm)
theorem lt_of_get {α : Type} {l : List α} {i : Nat} {a : α} (h : l[i]? = some a) : i < l.length := (List.getElem?_eq_some_iff.mp h).1
/-- what may change after a step may have changed ahead of it, or is new -/
theorem Stp.bad {Av : Addr → Prop} {s s' : S3} (t : Stp s s') (nd : s'.r.Nodup) : ∀ a, s.H a ≠ none → ¬ Bad Av s a → ¬ Bad Av s' a := fun a ha hb hb' => by
  rcases hb' with h | ⟨n, h, l⟩
  · exact hb (.inl h)
  · by_cases hn : n < s.r.length
    · have e : s.r[n]? = some (s.r[n]) := List.getElem?_eq_getElem hn
      have e' := pre_get t.pre e
      rw [h] at e'
      have e2 : a = s.r[n] := Option.some.inj e'
      exact hb (.inr ⟨n, by rw [e, e2], t.liv n hn l⟩)
    · rcases t.new a (List.mem_of_getElem? h) with hm | hm
      · obtain ⟨m, hm2, e⟩ := List.mem_iff_getElem.mp hm
        have e1 : s'.r[m]? = some a := pre_get t.pre (by rw [List.getElem?_eq_getElem hm2, e])
        have := nd_get nd h e1
        omega
      · exact ha hm
theorem Stp.dr {G : Gb} {Av : Addr → Prop} {s s' : S3} (t : Stp s s') (nd : s'.r.Nodup) {v : V} {d : D} (h : DR G.K s.H (Bad Av s) v d) : DR G.K s'.H (Bad Av s') v d :=
  DR.mono t.fr (fun a z => .inr z) (t.bad nd) h
theorem Stp.vr {G : Gb} {Av : Addr → Prop} {s s' : S3} (t : Stp s s') (nd : s'.r.Nodup) {v : Val} {x : V} (h : VR G Av s v x) : VR G Av s' v x := by
  cases h with
  | d q => exact .d (t.dr nd q)
  | ref q => exact .ref (pre_get t.pre q)
  | fn q => exact .fn q
theorem Stp.vrs {G : Gb} {Av : Addr → Prop} {s s' : S3} (t : Stp s s') (nd : s'.r.Nodup) : ∀ {vs : List Val} {xs : List V}, VRs G Av s vs xs → VRs G Av s' vs xs
  | _, _, .nil => .nil
  | _, _, .cons h q => .cons (t.vr nd h) (t.vrs nd q)
theorem Stp.sr {G : Gb} {Av : Addr → Prop} {s s' : S3} (t : Stp s s') (nd : s'.r.Nodup) {σ : Sg} {τ : L2.St} (h : SR G Av s σ τ) : SR G Av s' σ τ :=
  ⟨h.len, fun i v e => let ⟨x, e1, q⟩ := h.at_ i v e; ⟨x, e1, t.vr nd q⟩⟩
theorem Stp.trans {s s' s'' : S3} (a : Stp s s') (b : Stp s' s'') (nd : s'.r.Nodup) (hl : s'.r.length = s'.h.length) : Stp s s'' where
  pre := a.pre.trans b.pre
  liv := fun n hn l => a.liv n hn (b.liv n (Nat.lt_of_lt_of_le hn a.pre.length_le) l)
  fr := ⟨fun c o h np nt => b.fr.keep c o (a.fr.keep c o h np nt) (fun ⟨n, e, l⟩ => by
      by_cases hn : n < s.r.length
      · have e0 : s.r[n]? = some (s.r[n]) := List.getElem?_eq_getElem hn
        have e' := pre_get a.pre e0
        rw [e] at e'
        have e2 : c = s.r[n] := Option.some.inj e'
        exact np ⟨n, by rw [e0, e2], a.liv n hn l⟩
      · rcases a.new c (List.mem_of_getElem? e) with hm | hm
        · obtain ⟨m, hm2, e3⟩ := List.mem_iff_getElem.mp hm
          have e1 : s'.r[m]? = some c := pre_get a.pre (by rw [List.getElem?_eq_getElem hm2, e3])
          have := nd_get nd e e1
          omega
        · rw [h] at hm; cases hm) nt, fun c h => b.fr.there c (a.fr.there c h), fun c xs h => b.fr.tup c xs (a.fr.tup c xs h), fun c o u h => b.fr.frz c o u (a.fr.frz c o u h)⟩
  new := fun c hc => by
    rcases b.new c hc with h | h
    · exact a.new c h
    · right
      cases q : s.H c with
      | none => rfl
      | some o => exact absurd h (a.fr.there c (by rw [q]; exact fun z => by cases z))

/-! ### exceptions, ends -/
/-- an exception of ours, as it lies -/
def XR (G : Gb) (e : Exc) (c : Value) (dx : Option Addr) : Prop := ∃ C, G.ca[e.cls]? = some C ∧ c = .ref C ∧ (e.arg = none → dx = none)

/-- what a piece's result must bring about -/
def Post (G : Gb) (E : XK) (Av : Addr → Prop) (s : S3) {α β : Type} (Rl : α → β → S3 → Prop) (r : R α) (Q : β → Hp → Prop) : Prop :=
  match r with
  | .ok a h' => ∀ (s' : S3) (y : β), s'.h = h' → RepH G Av s' → Stp s s' → Rl a y s' → Q y s'.H
  | .er e h' => ∀ (s' : S3) (c : Value) (dx : Option Addr), s'.h = h' → RepH G Av s' → Stp s s' → XR G e c dx → E c dx s'.H
  | .no => False

section
variable {G : Gb} {E : XK} {Av : Addr → Prop} {s s1 : S3} {α β γ δ : Type}
theorem Post.ok {Rl : α → β → S3 → Prop} {a : α} {h : Hq} {Q : β → Hp → Prop} (p : Post G E Av s Rl (.ok a h) Q) {s' : S3} {y : β} (e : s'.h = h) (r : RepH G Av s') (t : Stp s s') (q : Rl a y s') : Q y s'.H := p s' y e r t q
/-- a part, then the rest -/
theorem Post.bind {Rl : α → β → S3 → Prop} {Rm : γ → δ → S3 → Prop} {r : R α} {f : α → Hq → R γ} {Q : δ → Hp → Prop} (p : Post G E Av s Rm (r.bind f) Q) :
    Post G E Av s Rl r fun y H1 => ∃ (a : α) (s1 : S3), s1.H = H1 ∧ RepH G Av s1 ∧ Stp s s1 ∧ Rl a y s1 ∧ Post G E Av s1 Rm (f a s1.h) Q := by
  cases r with
  | ok a h =>
    intro s1 y e rp t q
    refine ⟨a, s1, rfl, rp, t, q, ?_⟩
    subst e
    have p : Post G E Av s Rm (f a s1.h) Q := p
    revert p
    cases hf : f a s1.h with
    | ok c h2 =>
      intro p s2 z e2 rp2 t2 q2
      exact p s2 z e2 rp2 (t.trans t2 rp.nd rp.len) q2
    | er x h2 =>
      intro p s2 c dx e2 rp2 t2 q2
      exact p s2 c dx e2 rp2 (t.trans t2 rp.nd rp.len) q2
    | no => exact fun p => p
  | er x h => exact p
  | no => exact p
theorem Post.mono {Rl : α → β → S3 → Prop} {r : R α} {Q Q' : β → Hp → Prop} (p : Post G E Av s Rl r Q) (h : ∀ y H, Q y H → Q' y H) : Post G E Av s Rl r Q' := by
  cases r with
  | ok a h1 => exact fun s' y e rp t q => h _ _ (p s' y e rp t q)
  | er x h1 => exact p
  | no => exact p
end

/-- the wish about exceptions, at the slots -/
abbrev We (W : WX) (τ : L2.St) : XK := fun c d H => W c d τ H
/-- an expression's reading by the evaluator -/
def tE (G : Gb) (W : WX) (m : Sg → Hq → R Val) : TE := fun τ H Q => ∃ (Av : Addr → Prop) (s : S3) (σ : Sg), s.H = H ∧ RepH G Av s ∧ SR G Av s σ τ ∧ Post G (We W τ) Av s (fun v y s' => VR G Av s' v y) (m σ s.h) Q
def tT (G : Gb) (W : WX) (m : Sg → Hq → R Bool) : TT := fun τ H Q => ∃ (Av : Addr → Prop) (s : S3) (σ : Sg), s.H = H ∧ RepH G Av s ∧ SR G Av s σ τ ∧ Post G (We W τ) Av s (fun v y _ => v = y) (m σ s.h) Q
def tA (G : Gb) (W : WX) (m : Sg → Hq → R (List Val)) : TA := fun τ H Q => ∃ (Av : Addr → Prop) (s : S3) (σ : Sg), s.H = H ∧ RepH G Av s ∧ SR G Av s σ τ ∧ Post G (We W τ) Av s (fun v y s' => VRs G Av s' v y) (m σ s.h) Q
end Ip

set_option linter.all false
set_option Elab.async false
set_option autoImplicit false
/-! Values looked at, handed on, made. -/
namespace Ip
open PySem L2

/-! ### heaps that grow -/
theorem fr_upd_new {P : Addr → Prop} {H : Hp} {p : Addr} {o : HO} (hp : H p = none) : Fr P H (upd H p o) := by
  refine ⟨fun a u h _ _ => ?_, fun a h => ?_, fun a xs h => ?_, fun a _ _ h => ?_⟩
  · rw [upd_ne (ne_of_none h hp)]; exact h
  · by_cases e : a = p
    · subst e; rw [upd_same]; exact fun z => by cases z
    · rw [upd_ne e]; exact h
  · rw [upd_ne (ne_of_none h hp)]; exact h
  · rw [upd_ne (ne_of_none h hp)]; exact h
/-- an object that may change is written -/
theorem fr_upd_live {P : Addr → Prop} {H : Hp} {p : Addr} {o u : HO} (hp : H p = some u) (hu : ∀ xs, u ≠ .tup xs) (hf : ∀ ob w, u ≠ .frz ob w) (hP : P p) : Fr P H (upd H p o) := by
  refine ⟨fun a u h n _ => ?_, fun a h => ?_, fun a ys h => ?_, fun a ob w h => ?_⟩
  · have e : a ≠ p := fun z => by subst z; exact n hP
    rw [upd_ne e]; exact h
  · by_cases e : a = p
    · subst e; rw [upd_same]; exact fun z => by cases z
    · rw [upd_ne e]; exact h
  · have e : a ≠ p := fun z => by
      subst z
      rw [hp] at h
      exact hu _ (Option.some.inj h)
    rw [upd_ne e]; exact h
  · have e : a ≠ p := fun z => by
      subst z
      rw [hp] at h
      exact hf _ _ (Option.some.inj h)
    rw [upd_ne e]; exact h

section
variable {G : Gb} {Av : Addr → Prop} {s : S3}
theorem RepH.bad_some (r : RepH G Av s) {a : Addr} (h : Bad Av s a) : s.H a ≠ none := by
  rcases h with h | ⟨n, e, vs, hl⟩
  · exact r.av a h
  · exact r.trk a (List.mem_of_getElem? e)
theorem tx_step {s s' : S3} {a : Addr} {ds : List D} (t : Stp s s') (nd : s'.r.Nodup) (q : OR G Av s a (.tx ds)) : OR G Av s' a (.tx ds) := by
  obtain ⟨o, xs, h1, h2, h3⟩ := q
  exact ⟨o, xs, h1, t.fr.frz _ _ _ h2, DRs.mono t.fr (fun a z => .inr z) (t.bad nd) h3⟩
/-- the abstract heap grows beside -/
theorem RepH.grow (r : RepH G Av s) {H' : Hp} (f : Fr (fun a => ∃ n, s.r[n]? = some a ∧ live s.h n) s.H H') (hl : ∀ n a, s.r[n]? = some a → live s.h n → H' a = s.H a) (ht : LamX.Tabs G.tb H') : RepH G Av ⟨s.r, s.h, H'⟩ ∧ Stp s ⟨s.r, s.h, H'⟩ := by
  have st : Stp s ⟨s.r, s.h, H'⟩ := ⟨List.prefix_refl _, fun _ _ h => h, f, fun _ h => .inl h⟩
  refine ⟨⟨r.len, r.nd, fun n a o e1 e2 => ?_, fun a h => f.there a (r.av a h), r.dis, fun a h => f.there a (r.trk a h), ht⟩, st⟩
  have q := r.obj n a o e1 e2
  cases o with
  | lst vs =>
    obtain ⟨xs, h1, h2⟩ := q
    exact ⟨xs, (hl n a e1 ⟨_, e2, rfl⟩).trans h1, st.vrs r.nd h2⟩
  | dead x => exact st.dr r.nd q
  | dct c =>
    obtain ⟨ob, h1, h2⟩ := q
    exact ⟨ob, (hl n a e1 ⟨_, e2, rfl⟩).trans h1, h2.map (st.vr r.nd) st.fr.sqt⟩
  | tx ds => exact tx_step st r.nd q
/-- an object that may change, as it lies -/
theorem RepH.at_live (r : RepH G Av s) {n : Nat} {a : Addr} (e : s.r[n]? = some a) (l : live s.h n) : ∃ u, s.H a = some u ∧ (∀ ps, u ≠ .tbl ps) ∧ (∀ xs, u ≠ .tup xs) ∧ ∀ q, u ≠ LamX.CodeO a q := by
  obtain ⟨o, hl, ha⟩ := l
  have q := r.obj n a _ e hl
  cases o with
  | lst vs => obtain ⟨xs, hx, _⟩ := q; exact ⟨_, hx, fun _ z => (by cases z), fun _ z => (by cases z), fun _ z => (by unfold LamX.CodeO at z; cases z)⟩
  | dead x => cases ha
  | dct c => obtain ⟨ob, hx, h2⟩ := q; exact ⟨ob, hx, h2.nt.1, h2.nt.2.1, h2.nt.2.2.1⟩
  | tx ds => cases ha
theorem RepH.upd_new (r : RepH G Av s) {p : Addr} {o : HO} (hp : s.H p = none) : RepH G Av ⟨s.r, s.h, upd s.H p o⟩ ∧ Stp s ⟨s.r, s.h, upd s.H p o⟩ :=
  r.grow (fr_upd_new hp) (fun n a e _ => by
    have : a ≠ p := fun z => by subst z; exact r.trk a (List.mem_of_getElem? e) hp
    rw [upd_ne this]) (tabs_upd r.tabs (.inl hp))

/-- the data of a value -/
theorem dat_eq {v : Val} {x : D} (h : dat v = some x) : v = .d x := by
  cases v with
  | d y => cases h; rfl
  | ref _ => cases h
  | fn _ => cases h
theorem dats_eq : ∀ {vs : List Val} {ds : List D}, dats vs = some ds → vs = ds.map .d
  | [], ds, h => by cases h; rfl
  | v :: vs, ds, h => by
    unfold dats at h
    split at h
    · rename_i x xs h1 h2
      cases h
      rw [dat_eq h1, dats_eq h2]; rfl
    · cases h
theorem dats_map (ds : List D) : dats (ds.map .d) = some ds := by
  induction ds with
  | nil => rfl
  | cons x r ih => simp only [List.map_cons, dats, dat, ih]

/-- what may change no more -/
theorem bad_dead {n : Nat} {a : Addr} {x : D} (nd : s.r.Nodup) (hn : s.r[n]? = some a) (dis : ∀ a, Av a → a ∉ s.r) : ¬ Bad Av ⟨s.r, s.h.set n (.dead x), s.H⟩ a := fun h => by
  rcases h with h | ⟨m, e, o, hl, ha⟩
  · exact dis a h (List.mem_of_getElem? hn)
  · have : m = n := nd_get nd e hn
    subst this
    have hm : m < s.h.length ∨ ¬ m < s.h.length := Nat.lt_or_ge m s.h.length |>.imp id Nat.not_lt.mpr
    rcases hm with hm | hm
    · rw [List.getElem?_set_self hm] at hl; cases hl; cases ha
    · rw [List.getElem?_eq_none (by rw [List.length_set]; exact Nat.not_lt.mp hm)] at hl; cases hl
theorem bad_set_sub {n : Nat} {x : D} {a : Addr} (h : Bad Av ⟨s.r, s.h.set n (.dead x), s.H⟩ a) : Bad Av s a := by
  rcases h with h | ⟨m, e, o, hl, ha⟩
  · exact .inl h
  · refine .inr ⟨m, e, o, ?_, ha⟩
    have hl : (s.h.set n (.dead x))[m]? = some o := hl
    by_cases hmn : n = m
    · subst hmn
      by_cases hm : n < s.h.length
      · rw [List.getElem?_set_self hm] at hl; cases hl; cases ha
      · rw [List.getElem?_eq_none (by rw [List.length_set]; exact Nat.not_lt.mp hm)] at hl; cases hl
    · rw [List.getElem?_set_ne hmn] at hl; exact hl
theorem DR.sub {K : PySem.W.Frag} {H : Hp} {B B' : Addr → Prop} (h : ∀ a, B' a → B a) {v : V} {d : D} (q : DR K H B v d) : DR K H B' v d := q.weak fun a _ n z => n (h a z)
theorem DRs.sub {K : PySem.W.Frag} {H : Hp} {B B' : Addr → Prop} (h : ∀ a, B' a → B a) {v : List V} {d : List D} (q : DRs K H B v d) : DRs K H B' v d := q.weak fun a _ n z => n (h a z)

theorem RepH.kill (r : RepH G Av s) {n : Nat} {a : Addr} {vs : List Val} {ds : List D} (hn : s.r[n]? = some a) (hl : s.h[n]? = some (.lst vs)) (e : vs = ds.map .d) :
    RepH G Av ⟨s.r, s.h.set n (.dead (.list ds)), s.H⟩ ∧ Stp s ⟨s.r, s.h.set n (.dead (.list ds)), s.H⟩ ∧ DR G.K s.H (Bad Av ⟨s.r, s.h.set n (.dead (.list ds)), s.H⟩) (.ref a) (.list ds) := by
  subst e
  have st : Stp s ⟨s.r, s.h.set n (.dead (.list ds)), s.H⟩ := by
    refine ⟨List.prefix_refl _, fun m _ h => ?_, Fr.refl _ _, fun _ h => .inl h⟩
    obtain ⟨o, h, ha⟩ := h
    have h : (s.h.set n (.dead (.list ds)))[m]? = some o := h
    by_cases hmn : n = m
    · subst hmn
      rw [List.getElem?_set_self (lt_of_get hl)] at h; cases h; cases ha
    · rw [List.getElem?_set_ne hmn] at h; exact ⟨o, h, ha⟩
  obtain ⟨xs, hx, hv⟩ := r.obj n a _ hn hl
  have dd : DR G.K s.H (Bad Av ⟨s.r, s.h.set n (.dead (.list ds)), s.H⟩) (.ref a) (.list ds) :=
    .lst (.inl ⟨.inl hx, bad_dead r.nd hn r.dis⟩) (hv.to_data.sub fun _ z => bad_set_sub z)
  refine ⟨⟨by rw [List.length_set]; exact r.len, r.nd, fun m b o e1 e2 => ?_, r.av, r.dis, r.trk, r.tabs⟩, st, dd⟩
  by_cases hmn : n = m
  · subst hmn
    have e2 : (s.h.set n (.dead (.list ds)))[n]? = some o := e2
    rw [List.getElem?_set_self (lt_of_get hl)] at e2
    cases e2
    have : b = a := by
      have e1 : s.r[n]? = some b := e1
      rw [hn] at e1; exact (Option.some.inj e1).symm
    subst this
    exact dd
  · have e2 : (s.h.set n (.dead (.list ds)))[m]? = some o := e2
    rw [List.getElem?_set_ne hmn] at e2
    have q := r.obj m b o e1 e2
    cases o with
    | lst ws =>
      obtain ⟨ys, h1, h2⟩ := q
      exact ⟨ys, h1, st.vrs r.nd h2⟩
    | dead x => exact st.dr r.nd q
    | dct c =>
      obtain ⟨ob, h1, h2⟩ := q
      exact ⟨ob, h1, h2.map (st.vr r.nd) st.fr.sqt⟩
    | tx ds2 => exact tx_step st r.nd q

theorem toD_ok (r : RepH G Av s) {v : Val} {y : V} (q : VR G Av s v y) {x : D} {h' : Hq} (e : toD v s.h = .ok x h') :
    RepH G Av ⟨s.r, h', s.H⟩ ∧ Stp s ⟨s.r, h', s.H⟩ ∧ DR G.K s.H (Bad Av ⟨s.r, h', s.H⟩) y x := by
  cases q with
  | d q =>
    cases e
    exact ⟨r, Stp.refl _, q⟩
  | ref hn =>
    rename_i n a
    unfold toD at e
    simp only at e
    split at e
    · rename_i vs hl
      split at e
      · rename_i ds hd
        cases e
        exact r.kill hn hl (dats_eq hd)
      · cases e
    · rename_i x' hl
      cases e
      exact ⟨r, Stp.refl _, r.obj n a _ hn hl⟩
    · rename_i ds hl
      cases e
      obtain ⟨o, xs, h1, h2, h3⟩ := r.obj n a _ hn hl
      exact ⟨r, Stp.refl _, .tup (.inl (.inr ⟨o, h2⟩)) h3⟩
    · cases e
  | fn _ => cases e
theorem toD_no_er (v : Val) (h : Hq) (x : Exc) (h' : Hq) : toD v h ≠ .er x h' := fun z => by
  cases v with
  | d y => cases z
  | fn _ => cases z
  | ref n =>
    unfold toD at z
    simp only at z
    split at z
    · split at z <;> cases z
    · cases z
    · cases z
    · cases z
theorem toDs_no_er : ∀ (vs : List Val) (h : Hq) (x : Exc) (h' : Hq), toDs vs h ≠ .er x h'
  | [], _, _, _, z => by cases z
  | v :: vs, h, x, h', z => by
    unfold toDs at z
    cases e : toD v h with
    | ok a h1 =>
      rw [e] at z
      simp only [R.bind_ok] at z
      cases e2 : toDs vs h1 with
      | ok a h2 => rw [e2] at z; cases z
      | er x2 h2 => exact toDs_no_er vs h1 _ _ e2
      | no => rw [e2] at z; cases z
    | er x2 h2 => exact toD_no_er v h _ _ e
    | no => rw [e] at z; cases z
theorem toDs_ok : ∀ {vs : List Val} {s : S3} {ys : List V} {xs : List D} {h' : Hq}, RepH G Av s → VRs G Av s vs ys → toDs vs s.h = .ok xs h' →
    RepH G Av ⟨s.r, h', s.H⟩ ∧ Stp s ⟨s.r, h', s.H⟩ ∧ DRs G.K s.H (Bad Av ⟨s.r, h', s.H⟩) ys xs
  | [], s, _, _, _, r, .nil, e => by
    cases e
    exact ⟨r, Stp.refl _, .nil⟩
  | v :: vs, s, _, xs, h', r, .cons q t, e => by
    unfold toDs at e
    cases e1 : toD v s.h with
    | er x h1 => exact absurd e1 (toD_no_er _ _ _ _)
    | no => rw [e1] at e; cases e
    | ok x h1 =>
      rw [e1] at e
      simp only [R.bind_ok] at e
      obtain ⟨r1, t1, d1⟩ := toD_ok r q e1
      cases e2 : toDs vs h1 with
      | er x h2 => exact absurd e2 (toDs_no_er _ _ _ _)
      | no => rw [e2] at e; cases e
      | ok ds h2 =>
        rw [e2] at e
        cases e
        obtain ⟨r2, t2, d2⟩ := toDs_ok (s := ⟨s.r, h1, s.H⟩) r1 (t1.vrs r1.nd t) e2
        exact ⟨r2, t1.trans t2 r1.nd r1.len, .cons (t2.dr r2.nd d1) d2⟩

/-! ### looks -/
abbrev NoB : Addr → Prop := fun _ => False
theorem allO_dr {f : Val → Option D} {B : Addr → Prop} (hf : ∀ v y x, VR G Av s v y → f v = some x → DR G.K s.H B y x) : ∀ {vs : List Val} {ys : List V} {xs : List D}, VRs G Av s vs ys → allO f vs = some xs → DRs G.K s.H B ys xs
  | _, _, _, .nil, e => by
    simp only [allO] at e
    cases e
    exact .nil
  | v :: vs, _, _, .cons q t, e => by
    simp only [allO] at e
    split at e
    · rename_i x xs h1 h2
      cases e
      exact .cons (hf _ _ _ q h1) (allO_dr hf t h2)
    · cases e
theorem pk_dr (r : RepH G Av s) : ∀ {n : Nat} {v : Val} {y : V} {x : D}, VR G Av s v y → pk s.h n v = some x → DR G.K s.H NoB y x
  | 0, .d x, _, _, .d q, e => by
    simp only [pk] at e
    cases e
    exact q.sub fun _ z => z.elim
  | n + 1, .d x, _, _, .d q, e => by
    simp only [pk] at e
    cases e
    exact q.sub fun _ z => z.elim
  | 0, .ref m, _, _, .ref hn, e => by simp only [pk] at e; cases e
  | n + 1, .ref m, _, x, .ref hn, e => by
    simp only [pk] at e
    split at e
    · rename_i vs hl
      obtain ⟨xs, hx, hv⟩ := r.obj m _ _ hn hl
      cases e2 : allO (pk s.h n) vs with
      | none => rw [e2] at e; cases e
      | some ds =>
        rw [e2] at e
        cases e
        exact .lst (.inl ⟨.inl hx, fun z => z⟩) (allO_dr (fun _ _ _ q e => pk_dr r q e) hv e2)
    · rename_i x' hl
      cases e
      exact DR.sub (fun _ z => z.elim) (r.obj m _ _ hn hl)
    · rename_i ds hl
      cases e
      obtain ⟨o, xs, h1, h2, h3⟩ := r.obj m _ _ hn hl
      exact .tup (.inl (.inr ⟨o, h2⟩)) (h3.sub fun _ z => z.elim)
    · cases e
  | 0, .fn _, _, _, .fn _, e => by simp only [pk] at e; cases e
  | _ + 1, .fn _, _, _, .fn _, e => by simp only [pk] at e; cases e
theorem pks_dr (r : RepH G Av s) {n : Nat} {vs : List Val} {ys : List V} {xs : List D} (q : VRs G Av s vs ys) (e : pks s.h n vs = some xs) : DRs G.K s.H NoB ys xs :=
  allO_dr (fun _ _ _ q e => pk_dr r q e) q e
/-- items -/
theorem els_ok (r : RepH G Av s) {v : Val} {y : V} {vs : List Val} (q : VR G Av s v y) (e : els s.h v = some vs) :
    ∃ a xs, y = .ref a ∧ (SqL G.K s.H a xs ∨ SqT G.K s.H a xs) ∧ VRs G Av s vs xs := by
  cases q with
  | d q =>
    cases q with
    | lst h t => cases e; exact ⟨_, _, rfl, .inl (sql_of h), VRs.of_data t⟩
    | tup h t => cases e; exact ⟨_, _, rfl, .inr h, VRs.of_data t⟩
    | non => cases e
    | bl b => cases e
    | int i => cases e
    | str x => cases e
  | ref hn =>
    unfold els at e
    simp only at e
    split at e
    · rename_i ws hl
      cases e
      obtain ⟨xs, hx, hv⟩ := r.obj _ _ _ hn hl
      exact ⟨_, xs, rfl, .inl (.inl (.inl hx)), hv⟩
    · rename_i ws hl
      cases e
      have q := r.obj _ _ _ hn hl
      cases q with
      | lst h t => exact ⟨_, _, rfl, .inl (sql_of h), VRs.of_data t⟩
    · rename_i ws hl
      cases e
      obtain ⟨o, xs, h1, h2, h3⟩ := r.obj _ _ _ hn hl
      exact ⟨_, _, rfl, .inr (.inl (.inr ⟨o, h2⟩)), VRs.of_data h3⟩
    · cases e
  | fn _ => cases e
end

/-! ### expressions: how a rule of the layer is taken -/
section
variable {X : Cx} {G : Gb} {E : XK} {W : WX} {e : Expr} {t t' : TE} {u u' : TT} {es : List Expr} {ta ta' : TA}
theorem _root_.L2.PE.imp (h : PE X e t) (q : ∀ τ H Q, t' τ H Q → t τ H Q) : PE X e t' := ⟨fun pins s σ H Q I w => h.run pins s σ H Q I (q _ _ _ w)⟩
theorem _root_.L2.PT.imp (h : PT X e u) (q : ∀ τ H Q, u' τ H Q → u τ H Q) : PT X e u' := ⟨fun pins s σ H Q I w => h.run pins s σ H Q I (q _ _ _ w)⟩
theorem _root_.L2.PW.imp (h : PW X e u) (q : ∀ τ H Q, u' τ H Q → u τ H Q) : PW X e u' := ⟨fun wh pins s σ H Q I w => h.run wh pins s σ H Q I (q _ _ _ w)⟩
theorem _root_.L2.PA.imp (h : PA X es ta) (q : ∀ τ H Q, ta' τ H Q → ta τ H Q) : PA X es ta' := ⟨fun pos pins s σ H Q I w => h.run pos pins s σ H Q I (q _ _ _ w)⟩
end
section
variable {G : Gb} {E : XK} {W : WX} {Av : Addr → Prop} {s : S3} {σ : Sg} {τ : L2.St}
/-- a part's reading, from the whole's -/
theorem tE_bind {γ δ : Type} {m : Sg → Hq → R Val} {f : Val → Hq → R γ} {Rm : γ → δ → S3 → Prop} {Q : δ → Hp → Prop} (rp : RepH G Av s) (sr : SR G Av s σ τ) (p : Post G (We W τ) Av s Rm ((m σ s.h).bind f) Q) {Q' : VK}
    (h : ∀ (v : Val) (y : V) (s1 : S3), RepH G Av s1 → Stp s s1 → SR G Av s1 σ τ → VR G Av s1 v y → Post G (We W τ) Av s1 Rm (f v s1.h) Q → Q' y s1.H) : tE G W m τ s.H Q' := by
  refine ⟨Av, s, σ, rfl, rp, sr, (p.bind (Rl := fun v y s' => VR G Av s' v y)).mono ?_⟩
  rintro y H1 ⟨v, s1, rfl, rp1, st, q, p1⟩
  exact h v y s1 rp1 st (st.sr rp1.nd sr) q p1
theorem tT_bind {γ δ : Type} {m : Sg → Hq → R Bool} {f : Bool → Hq → R γ} {Rm : γ → δ → S3 → Prop} {Q : δ → Hp → Prop} (rp : RepH G Av s) (sr : SR G Av s σ τ) (p : Post G (We W τ) Av s Rm ((m σ s.h).bind f) Q) {Q' : Bool → Hp → Prop}
    (h : ∀ (b : Bool) (s1 : S3), RepH G Av s1 → Stp s s1 → SR G Av s1 σ τ → Post G (We W τ) Av s1 Rm (f b s1.h) Q → Q' b s1.H) : tT G W m τ s.H Q' := by
  refine ⟨Av, s, σ, rfl, rp, sr, (p.bind (Rl := fun v y s' => v = y)).mono ?_⟩
  rintro y H1 ⟨v, s1, rfl, rp1, st, q, p1⟩
  subst q
  exact h v s1 rp1 st (st.sr rp1.nd sr) p1
theorem tA_bind {γ δ : Type} {m : Sg → Hq → R (List Val)} {f : List Val → Hq → R γ} {Rm : γ → δ → S3 → Prop} {Q : δ → Hp → Prop} (rp : RepH G Av s) (sr : SR G Av s σ τ) (p : Post G (We W τ) Av s Rm ((m σ s.h).bind f) Q) {Q' : List V → Hp → Prop}
    (h : ∀ (v : List Val) (y : List V) (s1 : S3), RepH G Av s1 → Stp s s1 → SR G Av s1 σ τ → VRs G Av s1 v y → Post G (We W τ) Av s1 Rm (f v s1.h) Q → Q' y s1.H) : tA G W m τ s.H Q' := by
  refine ⟨Av, s, σ, rfl, rp, sr, (p.bind (Rl := fun v y s' => VRs G Av s' v y)).mono ?_⟩
  rintro y H1 ⟨v, s1, rfl, rp1, st, q, p1⟩
  exact h v y s1 rp1 st (st.sr rp1.nd sr) q p1
/-- the end of a piece that leaves the state as it is -/
theorem Post.fin {α β : Type} {Rl : α → β → S3 → Prop} {a : α} {y : β} {Q : β → Hp → Prop} (p : Post G E Av s Rl (.ok a s.h) Q) (rp : RepH G Av s) (q : Rl a y s) : Q y s.H := p s y rfl rp (Stp.refl _) q
end

/-! ### scalars -/
def scalV : D → Option V
  | .none => some .non
  | .bool b => some (.bl b)
  | .int i => some (.int i)
  | .str x => some (.str x)
  | _ => none
theorem scal_dr {K : PySem.W.Frag} {H : Hp} {B : Addr → Prop} {x : D} {v : V} (h : scalV x = some v) : DR K H B v x := by
  cases x with
  | none => cases h; exact .non
  | bool b => cases h; exact .bl b
  | int i => cases h; exact .int i
  | str z => cases h; exact .str z
  | list _ => cases h
  | tuple _ => cases h
  | dict _ => cases h
theorem binD_scal {o : Bop} {a b c : D} (h : binD o a b = some c) : ∃ v, scalV c = some v := by
  unfold binD at h
  split at h <;> (try split at h) <;> first | (cases h; exact ⟨_, rfl⟩) | cases h

/-- the layer's word for an operator -/
def opOf : Bop → Operator
  | .add => .Add
  | .sub => .Sub
  | .mul => .Mult
  | .fdiv => .FloorDiv
  | .mod => .Mod
  | .pow => .Pow
theorem fits_line {n : Nat} (h : fits n = true) : n ≤ sizeLine := by
  rw [sizeLine_eq]
  exact of_decide_eq_true h
theorem lt_of_log2 {n k : Nat} (h : n.log2 < k) : n < 2 ^ k := by
  by_cases h0 : n = 0
  · subst h0; exact Nat.pow_pos (by decide)
  · exact (Nat.log2_lt h0).mp h
theorem okMul_c {i j : Int} (h : okMul i j = true) : CMulW i j := by
  have h := of_decide_eq_true h
  exact wide_mul (a := i.natAbs.log2 + 1) (b := j.natAbs.log2 + 1) (lt_of_log2 (Nat.lt_succ_self _)) (lt_of_log2 (Nat.lt_succ_self _)) (Nat.succ_pos _) (Nat.succ_pos _) (by omega)
def rBin (G : Gb) (o : Bop) : R2 := fun x y H Q => ∃ a b c v, Dp G.K H x a ∧ Dp G.K H y b ∧ binD o a b = some c ∧ scalV c = some v ∧ Q v H
theorem dp_int {K : PySem.W.Frag} {H : Hp} {x : V} {i : Int} (h : Dp K H x (.int i)) : x = .int i := by cases h; rfl
theorem dp_str {K : PySem.W.Frag} {H : Hp} {x : V} {i : Str} (h : Dp K H x (.str i)) : x = .str i := by cases h; rfl
theorem dp_bl {K : PySem.W.Frag} {H : Hp} {x : V} {i : Bool} (h : Dp K H x (.bool i)) : x = .bl i := by cases h; rfl
theorem dp_non {K : PySem.W.Frag} {H : Hp} {x : V} (h : Dp K H x .none) : x = .non := by cases h; rfl
theorem op_fdivA {X : Cx} : OpR X (binaryOp .FloorDiv) (rI (fun _ j => j ≠ 0 ∧ j.natAbs.log2 < 9000) fun i j => .int (i.fdiv j)) := opI fun _ _ _ _ _ _ _ hc q => PyProof.Rows.floordiv_int hc.1 q (.inl (PyProof.noPylong_of_log2 hc.2))
theorem op_bin {X : Cx} {G : Gb} (o : Bop) : OpR X (binaryOp (opOf o)) (rBin G o) := by
  rintro pins s σ H x y v u Q I rx ry ⟨a, b, c, w, da, db, e, sc, q⟩
  unfold binD at e
  split at e
  · cases e; cases sc; cases dp_int da; cases dp_int db
    exact op_add pins s σ H _ _ v u Q I rx ry ⟨_, _, rfl, rfl, q⟩
  · split at e
    · rename_i hf
      cases e; cases sc; cases dp_str da; cases dp_str db
      exact op_add_str pins s σ H _ _ v u Q I rx ry ⟨_, _, rfl, rfl, fits_line hf, q⟩
    · cases e
  · cases e; cases sc; cases dp_int da; cases dp_int db
    exact op_sub pins s σ H _ _ v u Q I rx ry ⟨_, _, rfl, rfl, q⟩
  · split at e
    · rename_i hf
      cases e; cases sc; cases dp_int da; cases dp_int db
      exact op_mulW pins s σ H _ _ v u Q I rx ry ⟨_, _, rfl, rfl, okMul_c hf, q⟩
    · cases e
  · split at e
    · rename_i hf
      cases e; cases sc; cases dp_int da; cases dp_int db
      unfold okDiv at hf
      simp only [Bool.and_eq_true, Bool.or_eq_true, decide_eq_true_eq] at hf
      exact op_fdivA pins s σ H _ _ v u Q I rx ry ⟨_, _, rfl, rfl, ⟨hf.1, by omega⟩, q⟩
    · cases e
  · split at e
    · cases e
    · rename_i hf
      cases e; cases sc; cases dp_int da; cases dp_int db
      exact op_modN pins s σ H _ _ v u Q I rx ry ⟨_, _, rfl, rfl, hf, q⟩
  · split at e
    · rename_i hf
      cases e; cases sc; cases dp_int da; cases dp_int db
      unfold okPow at hf
      simp only [Bool.and_eq_true, decide_eq_true_eq] at hf
      exact op_pow pins s σ H _ _ v u Q I rx ry ⟨_, _, rfl, rfl, ⟨hf.1.1, hf.1.2, lt_of_log2 hf.2⟩, q⟩
    · cases e
  · cases e
end Ip

set_option linter.all false
set_option Elab.async false
set_option autoImplicit false
/-! Dicts: looked at, written, made. -/
namespace Ip
open PySem PySem.Spec L2 PyProof.Rows
section
variable {G : Gb} {Av : Addr → Prop} {s : S3}
theorem KVs.look {κ : Type} [DecidableEq κ] : ∀ {l : List (κ × Val)} {m : List (κ × V)} (k : κ), KVs G Av s l m → (lookK l k = none ∧ valV m k = none) ∨ ∃ v x, lookK l k = some v ∧ valV m k = some x ∧ VR G Av s v x
  | _, _, k, .nil => .inl ⟨rfl, rfl⟩
  | _, _, k, @KVs.cons _ _ _ _ k0 v x l m q t => by
    by_cases e : k0 = k
    · exact .inr ⟨v, x, by simp [lookK, List.find?_cons, e], valV_pos e, q⟩
    · rcases KVs.look k t with ⟨h1, h2⟩ | ⟨v', x', h1, h2, h3⟩
      · exact .inl ⟨by simpa [lookK, List.find?_cons, e] using h1, by rw [valV_neg e]; exact h2⟩
      · exact .inr ⟨v', x', by simpa [lookK, List.find?_cons, e] using h1, by rw [valV_neg e]; exact h2, h3⟩
theorem KVs.any {κ : Type} [DecidableEq κ] (k : κ) : ∀ {l : List (κ × Val)} {m : List (κ × V)}, KVs G Av s l m → (l.any fun p => decide (p.1 = k)) = m.any fun p => decide (p.1 = k)
  | _, _, .nil => rfl
  | _, _, .cons _ t => by rw [List.any_cons, List.any_cons, KVs.any k t]
theorem KVs.append {κ : Type} : ∀ {l l' : List (κ × Val)} {m m' : List (κ × V)}, KVs G Av s l m → KVs G Av s l' m' → KVs G Av s (l ++ l') (m ++ m')
  | _, _, _, _, .nil, q => q
  | _, _, _, _, .cons h t, q => .cons h (KVs.append t q)
theorem KVs.repl {κ : Type} [DecidableEq κ] (k : κ) {v : Val} {x : V} (q : VR G Av s v x) : ∀ {l : List (κ × Val)} {m : List (κ × V)}, KVs G Av s l m → KVs G Av s (l.map fun p => if p.1 = k then (p.1, v) else p) (m.map fun p => if p.1 = k then (p.1, x) else p)
  | _, _, .nil => .nil
  | _, _, @KVs.cons _ _ _ _ k0 v0 x0 l m h t => by
    rw [List.map_cons, List.map_cons]
    by_cases e : k0 = k
    · simp only [e, if_true]; exact .cons q (KVs.repl k q t)
    · simp only [e, if_false]; exact .cons h (KVs.repl k q t)
theorem KVs.stor {κ : Type} [DecidableEq κ] (k : κ) {v : Val} {x : V} (q : VR G Av s v x) {l : List (κ × Val)} {m : List (κ × V)} (h : KVs G Av s l m) : KVs G Av s (storK l k v) (putK m k x) := by
  unfold storK putK
  rw [h.any k]
  split
  · exact h.repl k q
  · exact h.append (.cons q .nil)
theorem keyK_ok {K : PySem.W.Frag} {H : Hp} {B : Addr → Prop} {d : D} {y : V} {k : L2.Key} (q : DR K H B y d) (e : keyK d = some k) : y = kV k := by
  cases q <;> cases e <;> rfl
theorem keyKs_ok {K : PySem.W.Frag} {H : Hp} {B : Addr → Prop} : ∀ {ds : List D} {ys : List V} {ks : List L2.Key}, DRs K H B ys ds → keyKs ds = some ks → ys = ks.map kV
  | [], _, _, .nil, e => by cases e; rfl
  | d :: ds, _, ks, .cons h t, e => by
    unfold keyKs at e
    split at e
    · rename_i k ks' h1 h2
      cases e
      rw [keyK_ok h h1, keyKs_ok t h2]; rfl
    · cases e
theorem keyT_ok {K : PySem.W.Frag} {H : Hp} {B : Addr → Prop} {d : D} {y : V} {k : List L2.Key} (q : DR K H B y d) (e : keyT d = some k) : ∃ b, y = .ref b ∧ SqT K H b (k.map kV) := by
  cases q with
  | tup h t => exact ⟨_, rfl, by rw [← keyKs_ok t e]; exact h⟩
  | non => cases e
  | bl _ => cases e
  | int _ => cases e
  | str _ => cases e
  | lst _ _ => cases e
theorem dct_ok (r : RepH G Av s) {v : Val} {y : V} {c : Dc} (q : VR G Av s v y) (e : dct s.h v = some c) : ∃ n a ob, v = .ref n ∧ y = .ref a ∧ s.r[n]? = some a ∧ s.h[n]? = some (.dct c) ∧ s.H a = some ob ∧ CR2 G Av s a c ob := by
  cases q with
  | d q => cases e
  | fn _ => cases e
  | @ref n a hn =>
    unfold dct at e
    simp only at e
    split at e
    · rename_i c' hl
      cases e
      obtain ⟨ob, h1, h2⟩ := r.obj n a _ hn hl
      exact ⟨n, a, ob, rfl, rfl, hn, hl, h1, h2⟩
    · cases e
/-- what stands at a key that is a tuple -/
def lookT (xs : List (List Key × Addr × V)) (k : List Key) : Option V := (xs.find? fun p => decide (p.1 = k)).map (·.2.2)
def storT (xs : List (List Key × Addr × V)) (k : List Key) (b : Addr) (x : V) : List (List Key × Addr × V) :=
  if (xs.any fun p => decide (p.1 = k)) = true then xs.map (fun p => if p.1 = k then (p.1, p.2.1, x) else p) else xs ++ [(k, b, x)]
theorem KVt.look : ∀ {l : List (List Key × Val)} {m : List (List Key × Addr × V)} (k : List Key), KVt G Av s l m → (lookK l k = none ∧ lookT m k = none) ∨ ∃ v x, lookK l k = some v ∧ lookT m k = some x ∧ VR G Av s v x
  | _, _, k, .nil => .inl ⟨rfl, rfl⟩
  | _, _, k, @KVt.cons _ _ _ k0 b0 v x l m z q t => by
    by_cases e : k0 = k
    · exact .inr ⟨v, x, by simp [lookK, List.find?_cons, e], by simp [lookT, List.find?_cons, e], q⟩
    · rcases KVt.look k t with ⟨h1, h2⟩ | ⟨v', x', h1, h2, h3⟩
      · exact .inl ⟨by simpa [lookK, List.find?_cons, e] using h1, by simpa [lookT, List.find?_cons, e] using h2⟩
      · exact .inr ⟨v', x', by simpa [lookK, List.find?_cons, e] using h1, by simpa [lookT, List.find?_cons, e] using h2, h3⟩
theorem KVt.any (k : List Key) : ∀ {l : List (List Key × Val)} {m : List (List Key × Addr × V)}, KVt G Av s l m → (l.any fun p => decide (p.1 = k)) = m.any fun p => decide (p.1 = k)
  | _, _, .nil => rfl
  | _, _, .cons _ _ t => by rw [List.any_cons, List.any_cons, KVt.any k t]
theorem KVt.append : ∀ {l l' : List (List Key × Val)} {m m' : List (List Key × Addr × V)}, KVt G Av s l m → KVt G Av s l' m' → KVt G Av s (l ++ l') (m ++ m')
  | _, _, _, _, .nil, q => q
  | _, _, _, _, .cons z h t, q => .cons z h (KVt.append t q)
theorem KVt.repl (k : List Key) {v : Val} {x : V} (q : VR G Av s v x) : ∀ {l : List (List Key × Val)} {m : List (List Key × Addr × V)}, KVt G Av s l m → KVt G Av s (l.map fun p => if p.1 = k then (p.1, v) else p) (m.map fun p => if p.1 = k then (p.1, p.2.1, x) else p)
  | _, _, .nil => .nil
  | _, _, @KVt.cons _ _ _ k0 b0 v0 x0 l m z h t => by
    rw [List.map_cons, List.map_cons]
    by_cases e : k0 = k
    · rw [if_pos e, if_pos e]; exact .cons z q (KVt.repl k q t)
    · rw [if_neg e, if_neg e]; exact .cons z h (KVt.repl k q t)
theorem KVt.stor (k : List Key) {b : Addr} {v : Val} {x : V} (z : SqT G.K s.H b (k.map kV)) (q : VR G Av s v x) {l : List (List Key × Val)} {m : List (List Key × Addr × V)} (h : KVt G Av s l m) : KVt G Av s (storK l k v) (storT m k b x) := by
  unfold storK storT
  rw [h.any k]
  split
  · exact h.repl k q
  · exact h.append (.cons z q .nil)
theorem KVt.keys : ∀ {l : List (List Key × Val)} {m : List (List Key × Addr × V)}, KVt G Av s l m → ∀ p ∈ m, SqT G.K s.H p.2.1 (p.1.map kV)
  | _, _, .nil, p, hp => by cases hp
  | _, _, .cons z _ t, p, hp => by
    rcases List.mem_cons.mp hp with rfl | hp
    · exact z
    · exact KVt.keys t p hp
/-- a look at a dict -/
def DG (P : Program) (w : World) (K : PySem.W.Frag) (H : Hp) (a : Addr) (y : V) (o : Option V) : Prop := DGet H a y o ∨
  ∃ xs k b, H a = some (dtx P w a xs) ∧ (∀ p ∈ xs, SqT K H p.2.1 (p.1.map kV)) ∧ y = .ref b ∧ SqT K H b (k.map kV) ∧ o = lookT xs k
/-- a store into a dict -/
def DP (P : Program) (w : World) (K : PySem.W.Frag) (H : Hp) (a : Addr) (y x : V) (H' : Hp) : Prop := DPut H a y x H' ∨
  ∃ xs k b, H a = some (dtx P w a xs) ∧ (∀ p ∈ xs, SqT K H p.2.1 (p.1.map kV)) ∧ y = .ref b ∧ SqT K H b (k.map kV) ∧ xs.length < sizeLine ∧ H' = upd H a (dtx P w a (storT xs k b x))
/-- a look at a key -/
theorem dget_ok {c : Dc} {ob : HO} {a : Addr} {k : Val} {y : V} {o : Option Val} (h : s.H a = some ob) (cr : CR2 G Av s a c ob) (q : VR G Av s k y) (e : c.get k = some o) :
    ∃ ov, DG G.P G.w G.K s.H a y ov ∧ ((o = none ∧ ov = none) ∨ ∃ v x, o = some v ∧ ov = some x ∧ VR G Av s v x) := by
  cases cr with
  | k kv =>
    cases k with
    | ref _ => cases e
    | fn _ => cases e
    | d d =>
      have e : (keyK d).map (lookK _) = some o := e
      cases ek : keyK d with
      | none => rw [ek] at e; cases e
      | some kk =>
        rw [ek] at e
        cases e
        cases q with
        | d q =>
          rw [keyK_ok q ek]
          refine ⟨_, .inl (.k h), ?_⟩
          rcases kv.look kk with ⟨h1, h2⟩ | ⟨v, x, h1, h2, h3⟩
          · exact .inl ⟨h1, h2⟩
          · exact .inr ⟨v, x, h1, h2, h3⟩
  | t kv =>
    cases k with
    | ref _ => cases e
    | fn _ => cases e
    | d d =>
      have e : (keyT d).map (lookK _) = some o := e
      cases ek : keyT d with
      | none => rw [ek] at e; cases e
      | some kk =>
        rw [ek] at e
        cases e
        cases q with
        | d q =>
          obtain ⟨b, rfl, hb⟩ := keyT_ok q ek
          refine ⟨_, .inr ⟨_, kk, b, h, kv.keys, rfl, hb, rfl⟩, ?_⟩
          rcases kv.look kk with ⟨h1, h2⟩ | ⟨v, x, h1, h2, h3⟩
          · exact .inl ⟨h1, h2⟩
          · exact .inr ⟨v, x, h1, h2, h3⟩
/-- the dict's object replaced -/
theorem RepH.writeD (rp : RepH G Av s) {n : Nat} {a : Addr} {c c' : Dc} {ob ob' : HO} (hn : s.r[n]? = some a) (hl : s.h[n]? = some (.dct c)) (hH : s.H a = some ob) (cr : CR2 G Av s a c ob) (cr' : CR2 G Av s a c' ob') :
    RepH G Av ⟨s.r, s.h.set n (.dct c'), upd s.H a ob'⟩ ∧ Stp s ⟨s.r, s.h.set n (.dct c'), upd s.H a ob'⟩ := by
  have hnl : n < s.h.length := lt_of_get hl
  have lv : ∀ m, live (s.h.set n (.dct c')) m → live s.h m := fun m ⟨us, e, ha⟩ => by
    by_cases hmn : n = m
    · subst hmn; exact ⟨_, hl, rfl⟩
    · rw [List.getElem?_set_ne hmn] at e; exact ⟨us, e, ha⟩
  have st : Stp s ⟨s.r, s.h.set n (.dct c'), upd s.H a ob'⟩ :=
    ⟨List.prefix_refl _, fun m _ h => lv m h, fr_upd_live hH cr.nt.2.1 cr.nt.2.2.2 ⟨n, hn, _, hl, rfl⟩, fun _ h => .inl h⟩
  refine ⟨⟨by rw [List.length_set]; exact rp.len, rp.nd, fun m b o e1 e2 => ?_, fun b z => st.fr.there b (rp.av b z), rp.dis, fun b z => st.fr.there b (rp.trk b z), tabs_upd rp.tabs (.inr ⟨_, hH, cr.nt.1, cr.nt.2.2.1⟩)⟩, st⟩
  by_cases hmn : n = m
  · subst hmn
    have e2 : (s.h.set n (.dct c'))[n]? = some o := e2
    rw [List.getElem?_set_self hnl] at e2
    cases e2
    have e1 : s.r[n]? = some b := e1
    rw [hn] at e1; cases e1
    exact ⟨ob', upd_same, cr'.map (st.vr rp.nd) st.fr.sqt⟩
  · have e2 : (s.h.set n (.dct c'))[m]? = some o := e2
    rw [List.getElem?_set_ne hmn] at e2
    have q2 := rp.obj m b o e1 e2
    have nb : b ≠ a := fun z => by subst z; exact hmn (nd_get rp.nd hn e1)
    cases o with
    | lst us =>
      obtain ⟨ys, h1, h2⟩ := q2
      exact ⟨ys, (upd_ne nb).trans h1, st.vrs rp.nd h2⟩
    | dead x => exact st.dr rp.nd q2
    | dct c2 =>
      obtain ⟨ob2, h1, h2⟩ := q2
      exact ⟨ob2, (upd_ne nb).trans h1, h2.map (st.vr rp.nd) st.fr.sqt⟩
    | tx ds => exact tx_step st rp.nd q2
/-- a store at a key -/
theorem dput_ok (rp : RepH G Av s) {n : Nat} {a : Addr} {c c' : Dc} {ob : HO} {k v : Val} {y x : V} (hn : s.r[n]? = some a) (hl : s.h[n]? = some (.dct c)) (hH : s.H a = some ob) (cr : CR2 G Av s a c ob) (qk : VR G Av s k y) (qv : VR G Av s v x) (e : c.put k v = some c') :
    ∃ H', DP G.P G.w G.K s.H a y x H' ∧ RepH G Av ⟨s.r, s.h.set n (.dct c'), H'⟩ ∧ Stp s ⟨s.r, s.h.set n (.dct c'), H'⟩ := by
  cases cr with
  | @k kvs es kv =>
    cases k with
    | ref _ => cases e
    | fn _ => cases e
    | d d =>
      unfold Dc.put at e
      simp only at e
      split at e
      · rename_i kk ek
        split at e
        · rename_i hz
          cases e
          cases qk with
          | d q =>
            rw [keyK_ok q ek]
            exact ⟨_, .inl (.k hH (by rw [← kv.length, sizeLine_eq]; exact hz)), rp.writeD hn hl hH (.k kv) (.k (kv.stor kk qv))⟩
        · cases e
      · cases e
  | @t kvs es kv =>
    cases k with
    | ref _ => cases e
    | fn _ => cases e
    | d d =>
      unfold Dc.put at e
      simp only at e
      split at e
      · rename_i kk ek
        split at e
        · rename_i hz
          cases e
          cases qk with
          | d q =>
            obtain ⟨b, rfl, hb⟩ := keyT_ok q ek
            exact ⟨_, .inr ⟨_, kk, b, hH, kv.keys, rfl, hb, by rw [← kv.length, sizeLine_eq]; exact hz, rfl⟩, rp.writeD hn hl hH (.t kv) (.t (kv.stor kk hb qv))⟩
        · cases e
      · cases e
/-- a new object that stands alone -/
theorem RepH.newD (rp : RepH G Av s) {p : Addr} {c : Dc} {ob : HO} (hp : s.H p = none) (cr : CR2 G Av s p c ob) :
    RepH G Av ⟨s.r ++ [p], s.h ++ [.dct c], upd s.H p ob⟩ ∧ Stp s ⟨s.r ++ [p], s.h ++ [.dct c], upd s.H p ob⟩ ∧ VR G Av ⟨s.r ++ [p], s.h ++ [.dct c], upd s.H p ob⟩ (.ref s.h.length) (.ref p) := by
  obtain ⟨r1, t1⟩ := rp.upd_new (o := ob) hp
  have np : p ∉ s.r := fun z => rp.trk p z hp
  have nA : ¬ Av p := fun z => rp.av p z hp
  have st : Stp s ⟨s.r ++ [p], s.h ++ [.dct c], upd s.H p ob⟩ := by
    refine ⟨List.prefix_append _ _, fun n hn ⟨o, hl, ha⟩ => ?_, fr_upd_new hp, fun b hb => ?_⟩
    · rw [List.getElem?_append_left (by rw [← rp.len]; exact hn)] at hl
      exact ⟨o, hl, ha⟩
    · rcases List.mem_append.mp hb with w | w
      · exact .inl w
      · have : b = p := by simpa using w
        subst this; exact .inr hp
  have nd : (s.r ++ [p]).Nodup := by
    rw [List.nodup_append]
    exact ⟨rp.nd, by simp, fun x hx2 y hy => by
      have : y = p := by simpa using hy
      subst this; exact fun z => np (z ▸ hx2)⟩
  refine ⟨⟨by simp [rp.len], nd, fun n b o e1 e2 => ?_, fun b z => st.fr.there b (rp.av b z), fun b z w => ?_, fun b z => ?_, r1.tabs⟩, st, .ref ?_⟩
  · by_cases hn : n < s.r.length
    · have e1 : (s.r ++ [p])[n]? = some b := e1
      have e2 : (s.h ++ [.dct c])[n]? = some o := e2
      rw [List.getElem?_append_left hn] at e1
      rw [List.getElem?_append_left (by rw [← rp.len]; exact hn)] at e2
      have q := rp.obj n b o e1 e2
      have nb : b ≠ p := fun z => np (z ▸ List.mem_of_getElem? e1)
      cases o with
      | lst ws => obtain ⟨zs, h1, h2⟩ := q; exact ⟨zs, (upd_ne nb).trans h1, st.vrs nd h2⟩
      | dead x => exact st.dr nd q
      | dct c2 => obtain ⟨ob2, h1, h2⟩ := q; exact ⟨ob2, (upd_ne nb).trans h1, h2.map (st.vr nd) st.fr.sqt⟩
      | tx ds => exact tx_step st nd q
    · have e1 : (s.r ++ [p])[n]? = some b := e1
      have e2 : (s.h ++ [.dct c])[n]? = some o := e2
      rw [List.getElem?_append_right (Nat.not_lt.mp hn)] at e1
      rw [List.getElem?_append_right (by rw [← rp.len]; exact Nat.not_lt.mp hn), ← rp.len] at e2
      cases hk : n - s.r.length with
      | zero =>
        rw [hk] at e1 e2
        have e1 : some p = some b := e1
        have e2 : some (IO.dct c) = some o := e2
        cases e1; cases e2
        exact ⟨ob, upd_same, cr.map (st.vr nd) st.fr.sqt⟩
      | succ k => rw [hk] at e1; cases e1
  · rcases List.mem_append.mp w with w | w
    · exact rp.dis b z w
    · have : b = p := by simpa using w
      subst this; exact nA z
  · rcases List.mem_append.mp z with w | w
    · exact st.fr.there b (rp.trk b w)
    · have : b = p := by simpa using w
      subst this
      show upd s.H b ob b ≠ none
      rw [upd_same]; exact fun z => by cases z
  · show (s.r ++ [p])[s.h.length]? = some p
    rw [← rp.len, List.getElem?_append_right (Nat.le_refl _), Nat.sub_self]; rfl
end
/-! ### the layer's rules -/
section
variable {X : Cx} {pins : List (Addr × Obj)} {σ : L2.St} {H : Hp} {s : Shared} {a b : Addr} {k : List Key} {xs : List (List Key × Addr × V)}
theorem key_is (I : Inv X pins σ H s) (h : SqT X.K H b (k.map kV)) : (tupleKind (mixKind X.prog X.w)).is s.heap k b := by
  obtain ⟨its, r, ⟨o, ho, hc, n, hd⟩, _⟩ := I.tuple h
  exact ⟨o, its.toArray, n, ho, hc, hd, items_are r⟩
theorem VT.look {ys : List (List Key × Addr × Value)} (k : List Key) (h : VT xs ys) : RelO (lookT xs k) ((atKey ys k).map (·.2)) := by
  unfold VT at h
  induction h with
  | nil => exact trivial
  | @cons p q ps qs r t ih =>
    unfold lookT atKey
    rw [List.find?_cons, List.find?_cons, ← r.1]
    by_cases e : p.1 = k
    · simp only [e, decide_true, Option.map_some]; exact r.2.2
    · simp only [e, decide_false]; exact ih
theorem VT.any {ys : List (List Key × Addr × Value)} (k : List Key) (h : VT xs ys) : (xs.any fun p => decide (p.1 = k)) = (atKey ys k).isSome := by
  unfold VT at h
  induction h with
  | nil => rfl
  | @cons p q ps qs r t ih =>
    unfold atKey
    rw [List.any_cons, List.find?_cons, ← r.1]
    by_cases e : p.1 = k
    · simp [e]
    · simp only [e, decide_false, Bool.false_or]; exact ih
theorem VT.stor {ys : List (List Key × Addr × Value)} (k : List Key) {b : Addr} {x : V} {u : Value} (rx : RelV x u) (h : VT xs ys) : VT (storT xs k b x) (storedH ys k b u) := by
  unfold storT storedH
  rw [h.any k]
  split
  · rename_i hh
    clear hh
    unfold VT at h ⊢
    induction h with
    | nil => exact .nil
    | @cons p q ps qs r t ih =>
      rw [List.map_cons, List.map_cons]
      refine .cons ?_ ih
      unfold putAt
      rw [← r.1]
      by_cases e : p.1 = k
      · rw [if_pos e, if_pos e]; exact ⟨rfl, r.2.1, rx⟩
      · rw [if_neg e, if_neg e]; exact r
  · rename_i hh
    clear hh
    unfold VT at h ⊢
    induction h with
    | nil => exact .cons ⟨rfl, rfl, rx⟩ .nil
    | cons r t ih => exact .cons r ih
theorem VT.length {ys : List (List Key × Addr × Value)} (h : VT xs ys) : xs.length = ys.length := Paired.length h
theorem storT_le (k : List Key) (b : Addr) (x : V) : (storT xs k b x).length ≤ xs.length + 1 := by
  unfold storT
  split
  · rw [List.length_map]; omega
  · rw [List.length_append]; simp
theorem VT.is (I : Inv X pins σ H s) : ∀ {xs : List (List Key × Addr × V)} {ys : List (List Key × Addr × Value)}, VT xs ys → (∀ p ∈ xs, SqT X.K H p.2.1 (p.1.map kV)) → ∀ q ∈ ys, (tupleKind (mixKind X.prog X.w)).is s.heap q.1 q.2.1
  | _, _, .nil, _, q, hq => by cases hq
  | _, _, .cons r t, h, q, hq => by
    rcases List.mem_cons.mp hq with rfl | hq
    · rw [← r.1, ← r.2.1]; exact key_is I (h _ List.mem_cons_self)
    · exact VT.is I t (fun p hp => h p (List.mem_cons_of_mem _ hp)) q hq
theorem dtx_at (I : Inv X pins σ H s) (h : H a = some (dtx X.prog X.w a xs)) (hk : ∀ p ∈ xs, SqT X.K H p.2.1 (p.1.map kV)) : xs.length ≤ sizeLine ∧ (a == sysModules) = false ∧ ∃ ys, VT xs ys ∧ s.heap.DictOfH (tupleKind (mixKind X.prog X.w)) a ys := by
  obtain ⟨⟨z, hd, ys, r, o, es, ep, h1, h2, h3, h4, h5⟩, _⟩ := I.hok a _ h
  exact ⟨z, hd, ys, r, o, es, ep, h1, h2, h3, h4, VT.is I r hk, h5⟩
theorem dtx_new {P : Program} {w : World} {H : Hp} {h : Heap} {ys : List (List Key × Addr × Value)} (z : xs.length ≤ sizeLine) (hd : (a == sysModules) = false) (r : VT xs ys) (d : h.DictOfH (tupleKind (mixKind P w)) a ys) : ObjOk P w H h a (dtx P w a xs) := by
  obtain ⟨o, es, ep, h1, h2, h3, h4, _, h5⟩ := d
  refine ⟨⟨z, hd, ys, r, o, es, ep, h1, h2, h3, h4, h5⟩, ⟨o, h1⟩, fun g1 g2 ⟨z, hd, ys, r, o, es, ep, q1, q2⟩ st => ⟨z, hd, ys, r, o, es, ep, st _ q1, q2⟩⟩
/-- d[y], there -/
theorem dg_getItem {A : Around} {E : Value → Shared → Prop} {y v : V} {u : Value} {Q : Value → Shared → Prop} (hu : A.units + 1 < cLine) (I : Inv X pins σ H s) (g : DG X.prog X.w X.K H a y (some v)) (ry : RelV y u) (h : ∀ w' s', Inv X pins σ H s' → RelV v w' → Q w' s') :
    wpAny (model X.prog X.w) A (getItem (.ref a) u) Q E s := by
  rcases g with g | ⟨xs, k, b, e, hk, rfl, eb, l⟩
  · exact d_getItem hu I g ry h
  · cases (show u = Value.ref b from ry)
    obtain ⟨z, hd, ys, rel, dd⟩ := dtx_at I e hk
    obtain ⟨w', hw, rw'⟩ := RelO.some_of (v := v) (o := (atKey ys k).map (·.2)) (by rw [l]; exact rel.look k)
    obtain ⟨p, hp, hp2⟩ := Option.map_eq_some_iff.mp hw
    refine wpAny_getItem_heap (tupleKind_room_in1 hu) (key_is I eb) dd hp ?_
    rw [hp2]
    exact h w' _ (I.tok _) rw'
theorem dg_type {y : V} {o : Option V} (I : Inv X pins σ H s) (g : DG X.prog X.w X.K H a y o) : s.TypeIs (.ref a) "dict" := by
  rcases g with g | ⟨xs, k, b, e, hk, rfl, eb, l⟩
  · exact dict_typeIs I g
  · obtain ⟨_, _, ys, _, dd⟩ := dtx_at I e hk
    exact dd.typeIs
def rDGetV (P : Program) (w : World) (K : PySem.W.Frag) : R2 := fun x y H Q => ∃ a v, x = .ref a ∧ DG P w K H a y (some v) ∧ Q v H
theorem ix_dct (hu : X.A.units + 1 < cLine) : IxR X (rDGetV X.prog X.w X.K) := by
  rintro value slice pins s σ H x y v u Q I rx ry ⟨a, w, rfl, g, q⟩ hs
  obtain rfl : v = Value.ref a := rx
  have hT := dg_type I g
  unfold subscriptTail
  refine wpAny_bind ?_
  rw [getitemInPython_of_ne hT.not_modules]
  refine wpAny_bind (wpAny_specialOf hT PySem.F.slot_dict_getitem.lookup ?_)
  have fin : wpAny (model X.prog X.w) X.A (subscripted slice false (.ref a) u) (fun r s₃ => wpAny (model X.prog X.w) X.A (letTemporaryGo value (.ref a) r >>= fun _ => pure r) (EP X pins σ Q) X.xe s₃) X.xe s := by
    rw [hs]
    exact wpAny_operating (dg_getItem hu I g ry fun w' s3 I3 rw' => wpAny_bind (wpAny_letTemporaryGo (wpAny_pure ⟨w, H, I3, rw', q⟩)))
  first
    | exact wpAny_pure (wpAny_bind fin)
    | exact wpAny_bind (wpAny_pure (wpAny_bind fin))
    | exact wpAny_bind fin
def rDIn (P : Program) (w : World) (K : PySem.W.Frag) (neg : Bool) : R2 := fun x y H Q => ∃ a o, y = .ref a ∧ DG P w K H a x o ∧ Q (.bl (if neg then !o.isSome else o.isSome)) H
theorem op_dIn (hu : X.A.units + 1 < cLine) : OpR X (compareOp .In) (rDIn X.prog X.w X.K false) := by
  rintro pins s σ H x y v u Q I rx ry ⟨a, o, rfl, g, q⟩
  obtain rfl : u = Value.ref a := ry
  rcases g with g | ⟨xs, k, b, e, hk, rfl, eb, l⟩
  · exact d_in hu I g rx fun s' I' => ⟨.bl o.isSome, H, I', rfl, q⟩
  · cases (show v = Value.ref b from rx)
    obtain ⟨z, hd, ys, rel, dd⟩ := dtx_at I e hk
    refine wpAny_in_heap (tupleKind_room_in1 hu) (key_is I eb) hd dd ?_
    have q2 := (rel.look k).isSome_eq
    rw [Option.isSome_map] at q2
    rw [← q2, ← l]
    exact ⟨.bl o.isSome, H, I.tok _, rfl, q⟩
theorem op_dNotIn (hu : X.A.units + 1 < cLine) : OpR X (compareOp .NotIn) (rDIn X.prog X.w X.K true) := by
  rintro pins s σ H x y v u Q I rx ry ⟨a, o, rfl, g, q⟩
  obtain rfl : u = Value.ref a := ry
  rcases g with g | ⟨xs, k, b, e, hk, rfl, eb, l⟩
  · exact d_notIn hu I g rx fun s' I' => ⟨.bl (!o.isSome), H, I', rfl, q⟩
  · cases (show v = Value.ref b from rx)
    obtain ⟨z, hd, ys, rel, dd⟩ := dtx_at I e hk
    refine wpAny_notIn_heap (tupleKind_room_in1 hu) (key_is I eb) hd dd ?_
    have q2 := (rel.look k).isSome_eq
    rw [Option.isSome_map] at q2
    rw [← q2, ← l]
    exact ⟨.bl (!o.isSome), H, I.tok _, rfl, q⟩
/-- d[y] = v -/
theorem dp_setItem {A : Around} {E : Value → Shared → Prop} {y v : V} {u r : Value} {H' : Hp} {Q : Unit → Shared → Prop} (hu : A.units + 1 < cLine) (I : Inv X pins σ H s) (g : DP X.prog X.w X.K H a y v H') (ry : RelV y u) (rv : RelV v r) (h : ∀ s', Inv X pins σ H' s' → Q () s') :
    wpAny (model X.prog X.w) A (setItem (.ref a) u r) Q E s := by
  rcases g with g | ⟨xs, k, b, e, hk, rfl, eb, l, rfl⟩
  · exact d_setItem hu I g ry rv h
  · cases (show u = Value.ref b from ry)
    obtain ⟨z, hd, ys, rel, dd⟩ := dtx_at I e hk
    have hz : ys.length ≤ sizeLine := by rw [← rel.length]; exact z
    have hl : (storT xs k b v).length ≤ sizeLine := by have := storT_le (xs := xs) k b v; omega
    refine wpAny_setItem_heap (hsz := hz) (tupleKind_room_in1 hu) (key_is I eb) dd fun h' dd' hs => h _ ?_
    have he : ∃ q, h'.get? a = some q := let ⟨q, _, _, hq, _⟩ := dd'; ⟨q, hq⟩
    exact d_write I (by rw [e]; exact True.intro) hs he (dtx_new hl hd (rel.stor k rv) dd')
end
end Ip

set_option linter.all false
set_option Elab.async false
set_option autoImplicit false
/-! The rules of the layer, as the evaluator has them: expressions. -/
namespace Ip
open PySem L2

section
variable {X : Cx} {G : Gb} {E : XK} {W : WX} {pos : Pos}

theorem ip_lit {x : D} {v : V} {e : Expr} (h : PE X e (tC v)) (sc : scalV x = some v) : PE X e (tE G W fun _ h => .ok (.d x) h) := by
  refine h.imp fun τ H Q ⟨Av, s, σ, hH, rp, sr, p⟩ => ?_
  subst hH
  exact p.fin rp (.d (scal_dr sc))
theorem ip_var {i : Nat} {e : Expr} (h : PE X e (tVar i)) : PE X e (tE G W fun σ h => match σ[i]? with | some (some v) => .ok v h | _ => .no) := by
  refine h.imp fun τ H Q ⟨Av, s, σ, hH, rp, sr, p⟩ => ?_
  subst hH
  revert p
  show Post G _ Av s _ (match σ[i]? with | some (some v) => R.ok v s.h | _ => .no) Q → _
  cases e1 : σ[i]? with
  | none => exact fun p => p.elim
  | some o =>
    cases o with
    | none => exact fun p => p.elim
    | some v =>
      intro p
      obtain ⟨x, e2, q⟩ := sr.at_ i v e1
      exact ⟨x, e2, p.fin rp q⟩
/-- a name of the text that holds a def -/
theorem ip_fnv {f : Nat} {a : Addr} {e : Expr} (h : PE X e (tC (.ref a))) (ha : G.fa[f]? = some a) : PE X e (tE G W fun _ h => .ok (.fn f) h) := by
  refine h.imp fun τ H Q ⟨Av, s, σ, hH, rp, sr, p⟩ => ?_
  subst hH
  exact p.fin rp (.fn ha)

/-- two parts, then an operation on their values -/
theorem post2 {Av : Addr → Prop} {s : S3} {o : Bop} {x y : Val} {v u : V} {Q : VK} (rp : RepH G Av s) (qx : VR G Av s x v) (qy : VR G Av s y u) (p : Post G E Av s (fun v y s' => VR G Av s' v y) (binV o x y s.h) Q) : rBin G o v u s.H Q := by
  unfold binV at p
  split at p
  · rename_i a b e1 e2
    split at p
    · rename_i c e3
      obtain ⟨w, sc⟩ := binD_scal e3
      exact ⟨a, b, c, w, (pk_dr rp qx e1).dp, (pk_dr rp qy e2).dp, e3, sc, p.fin rp (.d (scal_dr sc))⟩
    · exact p.elim
  · exact p.elim
theorem ip_bin {a b : Expr} {ma mb : Sg → Hq → R Val} (o : Bop) (ha : PE X a (tE G W ma)) (hb : PE X b (tE G W mb)) :
    PE X (.BinOp a (opOf o) b pos) (tE G W fun σ h => (ma σ h).bind fun x h1 => (mb σ h1).bind fun y h2 => binV o x y h2) := by
  refine (pe_op (op_bin (G := G) o) ha hb).imp fun τ H Q ⟨Av, s, σ, hH, rp, sr, p⟩ => ?_
  subst hH
  refine tE_bind rp sr p fun v y s1 rp1 st1 sr1 q1 p1 => ?_
  refine tE_bind rp1 sr1 p1 fun w z s2 rp2 st2 sr2 q2 p2 => ?_
  exact post2 rp2 (st2.vr rp2.nd q1) q2 p2
theorem ip_neg {a : Expr} {ma : Sg → Hq → R Val} (ha : PE X a (tE G W ma)) :
    PE X (.UnaryOp .USub a pos) (tE G W fun σ h => (ma σ h).bind fun x h1 => match intV x with | some i => .ok (.d (.int (-i))) h1 | none => .no) := by
  refine (pe_un un_neg ha).imp fun τ H Q ⟨Av, s, σ, hH, rp, sr, p⟩ => ?_
  subst hH
  refine tE_bind rp sr p fun v y s1 rp1 st1 sr1 q1 p1 => ?_
  cases v with
  | ref n => exact p1.elim
  | fn f => exact p1.elim
  | d x =>
    cases x with
    | int i =>
      cases q1 with
      | d q =>
        cases q
        exact ⟨i, rfl, p1.fin rp1 (.d (.int _))⟩
    | none => exact p1.elim
    | bool b => exact p1.elim
    | str b => exact p1.elim
    | list b => exact p1.elim
    | tuple b => exact p1.elim
    | dict b => exact p1.elim

/-! ### comparisons -/
def copOf : Cop → CmpOp
  | .eq => .Eq
  | .ne => .NotEq
  | .lt => .Lt
  | .le => .LtE
  | .gt => .Gt
  | .ge => .GtE
  | .isN => .Is
  | .notN => .IsNot
  | .inn => .In
  | .nin => .NotIn
/-- what is fixed is this def's -/
def GX (G : Gb) (X : Cx) : Prop := G.K = X.K ∧ G.P = X.prog ∧ G.w = X.w
def rCmp (G : Gb) (o : Cop) : R2 := fun x y H Q => (∃ a b c, Dp G.K H x a ∧ Dp G.K H y b ∧ cmpD o a b = some c ∧ Q (.bl c) H) ∨ (o = .inn ∧ rDIn G.P G.w G.K false x y H Q) ∨ (o = .nin ∧ rDIn G.P G.w G.K true x y H Q)
theorem op_inT (hu : X.A.units + 65 < cLine) : OpR X (compareOp .In) (fun x y H Q => ∃ d ds, Dp X.K H x d ∧ Dp X.K H y (.tuple ds) ∧ SeqAt.shaped d = true ∧ SeqAt.shaped (.tuple ds) = true ∧ Q (.bl (ds.any fun z => PyData.eqv z d)) H) := by
  rintro pins s σ H x y v u Q I rx ry ⟨d, ds, hd, he, sd, se, q⟩
  obtain ⟨as, r1⟩ := Dp.reads I d x v hd rx
  obtain ⟨bs, r2⟩ := Dp.reads I (.tuple ds) y u he ry
  exact SeqAt.in_tuple_reads r2 r1 (SeqAt.canLay_of_shaped se) (SeqAt.canLay_of_shaped sd) (PyProof.Rows.room_in_shaped sd hu) ⟨.bl _, H, I, rfl, q⟩
theorem op_notInT (hu : X.A.units + 65 < cLine) : OpR X (compareOp .NotIn) (fun x y H Q => ∃ d ds, Dp X.K H x d ∧ Dp X.K H y (.tuple ds) ∧ SeqAt.shaped d = true ∧ SeqAt.shaped (.tuple ds) = true ∧ Q (.bl (!ds.any fun z => PyData.eqv z d)) H) := by
  rintro pins s σ H x y v u Q I rx ry ⟨d, ds, hd, he, sd, se, q⟩
  obtain ⟨as, r1⟩ := Dp.reads I d x v hd rx
  obtain ⟨bs, r2⟩ := Dp.reads I (.tuple ds) y u he ry
  exact SeqAt.notIn_tuple_reads r2 r1 (SeqAt.canLay_of_shaped se) (SeqAt.canLay_of_shaped sd) (PyProof.Rows.room_in_shaped sd hu) ⟨.bl _, H, I, rfl, q⟩
theorem op_cmp (o : Cop) (hK : GX G X) (hu : X.A.units + 100 < cLine) : OpR X (compareOp (copOf o)) (rCmp G o) := by
  rintro pins s σ H x y v u Q I rx ry (⟨a, b, c, da, db, e, q⟩ | ⟨rfl, h⟩ | ⟨rfl, h⟩)
  case inr.inl => rw [hK.1, hK.2.1, hK.2.2] at h; exact op_dIn (by omega) pins s σ H x y v u Q I rx ry h
  case inr.inr => rw [hK.1, hK.2.1, hK.2.2] at h; exact op_dNotIn (by omega) pins s σ H x y v u Q I rx ry h
  rw [hK.1] at da db
  unfold cmpD at e
  split at e
  · cases e; cases dp_int da; cases dp_int db
    exact op_eq pins s σ H _ _ v u Q I rx ry ⟨rfl, by simpa using q⟩
  · cases e; cases dp_int da; cases dp_int db
    exact op_ne pins s σ H _ _ v u Q I rx ry ⟨rfl, by simpa using q⟩
  · cases e; cases dp_str da; cases dp_str db
    exact op_eq pins s σ H _ _ v u Q I rx ry ⟨rfl, by simpa using q⟩
  · cases e; cases dp_str da; cases dp_str db
    exact op_ne pins s σ H _ _ v u Q I rx ry ⟨rfl, by simpa using q⟩
  · split at e
    · rename_i hs
      rw [Bool.and_eq_true] at hs
      cases e
      exact op_eqD (by omega) pins s σ H _ _ v u Q I rx ry ⟨_, _, da, db, hs.1, hs.2, q⟩
    · cases e
  · split at e
    · rename_i hs
      rw [Bool.and_eq_true] at hs
      cases e
      exact op_neD (by omega) pins s σ H _ _ v u Q I rx ry ⟨_, _, da, db, hs.1, hs.2, q⟩
    · cases e
  · cases e; cases dp_int da; cases dp_int db
    exact op_lt pins s σ H _ _ v u Q I rx ry ⟨_, _, rfl, rfl, q⟩
  · cases e; cases dp_int da; cases dp_int db
    exact op_le pins s σ H _ _ v u Q I rx ry ⟨_, _, rfl, rfl, q⟩
  · cases e; cases dp_int da; cases dp_int db
    exact op_gt pins s σ H _ _ v u Q I rx ry ⟨_, _, rfl, rfl, q⟩
  · cases e; cases dp_int da; cases dp_int db
    exact op_ge pins s σ H _ _ v u Q I rx ry ⟨_, _, rfl, rfl, q⟩
  · cases e; cases dp_non db
    refine op_isN pins s σ H _ _ v u Q I rx ry ⟨rfl, ?_⟩
    cases da <;> exact q
  · cases e; cases dp_non db
    refine op_notN pins s σ H _ _ v u Q I rx ry ⟨rfl, ?_⟩
    cases da <;> exact q
  · split at e
    · rename_i hs
      rw [Bool.and_eq_true] at hs
      cases e
      exact op_inD (by omega) pins s σ H _ _ v u Q I rx ry ⟨_, _, da, db, hs.1, hs.2, q⟩
    · cases e
  · split at e
    · rename_i hs
      rw [Bool.and_eq_true] at hs
      cases e
      exact op_notInD (by omega) pins s σ H _ _ v u Q I rx ry ⟨_, _, da, db, hs.1, hs.2, q⟩
    · cases e
  · split at e
    · rename_i hs
      rw [Bool.and_eq_true] at hs
      cases e
      exact op_inT (by omega) pins s σ H _ _ v u Q I rx ry ⟨_, _, da, db, hs.1, hs.2, q⟩
    · cases e
  · split at e
    · rename_i hs
      rw [Bool.and_eq_true] at hs
      cases e
      exact op_notInT (by omega) pins s σ H _ _ v u Q I rx ry ⟨_, _, da, db, hs.1, hs.2, q⟩
    · cases e
  · cases e
theorem postC {Av : Addr → Prop} {s : S3} {o : Cop} {x y : Val} {v u : V} {γ δ : Type} {Rm : γ → δ → S3 → Prop} {f : Bool → Hq → R γ} {Q : δ → Hp → Prop} {Q' : VK} (rp : RepH G Av s) (qx : VR G Av s x v) (qy : VR G Av s y u) (p : Post G E Av s Rm ((cmpV o x y s.h).bind f) Q)
    (h : ∀ c, Post G E Av s Rm (f c s.h) Q → Q' (.bl c) s.H) : rCmp G o v u s.H Q' := by
  unfold cmpV at p
  split at p
  · rename_i c e0
    obtain ⟨n, a, ob, rfl, rfl, hn, hl, hH, cr⟩ := dct_ok rp qy e0
    split at p
    · unfold dinV at p
      cases eg : c.get x with
      | none => rw [eg] at p; exact p.elim
      | some ov =>
        rw [eg] at p
        obtain ⟨oz, g, rel⟩ := dget_ok hH cr qx eg
        refine .inr (.inl ⟨rfl, a, oz, rfl, g, ?_⟩)
        have e : oz.isSome = ov.isSome := by rcases rel with ⟨rfl, rfl⟩ | ⟨_, _, rfl, rfl, _⟩ <;> rfl
        show Q' (.bl oz.isSome) s.H
        rw [e]; exact h _ p
    · unfold dinV at p
      cases eg : c.get x with
      | none => rw [eg] at p; exact p.elim
      | some ov =>
        rw [eg] at p
        obtain ⟨oz, g, rel⟩ := dget_ok hH cr qx eg
        refine .inr (.inr ⟨rfl, a, oz, rfl, g, ?_⟩)
        have e : oz.isSome = ov.isSome := by rcases rel with ⟨rfl, rfl⟩ | ⟨_, _, rfl, rfl, _⟩ <;> rfl
        show Q' (.bl (!oz.isSome)) s.H
        rw [e]; exact h _ p
    · exact p.elim
  unfold cmpW at p
  split at p
  · rename_i a b e1 e2
    split at p
    · rename_i c e3
      exact .inl ⟨a, b, c, (pk_dr rp qx e1).dp, (pk_dr rp qy e2).dp, e3, h c p⟩
    · exact p.elim
  · exact p.elim
theorem ip_cmp {a b : Expr} {ma mb : Sg → Hq → R Val} (o : Cop) (hK : GX G X) (hu : X.A.units + 100 < cLine) (ha : PE X a (tE G W ma)) (hb : PE X b (tE G W mb)) (hm : behindInMarks (copOf o) b = false) :
    PE X (.Compare a [copOf o] [b] pos) (tE G W fun σ h => (ma σ h).bind fun x h1 => (mb σ h1).bind fun y h2 => (cmpV o x y h2).bind fun c h3 => .ok (.d (.bool c)) h3) := by
  refine (pe_cmpR (op_cmp (G := G) o hK hu) ha hb hm).imp fun τ H Q ⟨Av, s, σ, hH, rp, sr, p⟩ => ?_
  subst hH
  refine tE_bind rp sr p fun v y s1 rp1 st1 sr1 q1 p1 => ?_
  refine tE_bind rp1 sr1 p1 fun w z s2 rp2 st2 sr2 q2 p2 => ?_
  exact postC rp2 (st2.vr rp2.nd q1) q2 p2 fun c p3 => p3.fin rp2 (.d (.bl c))
theorem ip_cmpT {a b : Expr} {ma mb : Sg → Hq → R Val} (o : Cop) (hK : GX G X) (hu : X.A.units + 100 < cLine) (ha : PE X a (tE G W ma)) (hb : PE X b (tE G W mb)) (hm : behindInMarks (copOf o) b = false) :
    PT X (.Compare a [copOf o] [b] pos) (tT G W fun σ h => (ma σ h).bind fun x h1 => (mb σ h1).bind fun y h2 => cmpV o x y h2) := by
  refine (pt_cmpR (op_cmp (G := G) o hK hu) ha hb hm).imp fun τ H Q ⟨Av, s, σ, hH, rp, sr, p⟩ => ?_
  subst hH
  refine tE_bind rp sr p fun v y s1 rp1 st1 sr1 q1 p1 => ?_
  refine tE_bind rp1 sr1 p1 fun w z s2 rp2 st2 sr2 q2 p2 => ?_
  have p3 : Post G (We W τ) Av s2 (fun v y _ => v = y) ((cmpV o v w s2.h).bind fun c h => R.ok c h) Q := by
    revert p2
    cases cmpV o v w s2.h <;> exact fun p => p
  exact postC rp2 (st2.vr rp2.nd q1) q2 p3 fun c p4 => ⟨c, rfl, p4.fin rp2 rfl⟩
theorem ip_chn {a b c : Expr} {ma mb mc : Sg → Hq → R Val} (o o' : Cop) (hK : GX G X) (hu : X.A.units + 100 < cLine) (ha : PE X a (tE G W ma)) (hb : PE X b (tE G W mb)) (hc : PE X c (tE G W mc)) (hm : behindInMarks (copOf o') c = false) :
    PE X (.Compare a [copOf o, copOf o'] [b, c] pos) (tE G W fun σ h => (ma σ h).bind fun x h1 => (mb σ h1).bind fun y h2 => (cmpV o x y h2).bind fun k h3 =>
      if k then (mc σ h3).bind fun z h4 => (cmpV o' y z h4).bind fun k' h5 => .ok (.d (.bool k')) h5 else .ok (.d (.bool false)) h3) := by
  refine (pe_chain (op_cmp (G := G) o hK hu) (op_cmp (G := G) o' hK hu) ha hb hc hm).imp fun τ H Q ⟨Av, s, σ, hH, rp, sr, p⟩ => ?_
  subst hH
  refine tE_bind rp sr p fun v y s1 rp1 st1 sr1 q1 p1 => ?_
  refine tE_bind rp1 sr1 p1 fun w z s2 rp2 st2 sr2 q2 p2 => ?_
  refine postC rp2 (st2.vr rp2.nd q1) q2 p2 fun k p3 => ⟨k, rfl, ?_⟩
  cases k with
  | false => exact p3.fin rp2 (.d (.bl false))
  | true =>
    refine tE_bind rp2 sr2 p3 fun x3 y3 s3 rp3 st3 sr3 q3 p4 => ?_
    exact postC rp3 (st3.vr rp3.nd q2) q3 p4 fun c p5 => p5.fin rp3 (.d (.bl c))
end
end Ip

set_option linter.all false
set_option Elab.async false
set_option autoImplicit false
/-! The rules of the layer, as the evaluator has them: tests, displays, subscripts, built-ins. -/
namespace Ip
open PySem L2

section
variable {X : Cx} {G : Gb} {E : XK} {W : WX} {pos : Pos}

/-! ### truth -/
theorem truV_of {H : Hp} {B : Addr → Prop} {x : D} {v : V} {k : Bool} (hK : G.K = X.K) (d : DR G.K H B v x) (e : truthD x = some k) : TruV X.K v H k := by
  cases d with
  | non => cases e; rfl
  | bl b => cases e; rfl
  | int i => cases e; rfl
  | str y =>
    unfold truthD at e
    simp only at e
    split at e
    · rename_i hf
      cases e
      refine ⟨fits_line hf, ?_⟩
      cases hy : y.length with
      | zero => rfl
      | succ n =>
        show (Nat.succ n != 0) = ((((n + 1 : Nat) : Int)) != 0)
        have h1 : (Nat.succ n != 0) = true := by simp
        have h2 : ((((n + 1 : Nat) : Int)) != 0) = true := by simp; omega
        rw [h1, h2]
    · cases e
  | lst h t =>
    cases e
    refine .inl ⟨_, hK ▸ sql_of h, ?_⟩
    cases t <;> rfl
  | tup h t =>
    cases e
    refine .inr (.inl ⟨_, hK ▸ h, ?_⟩)
    cases t <;> rfl
/-- behind a look at a value's truth -/
theorem postT {Av : Addr → Prop} {s : S3} {x : Val} {v : V} {γ δ : Type} {Rm : γ → δ → S3 → Prop} {f : Bool → Hq → R γ} {Q : δ → Hp → Prop} (hK : G.K = X.K) (rp : RepH G Av s) (qx : VR G Av s x v) (p : Post G E Av s Rm ((tru x s.h).bind f) Q) :
    ∃ k, TruV X.K v s.H k ∧ Post G E Av s Rm (f k s.h) Q := by
  unfold tru at p
  split at p
  · rename_i a e1
    cases e2 : truthD a with
    | none => rw [e2] at p; exact p.elim
    | some k =>
      rw [e2] at p
      exact ⟨k, truV_of hK (pk_dr rp qx e1) e2, p⟩
  · exact p.elim
/-- a test by its value -/
theorem R.bind_id {α : Type} (r : R α) : (r.bind fun a h => R.ok a h) = r := by cases r <;> rfl
theorem ip_tst {a : Expr} {ma : Sg → Hq → R Val} (hK : G.K = X.K) (ha : PE X a (tE G W ma)) (he : ∀ whole, isTrue a X.env whole = (do let v ← whole; standAt a.pos; holding [v] (truthy v))) : PT X a (tT G W (tst ma)) := by
  refine (pt_truth ha he).imp fun τ H Q ⟨Av, s, σ, hH, rp, sr, p⟩ => ?_
  subst hH
  refine tE_bind rp sr p fun v y s1 rp1 st1 sr1 q1 p1 => ?_
  have p2 : Post G (We W τ) Av s1 (fun v y _ => v = y) ((tru v s1.h).bind fun k h => R.ok k h) Q := by rw [R.bind_id]; exact p1
  obtain ⟨k, t, p3⟩ := postT hK rp1 q1 p2
  exact ⟨k, t, p3.fin rp1 rfl⟩
/-- a test's word for another one -/
theorem _root_.L2.PT.cong {a : Expr} {m m' : Sg → Hq → R Bool} (h : PT X a (tT G W m)) (e : ∀ σ h, m σ h = m' σ h) : PT X a (tT G W m') := by
  have : m = m' := by funext σ h; exact e σ h
  rw [← this]; exact h
theorem _root_.L2.PW.cong {a : Expr} {m m' : Sg → Hq → R Bool} (h : PW X a (tT G W m)) (e : ∀ σ h, m σ h = m' σ h) : PW X a (tT G W m') := by
  have : m = m' := by funext σ h; exact e σ h
  rw [← this]; exact h
theorem _root_.L2.PE.cong {a : Expr} {m m' : Sg → Hq → R Val} (h : PE X a (tE G W m)) (e : ∀ σ h, m σ h = m' σ h) : PE X a (tE G W m') := by
  have : m = m' := by funext σ h; exact e σ h
  rw [← this]; exact h
theorem tru_bl (c : Bool) (h : Hq) : tru (.d (.bool c)) h = .ok c h := rfl
theorem ip_cmpT' {a b : Expr} {ma mb : Sg → Hq → R Val} (o : Cop) (hK : GX G X) (hu : X.A.units + 100 < cLine) (ha : PE X a (tE G W ma)) (hb : PE X b (tE G W mb)) (hm : behindInMarks (copOf o) b = false) :
    PT X (.Compare a [copOf o] [b] pos) (tT G W (tst fun σ h => (ma σ h).bind fun x h1 => (mb σ h1).bind fun y h2 => (cmpV o x y h2).bind fun c h3 => .ok (.d (.bool c)) h3)) := by
  refine (ip_cmpT (pos := pos) o hK hu ha hb hm).cong fun σ h => ?_
  simp only [tst, R.bind_assoc, R.bind_ok, tru_bl, R.bind_id]
theorem ip_chnT {a b c : Expr} {ma mb mc : Sg → Hq → R Val} (o o' : Cop) (hK : GX G X) (hu : X.A.units + 100 < cLine) (ha : PE X a (tE G W ma)) (hb : PE X b (tE G W mb)) (hc : PE X c (tE G W mc)) (hm : behindInMarks (copOf o') c = false) :
    PT X (.Compare a [copOf o, copOf o'] [b, c] pos) (tT G W (tst fun σ h => (ma σ h).bind fun x h1 => (mb σ h1).bind fun y h2 => (cmpV o x y h2).bind fun k h3 =>
      if k then (mc σ h3).bind fun z h4 => (cmpV o' y z h4).bind fun k' h5 => .ok (.d (.bool k')) h5 else .ok (.d (.bool false)) h3)) := by
  refine (pt_chain (op_cmp (G := G) o hK hu) (op_cmp (G := G) o' hK hu) ha hb hc hm).imp fun τ H Q ⟨Av, s, σ, hH, rp, sr, p⟩ => ?_
  subst hH
  simp only [tst, R.bind_assoc] at p
  refine tE_bind rp sr p fun v y s1 rp1 st1 sr1 q1 p1 => ?_
  refine tE_bind rp1 sr1 p1 fun w z s2 rp2 st2 sr2 q2 p2 => ?_
  refine postC rp2 (st2.vr rp2.nd q1) q2 p2 fun k p3 => ⟨k, rfl, ?_⟩
  cases k with
  | false =>
    simp only [Bool.false_eq_true, if_false, R.bind_ok, tru_bl] at p3
    exact ⟨false, rfl, p3.fin rp2 rfl⟩
  | true =>
    simp only [if_true, R.bind_assoc, R.bind_ok, tru_bl] at p3
    refine tE_bind rp2 sr2 p3 fun x3 y3 s3 rp3 st3 sr3 q3 p4 => ?_
    exact postC rp3 (st3.vr rp3.nd q2) q3 p4 fun c p5 => ⟨c, rfl, p5.fin rp3 rfl⟩

/-! ### not, and, or -/
theorem ip_not {a : Expr} {ma : Sg → Hq → R Val} (hK : G.K = X.K) (ha : PE X a (tE G W ma)) : PE X (.UnaryOp .Not a pos) (tE G W fun σ h => (ma σ h).bind fun x h1 => (tru x h1).bind fun k h2 => .ok (.d (.bool (!k))) h2) := by
  refine (pe_notT ha).imp fun τ H Q ⟨Av, s, σ, hH, rp, sr, p⟩ => ?_
  subst hH
  refine tE_bind rp sr p fun v y s1 rp1 st1 sr1 q1 p1 => ?_
  obtain ⟨k, t, p2⟩ := postT hK rp1 q1 p1
  exact ⟨k, t, p2.fin rp1 (.d (.bl _))⟩
theorem ip_notT {a : Expr} {ma : Sg → Hq → R Val} (ha : PT X a (tT G W (tst ma))) : PT X (.UnaryOp .Not a pos) (tT G W (tst fun σ h => (ma σ h).bind fun x h1 => (tru x h1).bind fun k h2 => .ok (.d (.bool (!k))) h2)) := by
  refine (pt_not ha).imp fun τ H Q ⟨Av, s, σ, hH, rp, sr, p⟩ => ?_
  subst hH
  have p' : Post G (We W τ) Av s (fun v y _ => v = y) (((tst ma) σ s.h).bind fun k h => R.ok (!k) h) Q := by
    have e : ((tst ma) σ s.h).bind (fun k h => R.ok (!k) h) = (tst fun σ h => (ma σ h).bind fun x h1 => (tru x h1).bind fun k h2 => .ok (.d (.bool (!k))) h2) σ s.h := by
      simp only [tst, R.bind_assoc, R.bind_ok, tru_bl]
    rw [e]; exact p
  exact tT_bind rp sr p' fun b s1 rp1 st1 sr1 p1 => p1.fin rp1 rfl
/-- truth asked again is the same -/
theorem tru_heap {v : Val} {h : Hq} {k : Bool} {h' : Hq} (e : tru v h = .ok k h') : h' = h := by
  unfold tru at e
  split at e
  · rename_i a _
    cases e2 : truthD a with
    | none => rw [e2] at e; cases e
    | some c => rw [e2] at e; cases e; rfl
  · cases e
theorem tru_again {γ : Type} (v : Val) (h : Hq) (f g : Bool → Hq → R γ) : ((tru v h).bind fun k h2 => if k then f k h2 else (tru v h2).bind g) = (tru v h).bind fun k h2 => if k then f k h2 else g false h2 := by
  cases e : tru v h with
  | er _ _ => rfl
  | no => rfl
  | ok k h2 =>
    have := tru_heap e
    subst this
    simp only [R.bind_ok]
    cases k with
    | true => rfl
    | false =>
      simp only [Bool.false_eq_true, if_false, e, R.bind_ok]
theorem tru_again' {γ : Type} (v : Val) (h : Hq) (f g : Bool → Hq → R γ) : ((tru v h).bind fun k h2 => if k then (tru v h2).bind g else f k h2) = (tru v h).bind fun k h2 => if k then g true h2 else f k h2 := by
  cases e : tru v h with
  | er _ _ => rfl
  | no => rfl
  | ok k h2 =>
    have := tru_heap e
    subst this
    simp only [R.bind_ok]
    cases k with
    | false => rfl
    | true =>
      simp only [if_true, e, R.bind_ok]
theorem ite_bind {α β : Type} (c : Bool) (r r' : R α) (f : α → Hq → R β) : (if c then r else r').bind f = if c then r.bind f else r'.bind f := by cases c <;> rfl
theorem ip_and {a b : Expr} {rest : List Expr} {ma mb : Sg → Hq → R Val} (hK : G.K = X.K) (ha : PE X a (tE G W ma)) (hb : PE X (.BoolOp .And (b :: rest) pos) (tE G W mb)) :
    PE X (.BoolOp .And (a :: b :: rest) pos) (tE G W fun σ h => (ma σ h).bind fun x h1 => (tru x h1).bind fun k h2 => if k then mb σ h2 else .ok x h2) := by
  refine (pe_andT ha hb).imp fun τ H Q ⟨Av, s, σ, hH, rp, sr, p⟩ => ?_
  subst hH
  refine tE_bind rp sr p fun v y s1 rp1 st1 sr1 q1 p1 => ?_
  obtain ⟨k, t, p2⟩ := postT hK rp1 q1 p1
  refine ⟨k, t, ?_⟩
  cases k with
  | true => exact ⟨Av, s1, σ, rfl, rp1, sr1, p2⟩
  | false => exact p2.fin rp1 q1
theorem ip_or {a b : Expr} {rest : List Expr} {ma mb : Sg → Hq → R Val} (hK : G.K = X.K) (ha : PE X a (tE G W ma)) (hb : PE X (.BoolOp .Or (b :: rest) pos) (tE G W mb)) :
    PE X (.BoolOp .Or (a :: b :: rest) pos) (tE G W fun σ h => (ma σ h).bind fun x h1 => (tru x h1).bind fun k h2 => if k then .ok x h2 else mb σ h2) := by
  refine (pe_orT ha hb).imp fun τ H Q ⟨Av, s, σ, hH, rp, sr, p⟩ => ?_
  subst hH
  refine tE_bind rp sr p fun v y s1 rp1 st1 sr1 q1 p1 => ?_
  obtain ⟨k, t, p2⟩ := postT hK rp1 q1 p1
  refine ⟨k, t, ?_⟩
  cases k with
  | false => exact ⟨Av, s1, σ, rfl, rp1, sr1, p2⟩
  | true => exact p2.fin rp1 q1
theorem ip_and1 {a : Expr} {ma : Sg → Hq → R Val} {o : BoolOp} (ha : PE X a (tE G W ma)) : PE X (.BoolOp o [a] pos) (tE G W ma) := pe_one ha
theorem ip_andT1 {a : Expr} {m : Sg → Hq → R Bool} (ha : PT X a (tT G W m)) : PW X (.BoolOp .And [a] pos) (tT G W m) := pw_and1 ha
theorem ip_orT1 {a : Expr} {m : Sg → Hq → R Bool} (ha : PT X a (tT G W m)) : PW X (.BoolOp .Or [a] pos) (tT G W m) := pw_or1 ha
theorem ip_andT {a b : Expr} {rest : List Expr} {ma mb : Sg → Hq → R Val} (ha : PT X a (tT G W (tst ma))) (hb : PW X (.BoolOp .And (b :: rest) pos) (tT G W (tst mb))) :
    PW X (.BoolOp .And (a :: b :: rest) pos) (tT G W (tst fun σ h => (ma σ h).bind fun x h1 => (tru x h1).bind fun k h2 => if k then mb σ h2 else .ok x h2)) := by
  refine (pw_and ha hb).imp fun τ H Q ⟨Av, s, σ, hH, rp, sr, p⟩ => ?_
  subst hH
  have p' : Post G (We W τ) Av s (fun v y _ => v = y) (((tst ma) σ s.h).bind fun k h => if k then (tst mb) σ h else .ok false h) Q := by
    have e : ((tst ma) σ s.h).bind (fun k h => if k then (tst mb) σ h else .ok false h) = (tst fun σ h => (ma σ h).bind fun x h1 => (tru x h1).bind fun k h2 => if k then mb σ h2 else .ok x h2) σ s.h := by
      simp only [tst, R.bind_assoc]
      congr 1
      funext x h1
      have e1 := tru_again x h1 (fun _ h2 => (mb σ h2).bind fun v h1 => tru v h1) (fun k h2 => .ok k h2)
      simp only [R.bind_id] at e1
      rw [← e1]
      congr 1
      funext k h2
      cases k <;> rfl
    rw [e]; exact p
  refine tT_bind rp sr p' fun b s1 rp1 st1 sr1 p1 => ?_
  cases b with
  | true => exact ⟨Av, s1, σ, rfl, rp1, sr1, p1⟩
  | false => exact p1.fin rp1 rfl
theorem ip_orT {a b : Expr} {rest : List Expr} {ma mb : Sg → Hq → R Val} (ha : PT X a (tT G W (tst ma))) (hb : PW X (.BoolOp .Or (b :: rest) pos) (tT G W (tst mb))) :
    PW X (.BoolOp .Or (a :: b :: rest) pos) (tT G W (tst fun σ h => (ma σ h).bind fun x h1 => (tru x h1).bind fun k h2 => if k then .ok x h2 else mb σ h2)) := by
  refine (pw_or ha hb).imp fun τ H Q ⟨Av, s, σ, hH, rp, sr, p⟩ => ?_
  subst hH
  have p' : Post G (We W τ) Av s (fun v y _ => v = y) (((tst ma) σ s.h).bind fun k h => if k then .ok true h else (tst mb) σ h) Q := by
    have e : ((tst ma) σ s.h).bind (fun k h => if k then .ok true h else (tst mb) σ h) = (tst fun σ h => (ma σ h).bind fun x h1 => (tru x h1).bind fun k h2 => if k then .ok x h2 else mb σ h2) σ s.h := by
      simp only [tst, R.bind_assoc]
      congr 1
      funext x h1
      have e1 := tru_again' x h1 (fun _ h2 => (mb σ h2).bind fun v h1 => tru v h1) (fun k h2 => .ok k h2)
      simp only [R.bind_id] at e1
      rw [← e1]
      congr 1
      funext k h2
      cases k <;> rfl
    rw [e]; exact p
  refine tT_bind rp sr p' fun b s1 rp1 st1 sr1 p1 => ?_
  cases b with
  | false => exact ⟨Av, s1, σ, rfl, rp1, sr1, p1⟩
  | true => exact p1.fin rp1 rfl
/-! ### a if t else b -/
theorem ip_ife {c a b : Expr} {mc ma mb : Sg → Hq → R Val} (hc : PT X c (tT G W (tst mc))) (ha : PE X a (tE G W ma)) (hb : PE X b (tE G W mb)) :
    PE X (.IfExp c a b pos) (tE G W fun σ h => (mc σ h).bind fun x h1 => (tru x h1).bind fun k h2 => if k then ma σ h2 else mb σ h2) := by
  refine (pe_ifExp hc ha hb).imp fun τ H Q ⟨Av, s, σ, hH, rp, sr, p⟩ => ?_
  subst hH
  have p' : Post G (We W τ) Av s (fun v y s' => VR G Av s' v y) (((tst mc) σ s.h).bind fun k h => if k then ma σ h else mb σ h) Q := by
    have e : ((tst mc) σ s.h).bind (fun k h => if k then ma σ h else mb σ h) = (fun σ h => (mc σ h).bind fun x h1 => (tru x h1).bind fun k h2 => if k then ma σ h2 else mb σ h2) σ s.h := by
      simp only [tst, R.bind_assoc]
    rw [e]; exact p
  refine tT_bind rp sr p' fun k s1 rp1 st1 sr1 p1 => ?_
  cases k with
  | true => exact ⟨Av, s1, σ, rfl, rp1, sr1, p1⟩
  | false => exact ⟨Av, s1, σ, rfl, rp1, sr1, p1⟩
/-- as a test -/
theorem ip_ifeT {c a b : Expr} {mc ma mb : Sg → Hq → R Val} (hc : PT X c (tT G W (tst mc))) (ha : PT X a (tT G W (tst ma))) (hb : PT X b (tT G W (tst mb))) :
    PT X (.IfExp c a b pos) (tT G W (tst fun σ h => (mc σ h).bind fun x h1 => (tru x h1).bind fun k h2 => if k then ma σ h2 else mb σ h2)) := by
  refine ⟨fun pins s τ H Q I ⟨Av, s3, σ, hH, rp, sr, p⟩ => ?_⟩
  subst hH
  refine PyProof.Rows.isTrue_IfExp ?_
  have p' : Post G (We W τ) Av s3 (fun v y _ => v = y) (((tst mc) σ s3.h).bind fun k h => if k then (tst ma) σ h else (tst mb) σ h) Q := by
    have e : ((tst mc) σ s3.h).bind (fun k h => if k then (tst ma) σ h else (tst mb) σ h) = (tst fun σ h => (mc σ h).bind fun x h1 => (tru x h1).bind fun k h2 => if k then ma σ h2 else mb σ h2) σ s3.h := by
      simp only [tst, R.bind_assoc]
      congr 1
      funext x h1
      congr 1
      funext k h2
      cases k <;> rfl
    rw [e]; exact p
  have r := tT_bind (Q' := fun k H1 => if k = true then tT G W (tst ma) τ H1 Q else tT G W (tst mb) τ H1 Q) rp sr p' fun k s1 rp1 st1 sr1 p1 => by
    cases k with
    | true => exact ⟨Av, s1, σ, rfl, rp1, sr1, p1⟩
    | false => exact ⟨Av, s1, σ, rfl, rp1, sr1, p1⟩
  refine thn (hc.run pins s τ _ _ I r) fun d s1 ⟨H1, I1, q1⟩ => ?_
  cases d with
  | true => exact ha.run pins s1 τ H1 Q I1 q1
  | false => exact hb.run pins s1 τ H1 Q I1 q1
end
end Ip

set_option linter.all false
set_option Elab.async false
set_option autoImplicit false
/-! Displays, fresh lists, subscripts, built-ins. -/
namespace Ip
open PySem L2

section
variable {X : Cx} {G : Gb} {E : XK} {W : WX} {pos : Pos}

/-! ### argument lists -/
theorem ia_nil : PA X [] (tA G W fun _ h => .ok [] h) := by
  refine pa_nil.imp fun τ H Q ⟨Av, s, σ, hH, rp, sr, p⟩ => ?_
  subst hH
  exact p.fin rp .nil
theorem ia_cons {e : Expr} {es : List Expr} {me : Sg → Hq → R Val} {ms : Sg → Hq → R (List Val)} (he : PE X e (tE G W me)) (hs : PA X es (tA G W ms)) (st : starEach (e :: es) X.env = (false, eval e X.env) :: starEach es X.env) :
    PA X (e :: es) (tA G W fun σ h => (me σ h).bind fun v h1 => (ms σ h1).bind fun vs h2 => .ok (v :: vs) h2) := by
  refine (pa_cons he hs st).imp fun τ H Q ⟨Av, s, σ, hH, rp, sr, p⟩ => ?_
  subst hH
  refine tE_bind rp sr p fun v y s1 rp1 st1 sr1 q1 p1 => ?_
  refine tA_bind rp1 sr1 p1 fun vs ys s2 rp2 st2 sr2 q2 p2 => ?_
  exact p2.fin rp2 (.cons (st2.vr rp2.nd q1) q2)

/-! ### a tuple -/
theorem Post.toDs {Av : Addr → Prop} {s : S3} {vs : List Val} {ys : List V} {γ δ : Type} {Rm : γ → δ → S3 → Prop} {f : List D → Hq → R γ} {Q : δ → Hp → Prop} (rp : RepH G Av s) (q : VRs G Av s vs ys) (p : Post G E Av s Rm ((toDs vs s.h).bind f) Q) :
    ∃ ds h', RepH G Av ⟨s.r, h', s.H⟩ ∧ Stp s ⟨s.r, h', s.H⟩ ∧ DRs G.K s.H (Bad Av ⟨s.r, h', s.H⟩) ys ds ∧ Post G E Av ⟨s.r, h', s.H⟩ Rm (f ds h') Q := by
  cases e : Ip.toDs vs s.h with
  | er x h => exact absurd e (toDs_no_er _ _ _ _)
  | no => rw [e] at p; exact p.elim
  | ok ds h' =>
    rw [e] at p
    obtain ⟨r1, t1, d1⟩ := toDs_ok rp q e
    refine ⟨ds, h', r1, t1, d1, ?_⟩
    have p : Post G _ Av s Rm (f ds h') Q := p
    revert p
    cases f ds h' with
    | ok c h2 => exact fun p s2 z e2 rp2 t2 q2 => p s2 z e2 rp2 (t1.trans t2 r1.nd r1.len) q2
    | er x h2 => exact fun p s2 c dx e2 rp2 t2 q2 => p s2 c dx e2 rp2 (t1.trans t2 r1.nd r1.len) q2
    | no => exact fun p => p
/-- a step ahead -/
theorem Post.step {Av : Addr → Prop} {s s1 : S3} {α β : Type} {Rl : α → β → S3 → Prop} {r : R α} {Q : β → Hp → Prop} (p : Post G E Av s Rl r Q) (t : Stp s s1) (r1 : RepH G Av s1) : Post G E Av s1 Rl r Q := by
  revert p
  cases r with
  | ok c h2 => exact fun p s2 z e2 rp2 t2 q2 => p s2 z e2 rp2 (t.trans t2 r1.nd r1.len) q2
  | er x h2 => exact fun p s2 c dx e2 rp2 t2 q2 => p s2 c dx e2 rp2 (t.trans t2 r1.nd r1.len) q2
  | no => exact fun p => p
/-- a new object beside: the state -/
theorem RepH.new_bad {Av : Addr → Prop} {s : S3} (rp : RepH G Av s) {p : Addr} (hp : s.H p = none) : ¬ Bad Av s p := fun h => rp.bad_some h hp
theorem ip_tup {es : List Expr} {ms : Sg → Hq → R (List Val)} {k : Nat} (hs : PA X es (tA G W ms)) (hl : ∀ σ h vs h', ms σ h = .ok vs h' → vs.length ≤ 16777216) :
    PE X (.Tuple es k pos) (tE G W fun σ h => (ms σ h).bind fun vs h1 => (toDs vs h1).bind fun ds h2 => .ok (.d (.tuple ds)) h2) := by
  refine (pe_tup hs).imp fun τ H Q ⟨Av, s, σ, hH, rp, sr, p⟩ => ?_
  subst hH
  have hlen : ∀ vs h', ms σ s.h = .ok vs h' → vs.length ≤ 16777216 := fun vs h' e => hl σ s.h vs h' e
  show tA G W ms τ s.H _
  refine ⟨Av, s, σ, rfl, rp, sr, ?_⟩
  revert p hlen
  show (Post G _ Av s _ ((ms σ s.h).bind _) Q → _)
  cases ms σ s.h with
  | er x h => exact fun p _ => p
  | no => exact fun p _ => p
  | ok vs h1 =>
    intro p hlen s1 ys e1 rp1 st1 q1
    subst e1
    have p1 := Post.step (r := (toDs vs s1.h).bind fun ds h2 => R.ok (Val.d (.tuple ds)) h2) p st1 rp1
    obtain ⟨ds, h2, rp2, st2, d2, p2⟩ := Post.toDs rp1 q1 p1
    refine ⟨by rw [← q1.length, sizeLine_eq]; exact hlen vs _ rfl, fun a ha => ?_⟩
    obtain ⟨rp3, st3⟩ := rp2.upd_new (o := .tup ys) ha
    exact p2 ⟨s1.r, h2, upd s1.H a (.tup ys)⟩ (.ref a) rfl rp3 st3 (.d (.tup (SqT.of upd_same) (DRs.mono st3.fr (fun a z => .inr z) (st3.bad rp3.nd) d2)))

/-! ### a fresh list -/
/-- Av and one more -/
def also (Av : Addr → Prop) (p : Addr) : Addr → Prop := fun a => Av a ∨ a = p
theorem bad_also {Av : Addr → Prop} {s : S3} {p a : Addr} : Bad (also Av p) s a ↔ Bad Av s a ∨ a = p := by
  constructor
  · rintro ((h | h) | h)
    · exact .inl (.inl h)
    · exact .inr h
    · exact .inl (.inr h)
  · rintro ((h | h) | h)
    · exact .inl (.inl h)
    · exact .inr h
    · exact .inl (.inr h)
theorem VR.less {Av Av' : Addr → Prop} {s : S3} (h : ∀ a, Av' a → Av a) {v : Val} {x : V} (q : VR G Av s v x) : VR G Av' s v x := by
  cases q with
  | d q => exact .d (q.sub fun a z => z.elim (fun w => .inl (h a w)) .inr)
  | ref q => exact .ref q
  | fn q => exact .fn q
theorem VRs.less {Av Av' : Addr → Prop} {s : S3} (h : ∀ a, Av' a → Av a) : ∀ {v : List Val} {x : List V}, VRs G Av s v x → VRs G Av' s v x
  | _, _, .nil => .nil
  | _, _, .cons q t => .cons (q.less h) (t.less h)
theorem RepH.less {Av Av' : Addr → Prop} {s : S3} (h : ∀ a, Av' a → Av a) (r : RepH G Av s) : RepH G Av' s := by
  refine ⟨r.len, r.nd, fun n a o e1 e2 => ?_, fun a z => r.av a (h a z), fun a z => r.dis a (h a z), r.trk, r.tabs⟩
  have q := r.obj n a o e1 e2
  cases o with
  | lst vs => obtain ⟨xs, h1, h2⟩ := q; exact ⟨xs, h1, h2.less h⟩
  | dead x => exact DR.sub (fun a z => z.elim (fun w => .inl (h a w)) .inr) q
  | dct c => obtain ⟨ob, h1, h2⟩ := q; exact ⟨ob, h1, h2.map (VR.less h) id⟩
  | tx ds => obtain ⟨ob, xs, h1, h2, h3⟩ := q; exact ⟨ob, xs, h1, h2, DRs.sub (fun a z => z.elim (fun w => .inl (h a w)) .inr) h3⟩
theorem RepH.more {Av : Addr → Prop} {s : S3} {p : Addr} (r : RepH G Av s) (hp : s.H p = none) {o : HO} : RepH G (also Av p) ⟨s.r, s.h, upd s.H p o⟩ ∧ ∀ {v : V} {d : D}, DR G.K s.H (Bad Av s) v d → DR G.K (upd s.H p o) (Bad (also Av p) ⟨s.r, s.h, upd s.H p o⟩) v d := by
  obtain ⟨r1, t1⟩ := r.upd_new (o := o) hp
  have conv : ∀ {v : V} {d : D}, DR G.K s.H (Bad Av s) v d → DR G.K (upd s.H p o) (Bad (also Av p) ⟨s.r, s.h, upd s.H p o⟩) v d := fun {v d} q =>
    DR.mono t1.fr (fun a z => .inr z) (fun a ha hb hb' => by
      rcases bad_also.mp hb' with z | z
      · exact t1.bad r1.nd a ha hb z
      · subst z; exact ha hp) q
  refine ⟨⟨r.len, r.nd, fun n a ob e1 e2 => ?_, fun a z => ?_, fun a z => ?_, fun a z => t1.fr.there a (r.trk a z), tabs_upd r.tabs (.inl hp)⟩, conv⟩
  · have q := r.obj n a ob e1 e2
    cases ob with
    | lst vs =>
      obtain ⟨xs, h1, h2⟩ := q
      have : a ≠ p := fun z => by subst z; rw [hp] at h1; cases h1
      refine ⟨xs, by show upd s.H p o a = _; rw [upd_ne this]; exact h1, ?_⟩
      clear h1 e2
      induction h2 with
      | nil => exact .nil
      | cons h t ih =>
        refine .cons ?_ ih
        cases h with
        | d q => exact .d (conv q)
        | ref q => exact .ref q
        | fn q => exact .fn q
    | dead x => exact conv q
    | dct c =>
      obtain ⟨u, h1, h2⟩ := q
      have : a ≠ p := fun z => by subst z; rw [hp] at h1; cases h1
      refine ⟨u, by show upd s.H p o a = _; rw [upd_ne this]; exact h1, h2.map (fun {v x} h => ?_) t1.fr.sqt⟩
      cases h with
      | d q => exact .d (conv q)
      | ref q => exact .ref q
      | fn q => exact .fn q
    | tx ds =>
      obtain ⟨ob, xs, h1, h2, h3⟩ := q
      exact ⟨ob, xs, h1, t1.fr.frz _ _ _ h2, DRs.mono t1.fr (fun a z => .inr z) (fun a ha hb hb' => by
        rcases bad_also.mp hb' with z | z
        · exact t1.bad r1.nd a ha hb z
        · subst z; exact ha hp) h3⟩
  · rcases z with z | z
    · exact t1.fr.there a (r.av a z)
    · subst z; show upd s.H a o a ≠ none; rw [upd_same]; exact fun z => by cases z
  · rcases z with z | z
    · exact r.dis a z
    · subst z; exact fun z => r.trk a z hp
/-- a fresh list at y: nothing else leads to it -/
def LR (G : Gb) (Av : Addr → Prop) (s : S3) (vs : List Val) (y : V) (s' : S3) : Prop :=
  ∃ p xs, y = .ref p ∧ s.H p = none ∧ RepH G (also Av p) s' ∧ s'.H p = some (.lst xs) ∧ VRs G (also Av p) s' vs xs
def tL (G : Gb) (W : WX) (m : Sg → Hq → R (List Val)) : TE := fun τ H Q => ∃ (Av : Addr → Prop) (s : S3) (σ : Sg), s.H = H ∧ RepH G Av s ∧ SR G Av s σ τ ∧ Post G (We W τ) Av s (LR G Av s) (m σ s.h) Q
theorem tL_bind {Av : Addr → Prop} {s : S3} {σ : Sg} {τ : L2.St} {γ δ : Type} {m : Sg → Hq → R (List Val)} {f : List Val → Hq → R γ} {Rm : γ → δ → S3 → Prop} {Q : δ → Hp → Prop} (rp : RepH G Av s) (sr : SR G Av s σ τ) (p : Post G (We W τ) Av s Rm ((m σ s.h).bind f) Q) {Q' : VK}
    (h : ∀ (v : List Val) (y : V) (s1 : S3), RepH G Av s1 → Stp s s1 → SR G Av s1 σ τ → LR G Av s v y s1 → Post G (We W τ) Av s1 Rm (f v s1.h) Q → Q' y s1.H) : tL G W m τ s.H Q' := by
  refine ⟨Av, s, σ, rfl, rp, sr, (p.bind (Rl := LR G Av s)).mono ?_⟩
  rintro y H1 ⟨v, s1, rfl, rp1, st, q, p1⟩
  exact h v y s1 rp1 st (st.sr rp1.nd sr) q p1
/-- it is data from now on -/
theorem ofL_imp {m : Sg → Hq → R (List Val)} : ∀ τ H Q, tE G W (fun σ h => (m σ h).bind fun vs h1 => (toDs vs h1).bind fun ds h2 => .ok (.d (.list ds)) h2) τ H Q → tL G W m τ H Q := by
  intro τ H Q ⟨Av, s, σ, hH, rp, sr, p⟩
  subst hH
  refine tL_bind rp sr p fun vs y s1 rp1 st1 sr1 lr p1 => ?_
  obtain ⟨a, xs, rfl, ha, rpA, hx, hv⟩ := lr
  cases e : toDs vs s1.h with
  | er x h => exact absurd e (toDs_no_er _ _ _ _)
  | no => rw [e] at p1; exact p1.elim
  | ok ds h2 =>
    rw [e] at p1
    obtain ⟨r2, t2, d2⟩ := toDs_ok rpA hv e
    have nA : ¬ Av a := fun z => rp.av a z ha
    have nB : ¬ Bad Av ⟨s1.r, h2, s1.H⟩ a := by
      rintro (z | ⟨n, z, _⟩)
      · exact nA z
      · exact r2.dis a (.inr rfl) (List.mem_of_getElem? z)
    have sub : ∀ b, Av b → also Av a b := fun b z => .inl z
    exact p1 ⟨s1.r, h2, s1.H⟩ (.ref a) rfl (r2.less sub) t2 (.d (.lst (.inl ⟨.inl hx, nB⟩) (d2.sub fun b z => bad_also.mpr (.inl z))))
/-- it is an object of this run -/
theorem new_imp {m : Sg → Hq → R (List Val)} : ∀ τ H Q, tE G W (fun σ h => (m σ h).bind fun vs h1 => .ok (.ref h1.length) (h1 ++ [.lst vs])) τ H Q → tL G W m τ H Q := by
  intro τ H Q ⟨Av, s, σ, hH, rp, sr, p⟩
  subst hH
  refine ⟨Av, s, σ, rfl, rp, sr, ?_⟩
  revert p
  show (Post G _ Av s _ ((m σ s.h).bind _) Q → _)
  cases m σ s.h with
  | er x h => exact fun p => p
  | no => exact fun p => p
  | ok vs h1 =>
  intro p s1 y e1 rp1 st1 lr
  subst e1
  obtain ⟨a, xs, rfl, ha, rpA, hx, hv⟩ := lr
  have har : a ∉ s1.r := rpA.dis a (.inr rfl)
  have nA : ¬ Av a := fun z => rp.av a z ha
  have hb : ∀ b, Bad Av ⟨s1.r ++ [a], s1.h ++ [.lst vs], s1.H⟩ b → Bad (also Av a) s1 b := by
    rintro b (z | ⟨n, z, ws, hl, hal⟩)
    · exact .inl (.inl z)
    · by_cases hn : n < s1.r.length
      · refine .inr ⟨n, ?_, ws, ?_, hal⟩
        · rw [List.getElem?_append_left hn] at z; exact z
        · rw [List.getElem?_append_left (by rw [← rp1.len]; exact hn)] at hl; exact hl
      · left; right
        rw [List.getElem?_append_right (Nat.not_lt.mp hn)] at z
        cases hk : n - s1.r.length with
        | zero => rw [hk] at z; exact (Option.some.inj z).symm
        | succ k => rw [hk] at z; cases z
  have cv : ∀ {v : Val} {x : V}, VR G (also Av a) s1 v x → VR G Av ⟨s1.r ++ [a], s1.h ++ [.lst vs], s1.H⟩ v x := fun {v x} q => by
    cases q with
    | d q => exact .d (q.sub hb)
    | ref q => exact .ref (pre_get (List.prefix_append _ _) q)
    | fn q => exact .fn q
  have cvs : ∀ {v : List Val} {x : List V}, VRs G (also Av a) s1 v x → VRs G Av ⟨s1.r ++ [a], s1.h ++ [.lst vs], s1.H⟩ v x := fun {v x} q => by
    induction q with
    | nil => exact .nil
    | cons h _ ih => exact .cons (cv h) ih
  have rp2 : RepH G Av ⟨s1.r ++ [a], s1.h ++ [.lst vs], s1.H⟩ := by
    refine ⟨by simp [rp1.len], ?_, fun n b o e1 e2 => ?_, rp1.av, fun b z => ?_, fun b z => ?_, rp1.tabs⟩
    · rw [List.nodup_append]
      exact ⟨rp1.nd, by simp, fun x hx2 y hy => by
        have : y = a := by simpa using hy
        subst this; exact fun z => har (z ▸ hx2)⟩
    · by_cases hn : n < s1.r.length
      · have e1 : (s1.r ++ [a])[n]? = some b := e1
        have e2 : (s1.h ++ [.lst vs])[n]? = some o := e2
        rw [List.getElem?_append_left hn] at e1
        rw [List.getElem?_append_left (by rw [← rp1.len]; exact hn)] at e2
        have q := rpA.obj n b o e1 e2
        cases o with
        | lst ws => obtain ⟨zs, h1, h2⟩ := q; exact ⟨zs, h1, cvs h2⟩
        | dead x => exact DR.sub hb q
        | dct c => obtain ⟨ob, h1, h2⟩ := q; exact ⟨ob, h1, h2.map cv id⟩
        | tx ds => obtain ⟨ob, xs, h1, h2, h3⟩ := q; exact ⟨ob, xs, h1, h2, DRs.sub hb h3⟩
      · have e1 : (s1.r ++ [a])[n]? = some b := e1
        have e2 : (s1.h ++ [.lst vs])[n]? = some o := e2
        rw [List.getElem?_append_right (Nat.not_lt.mp hn)] at e1
        rw [List.getElem?_append_right (by rw [← rp1.len]; exact Nat.not_lt.mp hn), ← rp1.len] at e2
        cases hk : n - s1.r.length with
        | zero =>
          rw [hk] at e1 e2
          have e1 : some a = some b := e1
          have e2 : some (IO.lst vs) = some o := e2
          cases e1; cases e2
          exact ⟨xs, hx, cvs hv⟩
        | succ k => rw [hk] at e1; cases e1
    · have := rp1.dis b z
      intro w
      rcases List.mem_append.mp w with w | w
      · exact this w
      · have : b = a := by simpa using w
        subst this; exact nA z
    · rcases List.mem_append.mp z with w | w
      · exact rp1.trk b w
      · have : b = a := by simpa using w
        subst this
        show s1.H b ≠ none
        rw [hx]; exact fun z => by cases z
  have st2 : Stp s ⟨s1.r ++ [a], s1.h ++ [.lst vs], s1.H⟩ := by
    refine ⟨st1.pre.trans (List.prefix_append _ _), fun n hn l => st1.liv n hn ?_, st1.fr, fun b hb => ?_⟩
    · obtain ⟨ws, hl, hal⟩ := l
      have hn' : n < s1.h.length := by rw [← rp1.len]; exact Nat.lt_of_lt_of_le hn st1.pre.length_le
      rw [List.getElem?_append_left hn'] at hl
      exact ⟨ws, hl, hal⟩
    · rcases List.mem_append.mp hb with w | w
      · exact st1.new b w
      · have : b = a := by simpa using w
        subst this; exact .inr ha
  exact p ⟨s1.r ++ [a], s1.h ++ [.lst vs], s1.H⟩ (.ref a) rfl rp2 st2 (.ref (by
    show (s1.r ++ [a])[s1.h.length]? = some a
    rw [← rp1.len, List.getElem?_append_right (Nat.le_refl _), Nat.sub_self]; rfl))
theorem ip_ofL {e : Expr} {m : Sg → Hq → R (List Val)} (h : PE X e (tL G W m)) : PE X e (tE G W fun σ h => (m σ h).bind fun vs h1 => (toDs vs h1).bind fun ds h2 => .ok (.d (.list ds)) h2) := h.imp ofL_imp
theorem ip_new {e : Expr} {m : Sg → Hq → R (List Val)} (h : PE X e (tL G W m)) : PE X e (tE G W fun σ h => (m σ h).bind fun vs h1 => .ok (.ref h1.length) (h1 ++ [.lst vs])) := h.imp new_imp
end
end Ip

set_option linter.all false
set_option Elab.async false
set_option autoImplicit false
/-! Lists made, subscripts, stores, built-ins, f-strings. -/
namespace Ip
open PySem L2

section
variable {X : Cx} {G : Gb} {E : XK} {W : WX} {pos : Pos}

/-! ### lists made -/
/-- a list laid behind the values that it holds -/
theorem lr_new {Av : Addr → Prop} {s0 s : S3} {vs : List Val} {xs : List V} (rp : RepH G Av s) (t : Stp s0 s) (q : VRs G Av s vs xs) {p : Addr} (hp : s.H p = none) :
    LR G Av s0 vs (.ref p) ⟨s.r, s.h, upd s.H p (.lst xs)⟩ ∧ RepH G Av ⟨s.r, s.h, upd s.H p (.lst xs)⟩ ∧ Stp s0 ⟨s.r, s.h, upd s.H p (.lst xs)⟩ := by
  obtain ⟨rpA, conv⟩ := rp.more hp (o := .lst xs)
  obtain ⟨r1, t1⟩ := rp.upd_new (o := .lst xs) hp
  have h0 : s0.H p = none := by
    cases e : s0.H p with
    | none => rfl
    | some o => exact absurd hp (t.fr.there p (by rw [e]; exact fun z => by cases z))
  refine ⟨⟨p, xs, rfl, h0, rpA, upd_same, ?_⟩, r1, t.trans t1 rp.nd rp.len⟩
  induction q with
  | nil => exact .nil
  | cons h _ ih =>
    refine .cons ?_ ?_
    · cases h with
      | d q => exact .d (DR.mono t1.fr (fun a z => .inr z) (fun a ha hb hb' => by
          rcases bad_also.mp hb' with z | z
          · exact t1.bad r1.nd a ha hb z
          · subst z; exact ha hp) q)
      | ref q => exact .ref q
      | fn q => exact .fn q
    · rename_i vs' x' xs' _
      -- the same list object, whatever its items are called
      clear ih
      rename_i tl
      have aux : ∀ {ws : List Val} {zs : List V}, VRs G Av s ws zs → VRs G (also Av p) ⟨s.r, s.h, upd s.H p (.lst (x' :: xs'))⟩ ws zs := fun {ws zs} w => by
        induction w with
        | nil => exact .nil
        | cons h _ ih =>
          refine .cons ?_ ih
          have f1 : Fr (fun a => ∃ n, s.r[n]? = some a ∧ live s.h n) s.H (upd s.H p (.lst (x' :: xs'))) := fr_upd_new hp
          cases h with
          | d q => exact .d (DR.mono f1 (fun a z => .inr z) (fun a ha hb hb' => by
              rcases bad_also.mp hb' with z | z
              · rcases z with z | z
                · exact hb (.inl z)
                · exact hb (.inr z)
              · subst z; exact ha hp) q)
          | ref q => exact .ref q
          | fn q => exact .fn q
      exact aux tl
theorem il_dsp {es : List Expr} {ms : Sg → Hq → R (List Val)} (hs : PA X es (tA G W ms)) :
    PE X (.List es pos) (tL G W fun σ h => (ms σ h).bind fun vs h1 => if fits vs.length then .ok vs h1 else .no) := by
  refine (pe_lst hs).imp fun τ H Q ⟨Av, s, σ, hH, rp, sr, p⟩ => ?_
  subst hH
  refine ⟨Av, s, σ, rfl, rp, sr, ?_⟩
  revert p
  show (Post G _ Av s _ ((ms σ s.h).bind _) Q → _)
  cases ms σ s.h with
  | er x h => exact fun p => p
  | no => exact fun p => p
  | ok vs h1 =>
    intro p s1 ys e1 rp1 st1 q1
    subst e1
    simp only [R.bind_ok] at p
    split at p
    · rename_i hf
      refine ⟨by rw [← q1.length]; exact fits_line hf, fun a ha => ?_⟩
      obtain ⟨lr, r2, t2⟩ := lr_new rp1 st1 q1 ha
      exact p ⟨s1.r, s1.h, upd s1.H a (.lst ys)⟩ _ rfl r2 t2 lr
    · exact p.elim

/-! ### subscripts -/
theorem ixn_eq (n : Nat) (i : Int) : ixn n i = L2.ixN n i := rfl
theorem atI_of {vs : List Val} {xs : List V} {Av : Addr → Prop} {s : S3} {i : Int} {v : Val} (q : VRs G Av s vs xs) (e : atD vs i = some v) : ∃ x, L2.atI xs i = some x ∧ VR G Av s v x := by
  unfold atD at e
  unfold L2.atI
  rw [← q.length, ← ixn_eq]
  cases h : ixn vs.length i with
  | none => rw [h] at e; cases e
  | some j =>
    rw [h] at e
    exact q.get e
theorem ip_ix {a b : Expr} {ma mb : Sg → Hq → R Val} (hK : GX G X) (hu : X.A.units + 100 < cLine) (ha : PE X a (tE G W ma)) (hb : PE X b (tE G W mb)) (hs : PlainIx b) :
    PE X (.Subscript a b pos) (tE G W fun σ h => (ma σ h).bind fun x h1 => (mb σ h1).bind fun y h2 => ixV x y h2) := by
  refine (pe_ix ((ix_dct (by omega)).or ix_seq) ha hb hs).imp fun τ H Q ⟨Av, s, σ, hH, rp, sr, p⟩ => ?_
  subst hH
  refine tE_bind rp sr p fun v y s1 rp1 st1 sr1 q1 p1 => ?_
  refine tE_bind rp1 sr1 p1 fun w z s2 rp2 st2 sr2 q2 p2 => ?_
  have q1 := st2.vr rp2.nd q1
  unfold ixV at p2
  split at p2
  · rename_i c e0
    obtain ⟨n, a, ob, rfl, rfl, hn, hl, hH, cr⟩ := dct_ok rp2 q1 e0
    unfold dgetV at p2
    split at p2
    · rename_i v0 eg
      obtain ⟨oz, g, rel⟩ := dget_ok hH cr q2 eg
      rw [hK.1, hK.2.1, hK.2.2] at g
      rcases rel with ⟨h, _⟩ | ⟨v1, x1, e1, rfl, q3⟩
      · cases h
      · cases e1
        exact .inl ⟨a, x1, rfl, g, p2.fin rp2 q3⟩
    · exact p2.elim
  right
  unfold ixW at p2
  split at p2
  · rename_i vs i e1
    split at p2
    · rename_i u e2
      obtain ⟨a, xs, rfl, hq, hv⟩ := els_ok rp2 q1 e1
      obtain ⟨x, e3, qx⟩ := atI_of hv e2
      cases q2 with
      | d q2 =>
        cases q2
        rw [hK.1] at hq
        rcases hq with hq | hq
        · exact .inl ⟨a, xs, i, x, rfl, rfl, hq, e3, p2.fin rp2 qx⟩
        · exact .inr (.inl ⟨a, xs, i, x, rfl, rfl, hq, e3, p2.fin rp2 qx⟩)
    · exact p2.elim
  · rename_i i e1
    split at p2
    · rename_i zz
      clear zz
      split at p2
      · rename_i hf
        split at p2
        · rename_i j ej
          split at p2
          · rename_i c ec
            cases q1 with
            | d q1 =>
              cases q1
              cases q2 with
              | d q2 =>
                cases q2
                refine .inr (.inr ⟨_, i, c, rfl, rfl, fits_line hf, ?_, p2.fin rp2 (.d (.str _))⟩)
                unfold L2.atI
                rw [← ixn_eq, ej]
                exact ec
          · exact p2.elim
        · exact p2.elim
      · exact p2.elim
    · exact p2.elim
  · exact p2.elim

/-! ### a slice of a list -/
/-- an end of a slice -/
def tO (G : Gb) (W : WX) (m : Sg → Hq → R (Option Int)) : TO := fun τ H Q => ∃ (Av : Addr → Prop) (s : S3) (σ : Sg), s.H = H ∧ RepH G Av s ∧ SR G Av s σ τ ∧ Post G (We W τ) Av s (fun v y _ => v = y) (m σ s.h) Q
theorem tO_bind {Av : Addr → Prop} {s : S3} {σ : Sg} {τ : L2.St} {γ δ : Type} {m : Sg → Hq → R (Option Int)} {f : Option Int → Hq → R γ} {Rm : γ → δ → S3 → Prop} {Q : δ → Hp → Prop} (rp : RepH G Av s) (sr : SR G Av s σ τ) (p : Post G (We W τ) Av s Rm ((m σ s.h).bind f) Q) {Q' : Option Int → Hp → Prop}
    (h : ∀ (b : Option Int) (s1 : S3), RepH G Av s1 → Stp s s1 → SR G Av s1 σ τ → Post G (We W τ) Av s1 Rm (f b s1.h) Q → Q' b s1.H) : tO G W m τ s.H Q' := by
  refine ⟨Av, s, σ, rfl, rp, sr, (p.bind (Rl := fun v y s' => v = y)).mono ?_⟩
  rintro y H1 ⟨v, s1, rfl, rp1, st, q, p1⟩
  subst q
  exact h v s1 rp1 st (st.sr rp1.nd sr) p1
theorem _root_.L2.PO.imp {e : Option Expr} {t t' : TO} (h : PO X e t) (q : ∀ τ H Q, t' τ H Q → t τ H Q) : PO X e t' := ⟨fun pins s σ H Q I w => h.run pins s σ H Q I (q _ _ _ w)⟩
theorem io_none : PO X none (tO G W fun _ h => .ok none h) := by
  refine po_none.imp fun τ H Q ⟨Av, s, σ, hH, rp, sr, p⟩ => ?_
  subst hH
  exact p.fin rp rfl
theorem io_some {e : Expr} {m : Sg → Hq → R Val} (he : PE X e (tE G W m)) : PO X (some e) (tO G W fun σ h => (m σ h).bind fun x h1 => match intV x with | some i => .ok (some i) h1 | none => .no) := by
  refine (po_some he).imp fun τ H Q ⟨Av, s, σ, hH, rp, sr, p⟩ => ?_
  subst hH
  refine tE_bind rp sr p fun v y s1 rp1 st1 sr1 q1 p1 => ?_
  cases v with
  | ref n => exact p1.elim
  | fn f => exact p1.elim
  | d x =>
    cases x with
    | int i => cases q1 with | d q => cases q; exact ⟨i, rfl, p1.fin rp1 rfl⟩
    | none => exact p1.elim
    | bool b => exact p1.elim
    | str b => exact p1.elim
    | list b => exact p1.elim
    | tuple b => exact p1.elim
    | dict b => exact p1.elim
theorem cutIx_eq (n d : Nat) (o : Option Int) (hd : d ≤ n) : cutIx n d o = HT.sIx n d o := by
  cases o with
  | none => rfl
  | some i =>
    have h := HT.clip_eq i n d
    unfold cutIx
    split at h
    · rename_i hi
      simp only [hi, if_true]
      have : ((HT.sIx n d (some i) : Nat) : Int) = max (i + (n : Int)) 0 := h.symm
      omega
    · rename_i hi
      simp only [hi, if_false]
      have : ((HT.sIx n d (some i) : Nat) : Int) = min i (n : Int) := h.symm
      omega
theorem cutV_of {vs : List Val} {xs : List V} {Av : Addr → Prop} {s : S3} (q : VRs G Av s vs xs) (lo hi : Option Int) : VRs G Av s (cutD vs lo hi) (cutV xs lo hi) := by
  unfold cutD cutV
  rw [cutIx_eq _ _ _ (Nat.zero_le _), cutIx_eq _ _ _ (Nat.le_refl _), q.length]
  exact (q.drop _).take _
theorem elsL_ok {Av : Addr → Prop} {s : S3} (r : RepH G Av s) {v : Val} {y : V} {vs : List Val} (q : VR G Av s v y) (e : elsL s.h v = some vs) :
    ∃ a xs, y = .ref a ∧ SqL G.K s.H a xs ∧ VRs G Av s vs xs := by
  cases q with
  | d q =>
    cases q with
    | lst h t => cases e; exact ⟨_, _, rfl, sql_of h, VRs.of_data t⟩
    | tup h t => cases e
    | non => cases e
    | bl b => cases e
    | int i => cases e
    | str x => cases e
  | ref hn =>
    unfold elsL at e
    simp only at e
    split at e
    · rename_i ws hl
      cases e
      obtain ⟨xs, hx, hv⟩ := r.obj _ _ _ hn hl
      exact ⟨_, xs, rfl, .inl (.inl hx), hv⟩
    · rename_i ws hl
      cases e
      have q := r.obj _ _ _ hn hl
      cases q with
      | lst h t => exact ⟨_, _, rfl, sql_of h, VRs.of_data t⟩
    · cases e
  | fn _ => cases e
theorem cut_map {α β : Type} (f : α → β) (xs : List α) (lo hi : Option Int) : cutD (xs.map f) lo hi = (cutD xs lo hi).map f := by
  unfold cutD
  rw [List.length_map, List.map_take, List.map_drop]
/-- data laid into a new list -/
theorem Post.newL {Av : Addr → Prop} {s : S3} {ds : List D} {ys : List V} {Q : VK} (rp : RepH G Av s) (q : DRs G.K s.H (Bad Av s) ys ds) (p : Post G E Av s (fun v y s' => VR G Av s' v y) (.ok (.d (.list ds)) s.h) Q) {a : Addr} (ha : s.H a = none) : Q (.ref a) (upd s.H a (.lst ys)) := by
  obtain ⟨rp3, st3⟩ := rp.upd_new (o := .lst ys) ha
  have nb : ¬ Bad Av ⟨s.r, s.h, upd s.H a (.lst ys)⟩ a := fun z => by
    rcases z with z | ⟨n, z, _⟩
    · exact rp.av a z ha
    · exact rp.trk a (List.mem_of_getElem? z) ha
  exact p ⟨s.r, s.h, upd s.H a (.lst ys)⟩ (.ref a) rfl rp3 st3 (.d (.lst (.inl ⟨.inl upd_same, nb⟩) (DRs.mono st3.fr (fun a z => .inr z) (st3.bad rp3.nd) q)))
theorem Post.newT {Av : Addr → Prop} {s : S3} {ds : List D} {ys : List V} {Q : VK} (rp : RepH G Av s) (q : DRs G.K s.H (Bad Av s) ys ds) (p : Post G E Av s (fun v y s' => VR G Av s' v y) (.ok (.d (.tuple ds)) s.h) Q) {a : Addr} (ha : s.H a = none) : Q (.ref a) (upd s.H a (.tup ys)) := by
  obtain ⟨rp3, st3⟩ := rp.upd_new (o := .tup ys) ha
  exact p ⟨s.r, s.h, upd s.H a (.tup ys)⟩ (.ref a) rfl rp3 st3 (.d (.tup (SqT.of upd_same) (DRs.mono st3.fr (fun a z => .inr z) (st3.bad rp3.nd) q)))
theorem cutD_s (z : Str) (lo hi : Option Int) : (⟨(cutD z.cps.toList lo hi).toArray⟩ : Str) = cutS z lo hi := by
  unfold cutD cutS
  rw [cutIx_eq _ _ _ (Nat.zero_le _), cutIx_eq _ _ _ (Nat.le_refl _)]
  rfl
theorem ip_slc {a : Expr} {lo hi : Option Expr} {p2 : Pos} {ma : Sg → Hq → R Val} {ml mh : Sg → Hq → R (Option Int)} (hK : G.K = X.K) (ha : PE X a (tE G W ma)) (hl : PO X lo (tO G W ml)) (hh : PO X hi (tO G W mh)) :
    PE X (.Subscript a (.Slice lo hi none p2) pos) (tE G W fun σ h => (ma σ h).bind fun x h1 => (ml σ h1).bind fun l h2 => (mh σ h2).bind fun u h3 => slcV x l u h3) := by
  refine (pe_slice (sl_list.or (sl_tupA.or sl_str)) ha hl hh).imp fun τ H Q ⟨Av, s, σ, hH, rp, sr, p⟩ => ?_
  subst hH
  refine tE_bind rp sr p fun v y s1 rp1 st1 sr1 q1 p1 => ?_
  refine tO_bind rp1 sr1 p1 fun l s2 rp2 st2 sr2 p2 => ?_
  refine tO_bind rp2 sr2 p2 fun u s3 rp3 st3 sr3 p3 => ?_
  have q1 := (st2.trans st3 rp2.nd rp2.len).vr rp3.nd q1
  unfold slcV at p3
  split at p3
  · rename_i vs e1
    obtain ⟨b, xs, rfl, hq, hv⟩ := elsL_ok rp3 q1 e1
    obtain ⟨ds, h', rp4, st4, d4, p4⟩ := Post.toDs rp3 (cutV_of hv l u) p3
    exact .inl ⟨b, xs, rfl, hK ▸ hq, fun p hp => Post.newL rp4 d4 p4 hp⟩
  · split at p3
    · rename_i xs _ _
      cases q1 with
      | d q1 =>
        cases q1 with
        | tup h t =>
          rename_i b ys
          have hc : DRs G.K s3.H (Bad Av s3) (cutV ys l u) (cutD xs l u) := by
            have := (cutV_of (VRs.of_data t) l u)
            rw [cut_map] at this
            exact this.to_data
          refine .inr (.inl ⟨b, ys, rfl, hK ▸ h, fun hw => ?_, fun _ p hp => Post.newT rp3 hc p3 hp⟩)
          have e : cutV ys l u = ys := by
            unfold cutV
            rw [hw.1, hw.2, List.drop_zero, Nat.sub_zero, List.take_length]
          rw [e] at hc
          exact p3.fin rp3 (.d (.tup h hc))
    · rename_i z _ _
      split at p3
      · rename_i hf
        cases q1 with
        | d q1 =>
          cases q1
          refine .inr (.inr ⟨z, rfl, fits_line hf, ?_⟩)
          rw [← cutD_s]
          exact p3.fin rp3 (.d (.str _))
      · exact p3.elim
    · exact p3.elim
end
end Ip

set_option linter.all false
set_option Elab.async false
set_option autoImplicit false
/-! Built-ins by their data, append, stores, f-strings. -/
namespace Ip
open PySem L2

section
variable {X : Cx} {G : Gb} {E : XK} {W : WX} {pos : Pos}

/-! ### built-ins -/
def prmOf : Prm → Value
  | .len => .builtin "len"
  | .abs => .builtin "abs"
  | .int => .type "int"
  | .str => .type "str"
  | .repr => .builtin "repr"
  | .sum => .builtin "sum"
  | .max1 => .builtin "max"
  | .min1 => .builtin "min"
  | .max2 => .builtin "max"
  | .min2 => .builtin "min"
  | .all => .builtin "all"
  | .any => .builtin "any"
def rPrm (G : Gb) (p : Prm) : List V → Hp → VK → Prop := fun vs H Q => ∃ ds c v, DRs G.K H NoB vs ds ∧ prmD p ds = some c ∧ scalV c = some v ∧ Q v H
theorem drs_ints {K : PySem.W.Frag} {H : Hp} {B : Addr → Prop} : ∀ {ds : List D} {xs : List V} {ns : List Int}, DRs K H B xs ds → intsOf ds = some ns → xs = ns.map V.int
  | [], _, _, .nil, e => by cases e; rfl
  | .int i :: r, _, _, .cons h t, e => by
    cases h
    unfold intsOf at e
    cases e2 : intsOf r with
    | none => rw [e2] at e; cases e
    | some ms =>
      rw [e2] at e
      cases e
      rw [drs_ints t e2]; rfl
  | .none :: _, _, _, _, e => by cases e
  | .bool _ :: _, _, _, _, e => by cases e
  | .str _ :: _, _, _, _, e => by cases e
  | .list _ :: _, _, _, _, e => by cases e
  | .tuple _ :: _, _, _, _, e => by cases e
  | .dict _ :: _, _, _, _, e => by cases e
theorem drs_bools {K : PySem.W.Frag} {H : Hp} {B : Addr → Prop} : ∀ {ds : List D} {xs : List V} {ns : List Bool}, DRs K H B xs ds → boolsOf ds = some ns → xs = ns.map V.bl
  | [], _, _, .nil, e => by cases e; rfl
  | .bool i :: r, _, _, .cons h t, e => by
    cases h
    unfold boolsOf at e
    cases e2 : boolsOf r with
    | none => rw [e2] at e; cases e
    | some ms =>
      rw [e2] at e
      cases e
      rw [drs_bools t e2]; rfl
  | .none :: _, _, _, _, e => by cases e
  | .int _ :: _, _, _, _, e => by cases e
  | .str _ :: _, _, _, _, e => by cases e
  | .list _ :: _, _, _, _, e => by cases e
  | .tuple _ :: _, _, _, _, e => by cases e
  | .dict _ :: _, _, _, _, e => by cases e
theorem sumI_eq : ∀ ns : List Int, sumI ns = ns.sum
  | [] => rfl
  | x :: r => by unfold sumI; rw [sumI_eq r, List.sum_cons]
theorem maxI_is : ∀ (m : Int) (r : List Int), maxI m r ∈ m :: r ∧ ∀ y ∈ m :: r, y ≤ maxI m r
  | m, [] => ⟨List.mem_cons_self, fun y hy => by simp at hy; subst hy; exact Int.le_refl _⟩
  | m, x :: r => by
    unfold maxI
    obtain ⟨h1, h2⟩ := maxI_is (if x > m then x else m) r
    constructor
    · rcases List.mem_cons.mp h1 with h | h
      · rw [h]; split
        · exact List.mem_cons_of_mem _ List.mem_cons_self
        · exact List.mem_cons_self
      · exact List.mem_cons_of_mem _ (List.mem_cons_of_mem _ h)
    · intro y hy
      have h3 := h2 _ List.mem_cons_self
      rcases List.mem_cons.mp hy with h | h
      · subst h; split at h3 <;> (split <;> omega)
      · rcases List.mem_cons.mp h with h | h
        · subst h; split at h3 <;> (split <;> omega)
        · exact h2 y (List.mem_cons_of_mem _ h)
theorem minI_is : ∀ (m : Int) (r : List Int), minI m r ∈ m :: r ∧ ∀ y ∈ m :: r, minI m r ≤ y
  | m, [] => ⟨List.mem_cons_self, fun y hy => by simp at hy; subst hy; exact Int.le_refl _⟩
  | m, x :: r => by
    unfold minI
    obtain ⟨h1, h2⟩ := minI_is (if x < m then x else m) r
    constructor
    · rcases List.mem_cons.mp h1 with h | h
      · rw [h]; split
        · exact List.mem_cons_of_mem _ List.mem_cons_self
        · exact List.mem_cons_self
      · exact List.mem_cons_of_mem _ (List.mem_cons_of_mem _ h)
    · intro y hy
      have h3 := h2 _ List.mem_cons_self
      rcases List.mem_cons.mp hy with h | h
      · subst h; split at h3 <;> (split <;> omega)
      · rcases List.mem_cons.mp h with h | h
        · subst h; split at h3 <;> (split <;> omega)
        · exact h2 y (List.mem_cons_of_mem _ h)
theorem drs1 {K : PySem.W.Frag} {H : Hp} {B : Addr → Prop} {vs : List V} {d : D} (h : DRs K H B vs [d]) : ∃ v, vs = [v] ∧ DR K H B v d := by
  cases h with
  | cons h t => cases t; exact ⟨_, rfl, h⟩
theorem drs2 {K : PySem.W.Frag} {H : Hp} {B : Addr → Prop} {vs : List V} {d e : D} (h : DRs K H B vs [d, e]) : ∃ v u, vs = [v, u] ∧ DR K H B v d ∧ DR K H B u e := by
  cases h with
  | cons h t =>
    cases t with
    | cons h2 t => cases t; exact ⟨_, _, rfl, h, h2⟩
section
open PySem.Spec PyProof.Rows
theorem sum_tup {prog : Program} {w : World} {A : Around} {E : Value → Shared → Prop} {s : Shared} {l : Addr} {its : List Value} {ns : List Int} {Q : Value → Shared → Prop} (hh : A.handled = none) (hl : IsTup s.heap l its.toArray) (hi : IntsAre its ns)
    (h : ∀ h' tk t', (∀ b o, s.heap.get? b = some o → h'.get? b = some o) → Q (.int ns.sum t') { s with heap := h', toks := tk }) : wpAny (model prog w) A (call (.builtin "sum") [.ref l]) Q E s := by
  obtain ⟨xs, e⟩ := hi.allInts.items
  have hn : numsOf (intItems xs).toList = ns := by rw [← e]; exact hi.numsOf
  rw [nums_intItems] at hn
  rw [e] at hl
  have hlt : l < s.heap.objs.size := hl.lt
  refine call_sum_walkG (iter_tuple hl ?_)
  refine ⟨_, _, _, _, _, _, numAt xs, rfl, Walks.tuple (A := A.in1) hh _ l (Nat.ne_of_lt hlt) (intItems xs), ⟨⟨_, Heap.get?_push_size _ rfl, rfl, rfl⟩, ?_⟩, fun b hb => ?_, (fun _ _ => intItems_at), fun h' tk t' hk => ?_⟩
  · obtain ⟨o, ho, r⟩ := hl
    exact ⟨o, Heap.get?_push_of_some _ ho, r⟩
  · rw [Heap.size_push]
    rcases List.mem_cons.mp hb with rfl | hb
    · exact Nat.lt_succ_self _
    · rw [List.mem_singleton.mp hb]; exact Nat.lt_succ_of_lt hlt
  · have := h h' tk t' fun b o e => hk b o (by rw [List.mem_singleton]; exact Nat.ne_of_lt (Heap.lt_size e)) (Heap.get?_push_of_some _ e)
    have e2 : preSum (numAt xs) (intItems xs).size = ns.sum := by
      rw [preSum_eq, List.take_of_length_le (by simp [intItems]), hn]
    rw [e2]; exact this
end
/-- where built-ins run -/
structure Calm (X : Cx) : Prop where
  calm : X.calm = true
  un : X.A.units + 100 < cLine
  gd : X.A.guards = some []
theorem repr_ok {H : Hp} {B : Addr → Prop} {x : D} {a : Addr} (c : Calm X) (hK : G.K = X.K) (d : DR G.K H B (.ref a) x) (h1 : x.showable = true) (h2 : x.hasDict = false) (h3 : x.depth ≤ 60) (h4 : x.shown.length ≤ sizeLine) {pins : List (Addr × Obj)} {s : Shared} {σ : L2.St} {Q : VK} (I : Inv X pins σ H s)
    (q : Q (.str x.shown) H) : wpAny (model X.prog X.w) X.A (call (.builtin "repr") [.ref a]) (EP X pins σ Q) X.xe s := by
  obtain ⟨as, r⟩ := Dp.reads I x (.ref a) (.ref a) (hK ▸ d.dp) rfl
  refine PySem.repr_of_reads' r h1 (fun z => by rw [h2] at z; cases z) c.gd (by have := c.un; omega) (fun _ _ e => e) (fun h' u tk hk => ?_) h4
  exact ⟨.str x.shown, H, I.kept hk, ⟨u, rfl⟩, q⟩
/-- built-ins that raise nothing on their way -/
def cool : Prm → Bool
  | .len => true
  | .abs => true
  | .int => true
  | .str => true
  | _ => false
theorem cr_prm (p : Prm) (c : cool p = false → Calm X) (hK : G.K = X.K) : CallR X (prmOf p) (rPrm G p) := by
  rintro pins s σ H xs us Q I r ⟨ds, cc, v, dr, e, sc, q⟩
  unfold prmD at e
  split at e
  · cases e; cases sc
    obtain ⟨y, rfl, d⟩ := drs1 dr
    cases d with
    | lst h t => exact call_len pins s σ H _ us Q I r ⟨_, _, rfl, .inl ⟨_, hK ▸ sql_of h, rfl⟩, by rw [t.length]; exact q⟩
  · cases e; cases sc
    obtain ⟨y, rfl, d⟩ := drs1 dr
    cases d with
    | tup h t => exact call_len pins s σ H _ us Q I r ⟨_, _, rfl, .inr ⟨_, hK ▸ h, rfl⟩, by rw [t.length]; exact q⟩
  · split at e
    · rename_i hf
      cases e; cases sc
      obtain ⟨y, rfl, d⟩ := drs1 dr
      cases d
      exact call_len pins s σ H _ us Q I r ⟨_, _, rfl, ⟨fits_line hf, rfl⟩, q⟩
    · cases e
  · cases e; cases sc
    obtain ⟨y, rfl, d⟩ := drs1 dr
    cases d
    exact call_abs pins s σ H _ us Q I r ⟨_, rfl, q⟩
  · cases e; cases sc
    obtain ⟨y, rfl, d⟩ := drs1 dr
    cases d
    exact call_int1 pins s σ H _ us Q I r (.inl ⟨_, rfl, q⟩)
  · cases e; cases sc
    obtain ⟨y, rfl, d⟩ := drs1 dr
    cases d
    exact call_int1 pins s σ H _ us Q I r (.inr ⟨_, rfl, q⟩)
  · split at e
    · rename_i hf
      cases e; cases sc
      obtain ⟨y, rfl, d⟩ := drs1 dr
      cases d
      exact call_str_int pins s σ H _ us Q I r ⟨_, rfl, hf, q⟩
    · cases e
  · split at e
    · rename_i hf
      simp only [Bool.and_eq_true, decide_eq_true_eq, Bool.not_eq_true'] at hf
      cases e; cases sc
      obtain ⟨y, rfl, d⟩ := drs1 dr
      cases d with
      | lst h t =>
        rw [Vals.ref1 r]
        exact repr_ok (c rfl) hK (.lst h t) hf.1.1.1 hf.1.1.2 hf.1.2 (fits_line hf.2) I q
    · cases e
  · split at e
    · rename_i hf
      simp only [Bool.and_eq_true, decide_eq_true_eq, Bool.not_eq_true'] at hf
      cases e; cases sc
      obtain ⟨y, rfl, d⟩ := drs1 dr
      cases d with
      | tup h t =>
        rw [Vals.ref1 r]
        exact repr_ok (c rfl) hK (.tup h t) hf.1.1.1 hf.1.1.2 hf.1.2 (fits_line hf.2) I q
    · cases e
  · rename_i ys
    cases e2 : intsOf ys with
    | none => rw [e2] at e; cases e
    | some ns =>
      rw [e2] at e
      cases e; cases sc
      obtain ⟨y, rfl, d⟩ := drs1 dr
      cases d with
      | lst h t =>
        cases drs_ints t e2
        exact cr_sum (c rfl).calm pins s σ H _ us Q I r ⟨_, ns, rfl, hK ▸ sql_of h, by rw [← sumI_eq]; exact q⟩
  · rename_i ys
    cases e2 : intsOf ys with
    | none => rw [e2] at e; cases e
    | some ns =>
      rw [e2] at e
      cases e; cases sc
      obtain ⟨y, rfl, d⟩ := drs1 dr
      cases d with
      | tup h t =>
        cases drs_ints t e2
        obtain ⟨its, rv, hl, _⟩ := I.tuple (hK ▸ h)
        rw [Vals.ref1 r]
        exact sum_tup (I.ok.hd (c rfl).calm) hl rv.ints fun h' tk t' hk => ⟨.int _, H, I.kept hk, ⟨_, rfl⟩, by rw [← sumI_eq]; exact q⟩
  · split at e
    · rename_i ys n ns e2
      cases e; cases sc
      obtain ⟨y, rfl, d⟩ := drs1 dr
      cases d with
      | lst h t =>
        cases drs_ints t e2
        refine cr_max (c rfl).calm pins s σ H _ us Q I r ⟨_, n :: ns, rfl, hK ▸ sql_of h, Nat.succ_pos _, fun m h1 h2 => ?_⟩
        obtain ⟨h3, h4⟩ := maxI_is n ns
        have : m = maxI n ns := Int.le_antisymm (h4 m h1) (h2 _ h3)
        subst this; exact q
    · cases e
  · split at e
    · rename_i ys n ns e2
      cases e; cases sc
      obtain ⟨y, rfl, d⟩ := drs1 dr
      cases d with
      | lst h t =>
        cases drs_ints t e2
        refine cr_min (c rfl).calm pins s σ H _ us Q I r ⟨_, n :: ns, rfl, hK ▸ sql_of h, Nat.succ_pos _, fun m h1 h2 => ?_⟩
        obtain ⟨h3, h4⟩ := minI_is n ns
        have : m = minI n ns := Int.le_antisymm (h2 _ h3) (h4 m h1)
        subst this; exact q
    · cases e
  · cases e; cases sc
    obtain ⟨y, z, rfl, d1, d2⟩ := drs2 dr
    cases d1; cases d2
    exact call_max2 (c rfl).calm pins s σ H _ us Q I r ⟨_, _, rfl, q⟩
  · cases e; cases sc
    obtain ⟨y, z, rfl, d1, d2⟩ := drs2 dr
    cases d1; cases d2
    exact call_min2 (c rfl).calm pins s σ H _ us Q I r ⟨_, _, rfl, q⟩
  · rename_i ys
    cases e2 : boolsOf ys with
    | none => rw [e2] at e; cases e
    | some ns =>
      rw [e2] at e
      cases e; cases sc
      obtain ⟨y, rfl, d⟩ := drs1 dr
      cases d with
      | lst h t =>
        cases drs_bools t e2
        exact cr_all (c rfl).calm pins s σ H _ us Q I r ⟨_, ns, rfl, hK ▸ sql_of h, q⟩
  · rename_i ys
    cases e2 : boolsOf ys with
    | none => rw [e2] at e; cases e
    | some ns =>
      rw [e2] at e
      cases e; cases sc
      obtain ⟨y, rfl, d⟩ := drs1 dr
      cases d with
      | lst h t =>
        cases drs_bools t e2
        exact cr_any (c rfl).calm pins s σ H _ us Q I r ⟨_, ns, rfl, hK ▸ sql_of h, q⟩
  · cases e
theorem prmD_scal {p : Prm} {ds : List D} {c : D} (h : prmD p ds = some c) : ∃ v, scalV c = some v := by
  unfold prmD at h
  split at h <;> (try split at h) <;> first
    | (cases h; exact ⟨_, rfl⟩)
    | cases h
    | (rename_i ys; cases e2 : intsOf ys with | none => rw [e2] at h; cases h | some ns => rw [e2] at h; cases h; exact ⟨_, rfl⟩)
    | (rename_i ys; cases e2 : boolsOf ys with | none => rw [e2] at h; cases h | some ns => rw [e2] at h; cases h; exact ⟨_, rfl⟩)
theorem postP {Av : Addr → Prop} {s : S3} {p : Prm} {vs : List Val} {xs : List V} {Q : VK} (rp : RepH G Av s) (q : VRs G Av s vs xs) (po : Post G E Av s (fun v y s' => VR G Av s' v y) (prmV p vs s.h) Q) : rPrm G p xs s.H Q := by
  unfold prmV at po
  split at po
  · rename_i ds e1
    split at po
    · rename_i c e2
      obtain ⟨v, sc⟩ := prmD_scal e2
      exact ⟨ds, c, v, pks_dr rp q e1, e2, sc, po.fin rp (.d (scal_dr sc))⟩
    · exact po.elim
  · exact po.elim
theorem ip_prmB {p : Prm} {id : String} {x : Str} {px : Pos} {e : Expr} {es : List Expr} {ms : Sg → Hq → R (List Val)} (c : cool p = false → Calm X) (hK : G.K = X.K) (hp : prmOf p = .builtin id) (hg : Gl X x) (hm : X.mg x = none) (hv : bootBuiltins x = some (.builtin id)) (ha : PA X (e :: es) (tA G W ms)) (hn : x ≠ "__name__")
    (hdb : (x == ("__debug__" : Str)) = false) (he : starEach (e :: es) X.env = (false, eval e X.env) :: starEach es X.env) (hpl : (backTo pos (starEach es X.env)).any (·.1) = false) :
    PE X (.Call (.Name x px) (e :: es) [] pos) (tE G W fun σ h => (ms σ h).bind fun vs h1 => prmV p vs h1) := by
  refine (pe_callB (r := rPrm G p) (by rw [← hp]; exact cr_prm p c hK) hg hm hv ha hn hdb he hpl).imp fun τ H Q ⟨Av, s, σ, hH, rp, sr, po⟩ => ?_
  subst hH
  exact tA_bind rp sr po fun vs ys s1 rp1 st1 sr1 q1 p1 => postP rp1 q1 p1
theorem ip_prmT {p : Prm} {id : String} {x : Str} {px : Pos} {e : Expr} {es : List Expr} {ms : Sg → Hq → R (List Val)} (c : cool p = false → Calm X) (hK : G.K = X.K) (hp : prmOf p = .type id) (hg : Gl X x) (hm : X.mg x = none) (hv : bootBuiltins x = some (.type id)) (ha : PA X (e :: es) (tA G W ms)) (hn : x ≠ "__name__")
    (hdb : (x == ("__debug__" : Str)) = false) (he : starEach (e :: es) X.env = (false, eval e X.env) :: starEach es X.env) (hpl : (backTo pos (starEach es X.env)).any (·.1) = false) :
    PE X (.Call (.Name x px) (e :: es) [] pos) (tE G W fun σ h => (ms σ h).bind fun vs h1 => prmV p vs h1) := by
  refine (pe_callTy (r := rPrm G p) (by rw [← hp]; exact cr_prm p c hK) hg hm hv ha hn hdb he hpl).imp fun τ H Q ⟨Av, s, σ, hH, rp, sr, po⟩ => ?_
  subst hH
  exact tA_bind rp sr po fun vs ys s1 rp1 st1 sr1 q1 p1 => postP rp1 q1 p1

/-! ### an object written -/
theorem RepH.write {Av : Addr → Prop} {s : S3} (rp : RepH G Av s) {n : Nat} {a : Addr} {ws vs : List Val} {zs xs : List V} (hn : s.r[n]? = some a) (hl : s.h[n]? = some (.lst ws)) (hH : s.H a = some (.lst zs)) (q : VRs G Av s vs xs) :
    RepH G Av ⟨s.r, s.h.set n (.lst vs), upd s.H a (.lst xs)⟩ ∧ Stp s ⟨s.r, s.h.set n (.lst vs), upd s.H a (.lst xs)⟩ := by
  have hnl : n < s.h.length := lt_of_get hl
  have lv : ∀ m, live (s.h.set n (.lst vs)) m → live s.h m := fun m ⟨us, e, ha⟩ => by
    by_cases hmn : n = m
    · subst hmn; exact ⟨_, hl, rfl⟩
    · rw [List.getElem?_set_ne hmn] at e; exact ⟨us, e, ha⟩
  have st : Stp s ⟨s.r, s.h.set n (.lst vs), upd s.H a (.lst xs)⟩ :=
    ⟨List.prefix_refl _, fun m _ h => lv m h, fr_upd_live hH (fun _ z => by cases z) (fun _ _ z => by cases z) ⟨n, hn, _, hl, rfl⟩, fun _ h => .inl h⟩
  refine ⟨⟨by rw [List.length_set]; exact rp.len, rp.nd, fun m b o e1 e2 => ?_, fun b z => st.fr.there b (rp.av b z), rp.dis, fun b z => st.fr.there b (rp.trk b z), tabs_upd rp.tabs (.inr ⟨_, hH, fun _ z => (by cases z), fun _ z => (by unfold LamX.CodeO at z; cases z)⟩)⟩, st⟩
  by_cases hmn : n = m
  · subst hmn
    have e2 : (s.h.set n (.lst vs))[n]? = some o := e2
    rw [List.getElem?_set_self hnl] at e2
    cases e2
    have e1 : s.r[n]? = some b := e1
    rw [hn] at e1; cases e1
    exact ⟨xs, upd_same, st.vrs rp.nd q⟩
  · have e2 : (s.h.set n (.lst vs))[m]? = some o := e2
    rw [List.getElem?_set_ne hmn] at e2
    have q2 := rp.obj m b o e1 e2
    cases o with
    | lst us =>
      obtain ⟨ys, h1, h2⟩ := q2
      have : b ≠ a := fun z => by subst z; exact hmn (nd_get rp.nd hn e1)
      exact ⟨ys, (upd_ne this).trans h1, st.vrs rp.nd h2⟩
    | dead x => exact st.dr rp.nd q2
    | dct c =>
      obtain ⟨ob, h1, h2⟩ := q2
      have : b ≠ a := fun z => by subst z; exact hmn (nd_get rp.nd hn e1)
      exact ⟨ob, (upd_ne this).trans h1, h2.map (st.vr rp.nd) st.fr.sqt⟩
    | tx ds => exact tx_step st rp.nd q2
/-! ### o.append(a) -/
theorem ip_app {o a : Expr} {apos : Pos} {mo ma : Sg → Hq → R Val} (hK : G.K = X.K) (ho : PE X o (tE G W mo)) (ha : PE X a (tE G W ma)) (hbase : attributeBase o "append" X.env (eval o X.env) = eval o X.env)
    (hst : starEach [a] X.env = [(false, eval a X.env)]) (hline : (apos.endLine == pos.line) = true) :
    PE X (.Call (.Attribute o "append" apos) [a] [] pos) (tE G W fun σ h => (mo σ h).bind fun x h1 => (lstV x h1).bind fun _ h1 => (ma σ h1).bind fun y h2 => appV x y h2) := by
  have hst' : starEach [a] X.env = (false, eval a X.env) :: starEach [] X.env := by rw [hst]; rfl
  refine (pe_bm (T := "list") PySem.F.plainAttrs_list PySem.F.slot_list_append PySem.F.type_list_append mt_append ho (ia_cons (G := G) (W := W) ha ia_nil hst') hbase (by rw [hst]; rfl) hline hst' (by rfl)).imp fun τ H Q ⟨Av, s, σ, hH, rp, sr, p⟩ => ?_
  subst hH
  refine tE_bind rp sr p fun x y s1 rp1 st1 sr1 q1 p1 => ?_
  unfold lstV at p1
  split at p1
  · rename_i n
    split at p1
    · rename_i ws hl
      cases q1 with
      | ref hn =>
        rename_i b
        obtain ⟨zs, hH1, hv⟩ := rp1.obj n b _ hn hl
        refine ⟨.inl ⟨rfl, zs, hK ▸ .inl (.inl hH1)⟩, ?_⟩
        have p2 : Post G (We W τ) Av s1 (fun v y s' => VR G Av s' v y) ((((ma σ s1.h).bind fun v h1 => (R.ok ([] : List Val) h1).bind fun vs h2 => R.ok (v :: vs) h2)).bind fun vs h2 => match vs with | [y] => appV (.ref n) y h2 | _ => .no) Q := by
          have e : (((ma σ s1.h).bind fun v h1 => (R.ok ([] : List Val) h1).bind fun vs h2 => R.ok (v :: vs) h2)).bind (fun vs h2 => match vs with | [y] => appV (.ref n) y h2 | _ => .no) = (ma σ s1.h).bind fun y h2 => appV (.ref n) y h2 := by
            simp only [R.bind_assoc, R.bind_ok]
          rw [e]; exact p1
        refine tA_bind (m := fun σ h => (ma σ h).bind fun v h1 => (R.ok ([] : List Val) h1).bind fun vs h2 => R.ok (v :: vs) h2) rp1 sr1 p2 fun vs ys s2 rp2 st2 sr2 q2 p3 => ?_
        cases q2 with
        | nil => exact p3.elim
        | cons h t =>
          cases t with
          | cons _ _ => exact p3.elim
          | nil =>
            rename_i v z
            have p3 : Post G _ Av s2 (fun v y s' => VR G Av s' v y) (appV (.ref n) v s2.h) Q := p3
            unfold appV at p3
            simp only at p3
            split at p3
            · rename_i us hl2
              split at p3
              · rename_i hf
                have hn2 := pre_get st2.pre hn
                obtain ⟨ts, hH2, hv2⟩ := rp2.obj n b _ hn2 hl2
                obtain ⟨rp3, st3⟩ := rp2.write hn2 hl2 hH2 (hv2.append (.cons h .nil))
                refine ⟨b, ts, z, rfl, rfl, hH2, by rw [← hv2.length, sizeLine_eq]; exact hf, ?_⟩
                exact p3 ⟨s2.r, s2.h.set n (.lst (us ++ [v])), upd s2.H b (.lst (ts ++ [z]))⟩ .non rfl rp3 st3 (.d .non)
              · exact p3.elim
            · exact p3.elim
    · exact p1.elim
  · exact p1.elim
end
end Ip

set_option linter.all false
set_option Elab.async false
set_option autoImplicit false
/-! list(x), tuple(x), tuples joined and repeated, pop. -/
namespace Ip
open PySem L2
section
variable {X : Cx} {G : Gb} {E : XK} {W : WX} {pos : Pos}
theorem il_lst {e : Expr} {px : Pos} {m : Sg → Hq → R Val} (hK : G.K = X.K) (hg : Gl X "list") (hm : X.mg "list" = none) (ha : PE X e (tE G W m)) (st : starEach [e] X.env = (false, eval e X.env) :: starEach [] X.env) :
    PE X (.Call (.Name "list" px) [e] [] pos) (tL G W fun σ h => (m σ h).bind fun x h1 => match els h1 x with
    | some vs => .ok vs h1
    | none => .no) := by
  refine (pe_callTy call_list_of hg hm (by decide +kernel) (ia_cons (G := G) (W := W) ha ia_nil st) (by decide) (by decide) st (by rfl)).imp fun τ H Q ⟨Av, s, σ, hH, rp, sr, p⟩ => ?_
  subst hH
  refine ⟨Av, s, σ, rfl, rp, sr, ?_⟩
  revert p
  show Post G (We W τ) Av s (LR G Av s) ((m σ s.h).bind _) Q → Post G (We W τ) Av s _ ((m σ s.h).bind _) _
  cases m σ s.h with
  | no => exact fun p => p
  | er e h => exact fun p => p
  | ok v h1 =>
    intro p s1 ys e1 rp1 st1 q1
    subst e1
    cases q1 with
    | cons q t =>
      cases t
      have p : Post G (We W τ) Av s (LR G Av s) (match els s1.h v with
        | some vs => .ok vs s1.h
        | none => .no) Q := p
      cases e : els s1.h v with
      | none => rw [e] at p; exact p.elim
      | some vs =>
        rw [e] at p
        obtain ⟨a, xs, rfl, hq, hv⟩ := els_ok rp1 q e
        rw [hK] at hq
        refine ⟨a, xs, rfl, hq, fun l hl => ?_⟩
        obtain ⟨lr, rp2, st2⟩ := lr_new rp1 st1 hv hl
        exact p ⟨s1.r, s1.h, upd s1.H l (.lst xs)⟩ (.ref l) rfl rp2 st2 lr
/-- an argument's value, as a call has it -/
theorem one_bind {τ : L2.St} {m : Sg → Hq → R Val} {f : Val → Hq → R Val} {Q : VK} {Q' : List V → Hp → Prop} {Av : Addr → Prop} {s : S3} {σ : Sg} (rp : RepH G Av s) (sr : SR G Av s σ τ) (p : Post G (We W τ) Av s (fun v y s' => VR G Av s' v y) ((m σ s.h).bind f) Q)
    (h : ∀ (v : Val) (y : V) (s1 : S3), RepH G Av s1 → Stp s s1 → VR G Av s1 v y → Post G (We W τ) Av s1 (fun v y s' => VR G Av s' v y) (f v s1.h) Q → Q' [y] s1.H) :
    tA G W (fun σ h => (m σ h).bind fun v h1 => (R.ok ([] : List Val) h1).bind fun vs h2 => .ok (v :: vs) h2) τ s.H Q' := by
  have p' : Post G (We W τ) Av s (fun v y s' => VR G Av s' v y) (((m σ s.h).bind fun v h1 => (R.ok ([] : List Val) h1).bind fun vs h2 => .ok (v :: vs) h2).bind fun vs h2 => match vs with | [v] => f v h2 | _ => .no) Q := by
    have e : ((m σ s.h).bind fun v h1 => (R.ok ([] : List Val) h1).bind fun vs h2 => R.ok (v :: vs) h2).bind (fun vs h2 => match vs with | [v] => f v h2 | _ => R.no) = (m σ s.h).bind f := by
      simp only [R.bind_assoc, R.bind_ok]
    rw [e]; exact p
  refine tA_bind (m := fun σ h => (m σ h).bind fun v h1 => (R.ok ([] : List Val) h1).bind fun vs h2 => .ok (v :: vs) h2) rp sr p' fun vs ys s1 rp1 st1 sr1 q1 p1 => ?_
  cases q1 with
  | nil => exact p1.elim
  | cons q t =>
    cases t with
    | nil => exact h _ _ s1 rp1 st1 q p1
    | cons _ _ => exact p1.elim
theorem ip_tupO {e : Expr} {px : Pos} {m : Sg → Hq → R Val} (hK : G.K = X.K) (hg : Gl X "tuple") (hm : X.mg "tuple" = none) (ha : PE X e (tE G W m)) (st : starEach [e] X.env = (false, eval e X.env) :: starEach [] X.env) :
    PE X (.Call (.Name "tuple" px) [e] [] pos) (tE G W fun σ h => (m σ h).bind fun x h1 => tupV x h1) := by
  refine (pe_callTy call_tuple_of hg hm (by decide +kernel) (ia_cons (G := G) (W := W) ha ia_nil st) (by decide) (by decide) st (by rfl)).imp fun τ H Q ⟨Av, s, σ, hH, rp, sr, p⟩ => ?_
  subst hH
  refine one_bind rp sr p fun v y s1 rp1 st1 q1 p1 => ?_
  unfold tupV at p1
  split at p1
  · rename_i xs
    cases q1 with
    | d q =>
      cases q with
      | tup h t => exact ⟨_, _, rfl, .inr ⟨hK ▸ h, p1.fin rp1 (.d (.tup h t))⟩⟩
  · split at p1
    · rename_i vs hv
      obtain ⟨a, xs, rfl, hq, q⟩ := elsL_ok rp1 q1 hv
      obtain ⟨ds, h', r2, t2, d2, p2⟩ := Post.toDs rp1 q p1
      exact ⟨a, xs, rfl, .inl ⟨hK ▸ hq, fun l hl => Post.newT r2 d2 p2 hl⟩⟩
    · exact p1.elim
theorem DRs.append {K : PySem.W.Frag} {H : Hp} {B : Addr → Prop} : ∀ {xs ys : List V} {ds es : List D}, DRs K H B xs ds → DRs K H B ys es → DRs K H B (xs ++ ys) (ds ++ es)
  | _, _, _, _, .nil, q => q
  | _, _, _, _, .cons h t, q => .cons h (DRs.append t q)
theorem DRs.rep {K : PySem.W.Frag} {H : Hp} {B : Addr → Prop} {xs : List V} {ds : List D} (h : DRs K H B xs ds) : ∀ n : Nat, DRs K H B (List.replicate n xs).flatten (List.replicate n ds).flatten
  | 0 => .nil
  | n + 1 => by
    rw [List.replicate_succ, List.replicate_succ, List.flatten_cons, List.flatten_cons]
    exact h.append (DRs.rep h n)
theorem cat_r {Av : Addr → Prop} {s2 : S3} {v w : Val} {y z : V} {Q : VK} (hK : G.K = X.K) (rp2 : RepH G Av s2) (q1 : VR G Av s2 v y) (q2 : VR G Av s2 w z) (p2 : Post G E Av s2 (fun v y s' => VR G Av s' v y) (catV v w s2.h) Q) : rCatA X.K y z s2.H Q := by
  unfold catV at p2
  split at p2
  · split at p2
    · rename_i xs ys hf
      cases q1 with
      | d q1 =>
        cases q1 with
        | @tup a1 vs _ h1 t1 =>
          cases q2 with
          | d q2 =>
            cases q2 with
            | @tup a2 ws _ h2 t2 =>
              refine ⟨a1, a2, vs, ws, rfl, rfl, hK ▸ h1, hK ▸ h2, by rw [t1.length, t2.length]; exact fits_line hf, fun e => ?_, fun e1 e2 => ?_, fun _ _ p hp => ?_⟩
              · subst e
                cases t1
                exact p2.fin rp2 (.d (.tup h2 t2))
              · subst e2
                cases t2
                rw [List.append_nil] at p2
                exact p2.fin rp2 (.d (.tup h1 t1))
              · exact Post.newT rp2 (t1.append t2) p2 hp
    · exact p2.elim
  · exact p2.elim
section
open PySem.Spec PyProof.Rows
theorem tuple_mul1W (l : Addr) (items : Array Value) (n : Nat) (dd : Option Addr) (sl : Array (Option Value)) (u : Tok) :
    Meets (Builtin.«tuple.__mul__» ⟨[.ref l, .int 1 u], []⟩) (fun _ R s => s.heap.get? l = some { cls := .type "tuple", dict := dd, data := .seq items n, slots := sl } ∧ R (.ok (.ret (Value.ref l))) s) :=
  .of_wp fun prog w A R s h => by
    obtain ⟨hp, g, d, tk, os⟩ := s
    obtain ⟨hl, h⟩ := h
    have f1 := AutoSeq1.idx_int
    have c1 : (items.isEmpty || (1 : Int) == 1) = true := by simp
    wp_walk using wpAny_loadPart' hl
    exact ⟨_, rfl, h⟩
def rRep1 (K : PySem.W.Frag) : R2 := fun x y H Q => ∃ l xs, x = .ref l ∧ y = .int 1 ∧ SqT K H l xs ∧ Q (.ref l) H
theorem op_rep1 : OpR X (binaryOp .Mult) (rRep1 X.K) := by
  rintro pins s σ H x y v u Q I rx ry ⟨l, xs, rfl, rfl, hT, q⟩
  cases rx
  obtain ⟨t, rfl⟩ := ry
  obtain ⟨its, r, ⟨⟨cls, dd, data, sl⟩, ho, hc, n, hd⟩, hs⟩ := I.tuple hT
  simp only at hc hd
  subst hc hd
  exact wpAny_binaryOp_repeat_ref (T := "tuple") (U := "int") (by decide) ⟨_, ho, rfl⟩ (fun s' => typeIs_int s' 1 t) noFill_tuple_mul PySem.F.fills_int_mul PySem.F.slot_int_rmul repeat_tuple PySem.F.slot_int_index.lookup
    (call_meets PySem.F.slot_int_rmul (typeIs_int s 1 t) PySem.F.entry_int_rmul (PySem.F.args_int_rmul_2 _ _) (int_rmul_tuple 1 t l its.toArray n dd sl)
      ⟨ho, rfl, ⟨_, ho, rfl⟩, call_meets PySem.F.slot_tuple_mul ⟨_, ho, rfl⟩ PySem.F.entry_tuple_mul (PySem.F.args_tuple_mul_2 _ _) (tuple_mul1W l its.toArray n dd sl t) ⟨ho, ⟨.ref l, H, I, rfl, q⟩⟩⟩)
end
theorem rep_r {Av : Addr → Prop} {s2 : S3} {v w : Val} {y z : V} {Q : VK} (hK : G.K = X.K) (rp2 : RepH G Av s2) (r1 : VR G Av s2 v y) (q2 : VR G Av s2 w z) (p2 : Post G E Av s2 (fun v y s' => VR G Av s' v y) (repV v w s2.h) Q) : rRepT X.K y z s2.H Q ∨ rRep1 X.K y z s2.H Q := by
  unfold repV at p2
  split at p2
  · split at p2
    · rename_i xs k hk
      subst hk
      cases r1 with
      | d r1 =>
        cases r1 with
        | @tup a1 vs _ h t =>
          cases q2 with
          | d q2 =>
            cases q2
            exact .inr ⟨a1, vs, rfl, rfl, hK ▸ h, p2.fin rp2 (.d (.tup h t))⟩
    split at p2
    · rename_i xs k _ hf
      simp only [Bool.and_eq_true, decide_eq_true_eq, Bool.not_eq_true'] at hf
      obtain ⟨⟨⟨h1, h2⟩, h3⟩, h4⟩ := hf
      have h3 := lt_of_log2 h3
      cases r1 with
      | d r1 =>
        cases r1 with
        | @tup a1 vs _ h t =>
          cases q2 with
          | d q2 =>
            cases q2
            refine .inl ⟨a1, k, vs, rfl, rfl, hK ▸ h, fun e => ?_, h4, by omega, by rw [t.length]; exact h2, fun p hp => Post.newT rp2 (t.rep _) p2 hp⟩
            subst e
            cases t
            simp at h1
    · exact p2.elim
  · exact p2.elim
theorem op_binA (o : Bop) : OpR X (binaryOp (opOf o)) (fun x y H Q => rBin G o x y H Q ∨ (o = .add ∧ rCatA X.K x y H Q) ∨ (o = .mul ∧ (rRepT X.K x y H Q ∨ rRep1 X.K x y H Q))) := fun pins s σ H x y v u Q I rx ry h => by
  rcases h with h | ⟨rfl, h⟩ | ⟨rfl, h⟩
  · exact op_bin o pins s σ H x y v u Q I rx ry h
  · exact op_catA pins s σ H x y v u Q I rx ry h
  · exact (op_repT.or op_rep1) pins s σ H x y v u Q I rx ry h
theorem ip_binA {a b : Expr} {ma mb : Sg → Hq → R Val} (o : Bop) (hK : G.K = X.K) (ha : PE X a (tE G W ma)) (hb : PE X b (tE G W mb)) :
    PE X (.BinOp a (opOf o) b pos) (tE G W fun σ h => (ma σ h).bind fun x h1 => (mb σ h1).bind fun y h2 => binA o x y h2) := by
  refine (pe_op (op_binA (G := G) o) ha hb).imp fun τ H Q ⟨Av, s, σ, hH, rp, sr, p⟩ => ?_
  subst hH
  refine tE_bind rp sr p fun v y s1 rp1 st1 sr1 q1 p1 => ?_
  refine tE_bind rp1 sr1 p1 fun w z s2 rp2 st2 sr2 q2 p2 => ?_
  have r1 := st2.vr rp2.nd q1
  unfold binA at p2
  cases e : binV o v w s2.h with
  | ok c h => rw [e] at p2; exact .inl (post2 rp2 r1 q2 (by rw [e]; exact p2))
  | er c h => rw [e] at p2; exact .inl (post2 rp2 r1 q2 (by rw [e]; exact p2))
  | no =>
    rw [e] at p2
    cases o with
    | add => exact .inr (.inl ⟨rfl, cat_r hK rp2 r1 q2 p2⟩)
    | mul => exact .inr (.inr ⟨rfl, rep_r hK rp2 r1 q2 p2⟩)
    | sub => exact p2.elim
    | fdiv => exact p2.elim
    | mod => exact p2.elim
    | pow => exact p2.elim
theorem ip_pop {o : Expr} {apos : Pos} {mo : Sg → Hq → R Val} (hK : G.K = X.K) (ho : PE X o (tE G W mo)) (hbase : attributeBase o "pop" X.env (eval o X.env) = eval o X.env) (hline : (apos.endLine == pos.line) = true) :
    PE X (.Call (.Attribute o "pop" apos) [] [] pos) (tE G W fun σ h => (mo σ h).bind fun x h1 => popV x h1) := by
  refine (pe_bm0 (T := "list") PySem.F.plainAttrs_list PySem.F.slot_list_pop PySem.F.type_list_pop mt_pop ho hbase hline).imp fun τ H Q ⟨Av, s, σ, hH, rp, sr, p⟩ => ?_
  subst hH
  refine tE_bind rp sr p fun x y s1 rp1 st1 sr1 q1 p1 => ?_
  unfold popV at p1
  split at p1
  · rename_i n
    split at p1
    · rename_i ws hl
      split at p1
      · rename_i v hv
        cases q1 with
        | ref hn =>
          rename_i b
          obtain ⟨zs, hH1, hz⟩ := rp1.obj n b _ hn hl
          refine ⟨.inl ⟨rfl, zs, hK ▸ .inl (.inl hH1)⟩, ?_⟩
          rw [List.getLast?_eq_getElem?] at hv
          obtain ⟨w, hw, qw⟩ := hz.get hv
          have hd : VRs G Av s1 ws.dropLast zs.dropLast := by
            rw [List.dropLast_eq_take, List.dropLast_eq_take, ← hz.length]
            exact hz.take _
          obtain ⟨rp3, st3⟩ := rp1.write hn hl hH1 hd
          refine ⟨b, zs, w, rfl, rfl, hH1, by rw [← hz.length]; exact hw, ?_⟩
          exact p1 ⟨s1.r, s1.h.set n (.lst ws.dropLast), upd s1.H b (.lst zs.dropLast)⟩ w rfl rp3 st3 (st3.vr rp3.nd qw)
      · exact p1.elim
    · exact p1.elim
  · exact p1.elim
end
end Ip

set_option linter.all false
set_option Elab.async false
set_option autoImplicit false
/-! Lists joined and repeated. -/
namespace Ip
open PySem L2 PyProof.Rows
section
variable {X : Cx} {G : Gb} {E : XK} {W : WX} {pos : Pos}
theorem okRng_c0 {i : Int} (h : okRng i = true) : -(2 ^ 62) ≤ i ∧ i < 2 ^ 62 := by
  have h := lt_of_log2 (of_decide_eq_true h)
  omega
def rCatL (K : PySem.W.Frag) : R2 := fun x y H Q => ∃ a b xs ys, x = .ref a ∧ y = .ref b ∧ SqL K H a xs ∧ SqL K H b ys ∧ xs.length + ys.length ≤ sizeLine ∧ ∀ p, H p = none → Q (.ref p) (upd H p (.lst (xs ++ ys)))
theorem op_catL : OpR X (binaryOp .Add) (rCatL X.K) := by
  rintro pins s σ H x y v u Q I rx ry ⟨a, b, xs, ys, rfl, rfl, h1, h2, hz, q⟩
  cases rx; cases ry
  obtain ⟨is, r1, ⟨⟨c1, d1, t1, l1⟩, n1, e1, ec1, ed1, et1⟩, _⟩ := I.list h1
  obtain ⟨js, r2, ⟨⟨c2, d2, t2, l2⟩, n2, e2, ec2, ed2, et2⟩, _⟩ := I.list h2
  simp only at ec1 ed1 et1 ec2 ed2 et2
  subst ec1 ed1 et1 ec2 ed2 et2
  have z1 := r1.length
  have z2 := r2.length
  refine concat_meets ⟨_, e1, rfl⟩ ⟨_, e2, rfl⟩ noFill_list_add seq_list_add PySem.F.slot_list_add PySem.F.entry_list_add (PySem.F.args_list_add_2 _ _) (list_addW a b is.toArray js.toArray n1 n2 none none l1 l2 (by simp only [List.size_toArray]; omega)) ⟨e1, e2, ?_⟩
  have ea : is.toArray ++ js.toArray = (is ++ js).toArray := by simp
  rw [ea]
  exact ⟨.ref _, _, I.lnew (t' := s.toks) (r1.append r2) (by rw [List.length_append]; omega), rfl, q _ I.fresh⟩
theorem il_cat {a b : Expr} {ma mb : Sg → Hq → R Val} (hK : G.K = X.K) (ha : PE X a (tE G W ma)) (hb : PE X b (tE G W mb)) :
    PE X (.BinOp a .Add b pos) (tL G W fun σ h => (ma σ h).bind fun x h1 => (mb σ h1).bind fun y h2 => catL x y h2) := by
  refine (pe_op op_catL ha hb).imp fun τ H Q ⟨Av, s, σ, hH, rp, sr, p⟩ => ?_
  subst hH
  refine tE_bind rp sr p fun v y s1 rp1 st1 sr1 q1 p1 => ?_
  refine tE_bind rp1 sr1 p1 fun w z s2 rp2 st2 sr2 q2 p2 => ?_
  have q1 := st2.vr rp2.nd q1
  unfold catL at p2
  split at p2
  · rename_i vs ws e1 e2
    split at p2
    · rename_i hf
      obtain ⟨a1, xs, rfl, h1, t1⟩ := elsL_ok rp2 q1 e1
      obtain ⟨a2, ys, rfl, h2, t2⟩ := elsL_ok rp2 q2 e2
      refine ⟨a1, a2, xs, ys, rfl, rfl, hK ▸ h1, hK ▸ h2, by rw [← t1.length, ← t2.length]; exact fits_line hf, fun p hp => ?_⟩
      have lr := (lr_new rp2 (st1.trans st2 rp1.nd rp1.len) (t1.append t2) hp).1
      obtain ⟨rp3, st3⟩ := rp2.upd_new (o := .lst (xs ++ ys)) hp
      exact p2 ⟨s2.r, s2.h, upd s2.H p (.lst (xs ++ ys))⟩ (.ref p) rfl rp3 st3 lr
    · exact p2.elim
  · exact p2.elim
theorem VRs.rep {Av : Addr → Prop} {s : S3} {vs : List Val} {xs : List V} (h : VRs G Av s vs xs) : ∀ n : Nat, VRs G Av s (List.replicate n vs).flatten (List.replicate n xs).flatten
  | 0 => .nil
  | n + 1 => by
    rw [List.replicate_succ, List.replicate_succ, List.flatten_cons, List.flatten_cons]
    exact h.append (VRs.rep h n)
theorem il_rep {l b : Expr} {ml : Sg → Hq → R (List Val)} {mb : Sg → Hq → R Val} (hl : PE X l (tL G W ml)) (hb : PE X b (tE G W mb)) :
    PE X (.BinOp l .Mult b pos) (tL G W fun σ h => (ml σ h).bind fun vs h1 => (mb σ h1).bind fun y h2 => repL vs y h2) := by
  refine (pe_op op_rep hl hb).imp fun τ H Q ⟨Av, s, σ, hH, rp, sr, p⟩ => ?_
  subst hH
  refine tL_bind rp sr p fun vs y s1 rp1 st1 sr1 lr p1 => ?_
  obtain ⟨a, xs, rfl, ha, rpA, hx, hv⟩ := lr
  refine tE_bind rp1 sr1 p1 fun w z s2 rp2 st2 sr2 q2 p2 => ?_
  have hv2 := st2.vrs rp2.nd (hv.less fun a z => .inl z)
  have hx2 : s2.H a = some (.lst xs) := st2.fr.keep a _ hx (fun ⟨n, e, _⟩ => rpA.dis a (.inr rfl) (List.mem_of_getElem? e)) (fun ps z => by cases z)
  unfold repL at p2
  split at p2
  · rename_i k
    split at p2
    · rename_i hf
      simp only [Bool.and_eq_true] at hf
      obtain ⟨h1, h2⟩ := okRng_c0 hf.1
      cases q2 with
      | d q2 =>
        cases q2
        refine ⟨a, k, xs, rfl, rfl, hx2, by omega, by omega, by rw [← hv2.length]; exact fits_line hf.2, fun p hp => ?_⟩
        have lr := (lr_new rp2 (st1.trans st2 rp1.nd rp1.len) (hv2.rep k.toNat) hp).1
        obtain ⟨rp3, st3⟩ := rp2.upd_new (o := .lst (List.replicate k.toNat xs).flatten) hp
        exact p2 ⟨s2.r, s2.h, upd s2.H p (.lst (List.replicate k.toNat xs).flatten)⟩ (.ref p) rfl rp3 st3 lr
    · exact p2.elim
  · exact p2.elim
end
end Ip

set_option linter.all false
set_option Elab.async false
set_option autoImplicit false
/-! extend, divmod, tuple.index, len(set(..)), dicts made. -/
namespace Ip
open PySem L2
section
variable {X : Cx} {G : Gb} {E : XK} {W : WX} {pos : Pos}
/-! ### o.extend(l) -/
theorem ip_ext {o l : Expr} {apos : Pos} {mo : Sg → Hq → R Val} {ml : Sg → Hq → R (List Val)} (hK : G.K = X.K) (ho : PE X o (tE G W mo)) (hl : PE X l (tL G W ml)) (hbase : attributeBase o "extend" X.env (eval o X.env) = eval o X.env)
    (hst : starEach [l] X.env = [(false, eval l X.env)]) (hline : (apos.endLine == pos.line) = true) :
    PE X (.Call (.Attribute o "extend" apos) [l] [] pos) (tE G W fun σ h => (mo σ h).bind fun x h1 => (lstV x h1).bind fun _ h1 => (ml σ h1).bind fun vs h2 => extV x vs h2) := by
  have hst' : starEach [l] X.env = (false, eval l X.env) :: starEach [] X.env := by rw [hst]; rfl
  refine (pe_bm (T := "list") PySem.F.plainAttrs_list PySem.F.slot_list_extend PySem.F.type_list_extend mt_extend ho (pa_cons hl pa_nil hst') hbase (by rw [hst]; rfl) hline hst' (by rfl)).imp fun τ H Q ⟨Av, s, σ, hH, rp, sr, p⟩ => ?_
  subst hH
  refine tE_bind rp sr p fun x y s1 rp1 st1 sr1 q1 p1 => ?_
  unfold lstV at p1
  split at p1
  · rename_i n
    split at p1
    · rename_i ws hl1
      cases q1 with
      | ref hn =>
        rename_i b
        obtain ⟨zs, hH1, hv⟩ := rp1.obj n b _ hn hl1
        refine ⟨.inl ⟨rfl, zs, hK ▸ .inl (.inl hH1)⟩, ?_⟩
        have p2 : Post G (We W τ) Av s1 (fun v y s' => VR G Av s' v y) ((ml σ s1.h).bind fun vs h2 => extV (.ref n) vs h2) Q := p1
        show tL G W ml τ s1.H _
        refine tL_bind rp1 sr1 p2 fun vs y s2 rp2 st2 sr2 lr p3 => ?_
        obtain ⟨q, xs, rfl, hq, rpA, hx, hvs⟩ := lr
        unfold extV at p3
        simp only at p3
        split at p3
        · rename_i us hl2
          split at p3
          · rename_i hf
            have hn2 := pre_get st2.pre hn
            obtain ⟨ts, hH2, hv2⟩ := rp2.obj n b _ hn2 hl2
            have hvA := hvs.less (Av' := Av) (fun a z => .inl z)
            obtain ⟨rp3, st3⟩ := rp2.write hn2 hl2 hH2 (hv2.append hvA)
            refine ⟨b, q, ts, xs, rfl, rfl, hH2, hx, by rw [← hv2.length, ← hvA.length]; exact fits_line hf, ?_⟩
            exact p3 ⟨s2.r, s2.h.set n (.lst (us ++ vs)), upd s2.H b (.lst (ts ++ xs))⟩ .non rfl rp3 st3 (.d .non)
          · exact p3.elim
        · exact p3.elim
    · exact p1.elim
  · exact p1.elim
/-! ### divmod -/
theorem ip_dvm {a b : Expr} {px : Pos} {ma mb : Sg → Hq → R Val} (hg : Gl X "divmod") (hm : X.mg "divmod" = none) (ha : PE X a (tE G W ma)) (hb : PE X b (tE G W mb)) (hs : starEach [a, b] X.env = [(false, eval a X.env), (false, eval b X.env)]) (hs2 : starEach [b] X.env = [(false, eval b X.env)]) :
    PE X (.Call (.Name "divmod" px) [a, b] [] pos) (tE G W fun σ h => (ma σ h).bind fun x h1 => (mb σ h1).bind fun y h2 => dvmV x y h2) := by
  have hst' : starEach [a, b] X.env = (false, eval a X.env) :: starEach [b] X.env := by rw [hs, hs2]
  have hst2 : starEach [b] X.env = (false, eval b X.env) :: starEach [] X.env := by rw [hs2]; rfl
  refine (pe_callB call_divmodW hg hm (by decide +kernel) (pa_cons ha (pa_cons hb pa_nil hst2) hst') (by decide) (by decide) hst' (by rw [hs2]; rfl)).imp fun τ H Q ⟨Av, s, σ, hH, rp, sr, p⟩ => ?_
  subst hH
  refine tE_bind rp sr p fun v y s1 rp1 st1 sr1 q1 p1 => ?_
  refine tE_bind rp1 sr1 p1 fun w z s2 rp2 st2 sr2 q2 p2 => ?_
  have q1 := st2.vr rp2.nd q1
  unfold dvmV at p2
  split at p2
  · split at p2
    · rename_i hf
      simp only [Bool.and_eq_true, decide_eq_true_eq] at hf
      have hf2 := hf.2
      unfold okDiv at hf2
      simp only [Bool.and_eq_true, decide_eq_true_eq] at hf2
      cases q1 with
      | d q1 =>
        cases q1
        cases q2 with
        | d q2 =>
          cases q2
          exact ⟨_, _, rfl, ⟨hf.1, PyProof.noPylong_of_log2 (by omega)⟩, fun p hp => Post.newT rp2 (.cons (.int _) (.cons (.int _) .nil)) p2 hp⟩
    · exact p2.elim
  · exact p2.elim
/-! ### t.index(x), ints -/
section
open PySem.Spec PyProof.Rows
theorem mt_tup_indexI : MtR X "tuple.index" (fun x xs H Q => ∃ p, ∃ ys : List Int, ∃ z j, x = .ref p ∧ xs = [.int z] ∧ SqT X.K H p (ys.map V.int) ∧ ys[j]? = some z ∧ (∀ m, m < j → ys[m]? ≠ some z) ∧ Q (.int (j : Nat)) H) := by
  rintro pins s σ H x xs v us Q I rx rs ⟨p, ys, z, j, rfl, rfl, hq, hy, hno, q⟩
  cases rx
  obtain ⟨u, rfl, t, rfl⟩ := vals1 rs
  obtain ⟨its, r, ⟨⟨cls, dd, dt, sl⟩, ho, hc, n, hd⟩, hz⟩ := I.tuple hq
  simp only at hc hd
  subst hc hd
  have hl : its.toArray.size = ys.length := by rw [List.size_toArray, ← r.length, List.length_map]
  have at' : ∀ (m : Nat) (hm : m < its.toArray.size), ∃ y t', ys[m]? = some y ∧ its.toArray[m] = Value.int y t' := fun m hm => by
    have hm' : m < ys.length := hl ▸ hm
    obtain ⟨w, hw, t', hw'⟩ := r.get (i := m) (x := .int ys[m]) (by simp [hm'])
    refine ⟨ys[m], t', List.getElem?_eq_getElem hm', ?_⟩
    rw [← hw', ← (List.getElem?_eq_some_iff.mp hw).2]
    simp
  have flat : (ys.map V.int).all flatV = true := by
    rw [List.all_eq_true]
    intro y hy
    obtain ⟨i, _, rfl⟩ := List.mem_map.mp hy
    rfl
  have hj : j < its.toArray.size := hl ▸ (List.getElem?_eq_some_iff.mp hy).1
  refine call_meets PySem.F.slot_tuple_index ⟨_, ho, rfl⟩ PySem.F.entry_tuple_index (PySem.F.args_tuple_index_2 _ _) (TI.tuple_indexAt p its.toArray n dd sl (.int z t) (eqU (.int z)) j hj ?_ ?_)
    ⟨ho, fun w hw => mem_eqAt (x := .int z) ⟨t, rfl⟩ rfl r flat w (by simpa using hw), ⟨.int (j : Nat), H, I.tok _, ⟨_, rfl⟩, q⟩⟩
  · obtain ⟨y, t', h1, h2⟩ := at' j hj
    rw [hy] at h1
    cases h1
    rw [h2]
    exact beq_self_eq_true z
  · intro m hm hmj
    obtain ⟨y, t', h1, h2⟩ := at' m hm
    rw [h2]
    exact beq_eq_false_iff_ne.mpr fun e => hno m hmj (e ▸ h1)
end
theorem findIx_is (k : Int) : ∀ {ns : List Int} {j : Nat}, ns.findIdx? (· == k) = some j → ns[j]? = some k ∧ ∀ m, m < j → ns[m]? ≠ some k
  | [], _, h => by simp at h
  | n :: ns, j, h => by
    rw [List.findIdx?_cons] at h
    cases hb : n == k with
    | true =>
      rw [hb, if_pos rfl] at h
      cases h
      exact ⟨by rw [eq_of_beq hb]; rfl, fun m hm => absurd hm (Nat.not_lt_zero _)⟩
    | false =>
      rw [hb, if_neg Bool.false_ne_true] at h
      cases e : ns.findIdx? (· == k) with
      | none => rw [e] at h; cases h
      | some i =>
        rw [e] at h
        cases h
        obtain ⟨h1, h2⟩ := findIx_is k e
        refine ⟨h1, fun m hm => ?_⟩
        cases m with
        | zero => intro z; rw [Option.some.inj z] at hb; simp at hb
        | succ m => exact h2 m (Nat.lt_of_succ_lt_succ hm)
/-- an exact tuple of this run, as it lies -/
theorem tx_isT {pins : List (Addr × Obj)} {σ : L2.St} {H : Hp} {s : Shared} {a : Addr} {o : Obj} {xs : List V} (I : Inv X pins σ H s) (h : H a = some (.frz o (.tup xs))) (hd : o.dict = none) :
    s.TypeIs (.ref a) "tuple" ∧ ∀ b, Value.ref a = .ref b → ∃ ob, s.heap.get? b = some ob ∧ ob.dict = none := by
  obtain ⟨h1, _, _, _, o', h2, h3, _⟩ := (show ObjOk X.prog X.w H s.heap a (.frz o (.tup xs)) from I.hok a _ h)
  rw [h1] at h2
  cases h2
  exact ⟨⟨_, h1, h3⟩, fun b e => by cases e; exact ⟨_, h1, hd⟩⟩
/-- a method of an exact tuple -/
theorem pe_bmX {name : Str} {id : String} {o e : Expr} {es : List Expr} {apos cpos : Pos} {r : V → List V → Hp → VK → Prop} {to : TE} {t : TA} (pa : PlainAttrs "tuple") (slot : Slot "tuple" name id) (hty : typeOf (.builtin id) = pure (.type "method_descriptor")) (hm : MtR X id r) (ho : PE X o to) (ha : PA X (e :: es) t)
    (hbase : attributeBase o name X.env (eval o X.env) = eval o X.env)
    (hfew : ((backTo cpos (starEach (e :: es) X.env)).all (fun x => !x.1) && (backToKw cpos (keywordEach [] X.env)).all (fun x => x.1.isSome)
      && decide ((e :: es).length + ([] : List Keyword).length + (if ([] : List Keyword).isEmpty then 0 else 1) < 30)) = true)
    (hline : (apos.endLine == cpos.line) = true) (hs : starEach (e :: es) X.env = (false, eval e X.env) :: starEach es X.env) (hplain : (backTo cpos (starEach es X.env)).any (·.1) = false := by rfl) :
    PE X (.Call (.Attribute o name apos) (e :: es) [] cpos) (fun σ H Q => to σ H fun x H1 => ∃ a ob xs, x = .ref a ∧ H1 a = some (.frz ob (.tup xs)) ∧ ob.dict = none ∧ t σ H1 fun vs H2 => r x vs H2 Q) := by
  refine ⟨fun pins s σ H Q I h => ?_⟩
  refine PySem.wpAny_Call_method_late hbase hfew hline rfl (thn (ho.run pins s σ H _ I h) fun v s1 ⟨x, H1, I1, r1, a, ob, xs, e0, e1, e2, q1⟩ => ?_)
  subst e0
  obtain rfl : v = Value.ref a := r1
  obtain ⟨h1, h2⟩ := tx_isT I1 e1 e2
  refine ⟨"tuple", id, pa, slot, hty, h1, h2, ?_⟩
  have hA := ha.run cpos pins s1 σ H1 _ I1 q1
  rw [hs] at hA ⊢
  refine Calls.callWith_builtin (by show (false || (backTo cpos (starEach es X.env)).any (·.1)) = false; rw [hplain] <;> rfl) (Calls.evalArgs_plain ?_)
  exact thn hA fun us s2 ⟨vs, H2, I2, r2, q2⟩ => hm pins s2 σ H2 (.ref a) vs (.ref a) us Q I2 (show RelV (.ref a) (.ref a) from rfl) r2 q2
theorem ip_tix {o a : Expr} {apos : Pos} {mo ma : Sg → Hq → R Val} (hK : G.K = X.K) (ho : PE X o (tE G W mo)) (ha : PE X a (tE G W ma)) (hbase : attributeBase o "index" X.env (eval o X.env) = eval o X.env)
    (hst : starEach [a] X.env = [(false, eval a X.env)]) (hline : (apos.endLine == pos.line) = true) :
    PE X (.Call (.Attribute o "index" apos) [a] [] pos) (tE G W fun σ h => (mo σ h).bind fun x h1 => (txV x h1).bind fun ds h1 => (ma σ h1).bind fun y h2 => tixV ds y h2) := by
  have hst' : starEach [a] X.env = (false, eval a X.env) :: starEach [] X.env := by rw [hst]; rfl
  refine (pe_bmX PySem.F.plainAttrs_tuple PySem.F.slot_tuple_index PySem.F.type_tuple_index mt_tup_indexI ho (pa_cons ha pa_nil hst') hbase (by rw [hst]; rfl) hline hst').imp fun τ H Q ⟨Av, s, σ, hH, rp, sr, p⟩ => ?_
  subst hH
  refine tE_bind rp sr p fun x y s1 rp1 st1 sr1 q1 p1 => ?_
  unfold txV at p1
  split at p1
  · rename_i n
    split at p1
    · rename_i ds hl
      cases q1 with
      | ref hn =>
        rename_i b
        obtain ⟨ob, xs, e1, e2, e3⟩ := rp1.obj n b _ hn hl
        refine ⟨b, ob, xs, rfl, e2, e1, ?_⟩
        have p2 : Post G (We W τ) Av s1 (fun v y s' => VR G Av s' v y) ((ma σ s1.h).bind fun y h2 => tixV ds y h2) Q := p1
        show tE G W ma τ s1.H _
        refine tE_bind rp1 sr1 p2 fun w z s2 rp2 st2 sr2 q2 p3 => ?_
        unfold tixV at p3
        split at p3
        · rename_i k
          cases q2 with
          | d q2 =>
            cases q2
            split at p3
            · rename_i ns e4
              split at p3
              · rename_i j ej
                obtain ⟨h1, h2⟩ := findIx_is k ej
                have hT := st2.fr.frz _ _ _ e2
                rw [drs_ints e3 e4] at hT
                exact ⟨b, ns, k, j, rfl, rfl, hK ▸ .inl (.inr ⟨ob, hT⟩), h1, h2, p3.fin rp2 (.d (.int _))⟩
              · exact p3.elim
            · exact p3.elim
        · exact p3.elim
    · exact p1.elim
  · exact p1.elim
/-! ### objects that are made -/
theorem RepH.newO {Av : Addr → Prop} {s : S3} (rp : RepH G Av s) {p : Addr} {io : IO} {ob : HO} (hp : s.H p = none) (cr : Stp s ⟨s.r ++ [p], s.h ++ [io], upd s.H p ob⟩ → (s.r ++ [p]).Nodup → OR G Av ⟨s.r ++ [p], s.h ++ [io], upd s.H p ob⟩ p io) :
    RepH G Av ⟨s.r ++ [p], s.h ++ [io], upd s.H p ob⟩ ∧ Stp s ⟨s.r ++ [p], s.h ++ [io], upd s.H p ob⟩ ∧ VR G Av ⟨s.r ++ [p], s.h ++ [io], upd s.H p ob⟩ (.ref s.h.length) (.ref p) := by
  obtain ⟨r1, t1⟩ := rp.upd_new (o := ob) hp
  have np : p ∉ s.r := fun z => rp.trk p z hp
  have nA : ¬ Av p := fun z => rp.av p z hp
  have st : Stp s ⟨s.r ++ [p], s.h ++ [io], upd s.H p ob⟩ := by
    refine ⟨List.prefix_append _ _, fun n hn ⟨o, hl, ha⟩ => ?_, fr_upd_new hp, fun b hb => ?_⟩
    · rw [List.getElem?_append_left (by rw [← rp.len]; exact hn)] at hl
      exact ⟨o, hl, ha⟩
    · rcases List.mem_append.mp hb with w | w
      · exact .inl w
      · have : b = p := by simpa using w
        subst this; exact .inr hp
  have nd : (s.r ++ [p]).Nodup := by
    rw [List.nodup_append]
    exact ⟨rp.nd, by simp, fun x hx2 y hy => by
      have : y = p := by simpa using hy
      subst this; exact fun z => np (z ▸ hx2)⟩
  refine ⟨⟨by simp [rp.len], nd, fun n b o e1 e2 => ?_, fun b z => st.fr.there b (rp.av b z), fun b z w => ?_, fun b z => ?_, r1.tabs⟩, st, .ref ?_⟩
  · by_cases hn : n < s.r.length
    · have e1 : (s.r ++ [p])[n]? = some b := e1
      have e2 : (s.h ++ [io])[n]? = some o := e2
      rw [List.getElem?_append_left hn] at e1
      rw [List.getElem?_append_left (by rw [← rp.len]; exact hn)] at e2
      have q := rp.obj n b o e1 e2
      have nb : b ≠ p := fun z => np (z ▸ List.mem_of_getElem? e1)
      cases o with
      | lst ws => obtain ⟨zs, h1, h2⟩ := q; exact ⟨zs, (upd_ne nb).trans h1, st.vrs nd h2⟩
      | dead x => exact st.dr nd q
      | dct c2 => obtain ⟨ob2, h1, h2⟩ := q; exact ⟨ob2, (upd_ne nb).trans h1, h2.map (st.vr nd) st.fr.sqt⟩
      | tx ds => exact tx_step st nd q
    · have e1 : (s.r ++ [p])[n]? = some b := e1
      have e2 : (s.h ++ [io])[n]? = some o := e2
      rw [List.getElem?_append_right (Nat.not_lt.mp hn)] at e1
      rw [List.getElem?_append_right (by rw [← rp.len]; exact Nat.not_lt.mp hn), ← rp.len] at e2
      cases hk : n - s.r.length with
      | zero =>
        rw [hk] at e1 e2
        have e1 : some p = some b := e1
        have e2 : some io = some o := e2
        cases e1; cases e2
        exact cr st nd
      | succ k => rw [hk] at e1; cases e1
  · rcases List.mem_append.mp w with w | w
    · exact rp.dis b z w
    · have : b = p := by simpa using w
      subst this; exact nA z
  · rcases List.mem_append.mp z with w | w
    · exact st.fr.there b (rp.trk b w)
    · have : b = p := by simpa using w
      subst this
      show upd s.H b ob b ≠ none
      rw [upd_same]; exact fun z => by cases z
  · show (s.r ++ [p])[s.h.length]? = some p
    rw [← rp.len, List.getElem?_append_right (Nat.le_refl _), Nat.sub_self]; rfl
/-- an exact tuple that is new -/
theorem Post.newX {Av : Addr → Prop} {s : S3} {ds : List D} {ys : List V} {Q : VK} (rp : RepH G Av s) (q : DRs G.K s.H (Bad Av s) ys ds) (p : Post G E Av s (fun v y s' => VR G Av s' v y) (.ok (.ref s.h.length) (s.h ++ [.tx ds])) Q) {a : Addr} {o : Obj} (ha : s.H a = none) (ho : o.dict = none) : Q (.ref a) (upd s.H a (.frz o (.tup ys))) := by
  obtain ⟨r1, t1, v1⟩ := rp.newO (io := .tx ds) (ob := .frz o (.tup ys)) ha fun st nd => ⟨o, ys, ho, upd_same, DRs.mono st.fr (fun a z => .inr z) (st.bad nd) q⟩
  exact p ⟨s.r ++ [a], s.h ++ [.tx ds], upd s.H a (.frz o (.tup ys))⟩ (.ref a) rfl r1 t1 v1
theorem inv_tx {pins : List (Addr × Obj)} {σ : L2.St} {H : Hp} {s : Shared} {h' : Heap} {t' : Nat} {its : List Value} {xs : List V} {n : Nat} (I : Inv X pins σ H s) (k : ∀ b u, s.heap.get? b = some u → h'.get? b = some u) {a : Addr} (hp : s.heap.objs.size ≤ a) (z : xs.length ≤ sizeLine) (r : Vals xs its)
    (hg : h'.get? a = some { cls := .type "tuple", data := .seq its.toArray n }) : Inv X pins σ (upd H a (.frz { cls := .type "tuple", data := .seq its.toArray n } (.tup xs))) { s with heap := h', toks := t' } :=
  I.laid k hp ⟨hg, z, its, r, _, hg, rfl, n, rfl⟩
def NX (H : Hp) (xs : List V) (Q : VK) : Prop := ∀ p o, o.dict = none → H p = none → Q (.ref p) (upd H p (.frz o (.tup xs)))
theorem pe_tupX {es : List Expr} {t : TA} {x1} (h : PA X es t) : PE X (.Tuple es x1 pos) (fun σ H Q => t σ H fun xs H1 => xs.length ≤ sizeLine ∧ NX H1 xs Q) := by
  refine ⟨fun pins s σ H Q I hq => ?_⟩
  refine wpAny_Tuple_spliced (thn (h.run pos pins s σ H _ I hq) fun us s1 ⟨xs, H1, I1, r, z, q⟩ => ⟨by rw [← r.length]; exact z, ?_⟩)
  exact ⟨.ref s1.heap.objs.size, _, inv_tx (t' := s1.toks) (n := 0) I1 (fun b u e => Heap.get?_push_of_some _ e) (Nat.le_refl _) z r (Heap.get?_push_size _ rfl), rfl, q _ _ rfl (I1.hok.fresh (Nat.le_refl _))⟩
end
end Ip

set_option linter.all false
set_option Elab.async false
set_option autoImplicit false
set_option maxRecDepth 100000
/-! Exact tuples, len(set(..)), dicts that are made. -/
namespace Ip
open PySem L2
section
variable {X : Cx} {G : Gb} {E : XK} {W : WX} {pos : Pos}
theorem ip_tupX {es : List Expr} {x1 : Nat} {ms : Sg → Hq → R (List Val)} (hs : PA X es (tA G W ms)) (hlen : ∀ σ h vs h', ms σ h = .ok vs h' → vs.length ≤ 16777216) :
    PE X (.Tuple es x1 pos) (tE G W fun σ h => (ms σ h).bind fun vs h1 => (toDs vs h1).bind fun ds h2 => .ok (.ref h2.length) (h2 ++ [.tx ds])) := by
  refine (pe_tupX hs).imp fun τ H Q ⟨Av, s, σ, hH, rp, sr, p⟩ => ?_
  subst hH
  refine ⟨Av, s, σ, rfl, rp, sr, ?_⟩
  have hlen := hlen σ s.h
  revert p hlen
  show (Post G _ Av s _ ((ms σ s.h).bind _) Q → _)
  cases ms σ s.h with
  | er x h => exact fun p _ => p
  | no => exact fun p _ => p
  | ok vs h1 =>
    intro p hlen s1 ys e1 rp1 st1 q1
    subst e1
    have p1 := Post.step (r := (toDs vs s1.h).bind fun ds h2 => R.ok (Val.ref h2.length) (h2 ++ [.tx ds])) p st1 rp1
    cases e : toDs vs s1.h with
    | er x h => exact absurd e (toDs_no_er _ _ _ _)
    | no => rw [e] at p1; exact p1.elim
    | ok ds h2 =>
      rw [e] at p1
      obtain ⟨rp2, st2, d2⟩ := toDs_ok rp1 q1 e
      refine ⟨by rw [← q1.length, sizeLine_eq]; exact hlen vs _ rfl, fun a o ho ha => ?_⟩
      have p2 : Post G (We W τ) Av ⟨s1.r, h2, s1.H⟩ (fun v y s' => VR G Av s' v y) (R.ok (Val.ref h2.length) (h2 ++ [.tx ds])) Q := Post.step (s := s1) p1 st2 rp2
      exact Post.newX (E := We W τ) (s := ⟨s1.r, h2, s1.H⟩) rp2 d2 p2 ha ho
section
open PySem.Spec PyProof.Rows
def rRepX (K : PySem.W.Frag) : R2 := fun x y H Q => ∃ l k xs, x = .ref l ∧ y = .int k ∧ SqT K H l xs ∧ xs ≠ [] ∧ 2 ≤ k ∧ k ≤ 1000 ∧ xs.length ≤ 1000 ∧ NX H (List.replicate k.toNat xs).flatten Q
theorem op_repX : OpR X (binaryOp .Mult) (rRepX X.K) := by
  intro pins s σ H x y v u Q I rx ry h
  obtain ⟨l, k, xs, rfl, rfl, hT, hne, h1, h2, hz, q⟩ := h
  cases rx
  obtain ⟨t, rfl⟩ := ry
  obtain ⟨its, r, ⟨⟨cls, dd, data, sl⟩, ho, hc, n, hd⟩, hs⟩ := I.tuple hT
  simp only at hc hd
  subst hc hd
  have hle : its.length = xs.length := r.length.symm
  have hn : its ≠ [] := fun e => hne (by
    rw [e] at hle
    exact List.eq_nil_of_length_eq_zero hle.symm)
  have hi : its.toArray.isEmpty = false := by
    cases its with
    | nil => exact absurd rfl hn
    | cons a b => rfl
  have hsz0 : its.toArray.size = xs.length := by rw [List.size_toArray, hle]
  have hm : ((its.toArray.size : Nat) : Int) * k ≤ 1000000 := by
    rw [hsz0]
    have a1 : ((xs.length : Nat) : Int) * k ≤ 1000 * k := Int.mul_le_mul_of_nonneg_right (by omega) (by omega)
    omega
  have a1 : k.toNat * xs.length ≤ 1000 * 1000 := Nat.mul_le_mul (by omega) hz
  have flen : (List.replicate k.toNat its).flatten.length ≤ sizeLine := by
    rw [PyProof.Rows.lm_len_rep_flat, hle, sizeLine_eq]
    omega
  have c0 : (decide (k < -(2 ^ 63)) || decide (k ≥ 2 ^ 63)) = false := by
    rw [decide_eq_false (by omega), decide_eq_false (by omega)] <;> rfl
  have c1 : (its.toArray.isEmpty || k == 1) = false := by
    rw [hi, Bool.false_or]
    exact beq_eq_false_iff_ne.mpr (by omega)
  have c2 : (decide (k ≤ 0) || its.toArray.isEmpty) = false := by
    rw [hi, Bool.or_false]
    exact decide_eq_false (by omega)
  have c4 : Builtin.Tuple.tupleTooMany (((its.toArray.size : Nat) : Int) * k) = false := by
    unfold Builtin.Tuple.tupleTooMany
    rw [sizeLine_eq]
    exact decide_eq_false (by omega)
  refine wpAny_binaryOp_repeat_ref (T := "tuple") (U := "int") (by decide) ⟨_, ho, rfl⟩ (fun s' => typeIs_int s' k t) noFill_tuple_mul PySem.F.fills_int_mul PySem.F.slot_int_rmul repeat_tuple PySem.F.slot_int_index.lookup
    (call_meets PySem.F.slot_int_rmul (typeIs_int s k t) PySem.F.entry_int_rmul (PySem.F.args_int_rmul_2 _ _) (int_rmul_tuple k t l its.toArray n dd sl)
      ⟨ho, rfl, ⟨_, ho, rfl⟩, call_meets PySem.F.slot_tuple_mul ⟨_, ho, rfl⟩ PySem.F.entry_tuple_mul (PySem.F.args_tuple_mul_2 _ _) (tuple_mulW l its.toArray n dd sl k t c0 c1 c2 (by omega) c4 (by rw [size_rep, List.size_toArray]; exact flen)) ⟨ho, ?_⟩⟩)
  rw [size_rep]
  refine ⟨.ref s.heap.objs.size, _, inv_tx (t' := s.toks) (n := 0) I (fun b ob q => Heap.get?_push_of_some _ q) (Nat.le_refl _) ?_ (r.rep k.toNat) (Heap.get?_push_size _ rfl), rfl, q _ _ rfl (I.hok.fresh (Nat.le_refl _))⟩
  rw [PyProof.Rows.lm_len_rep_flat, sizeLine_eq]
  omega
end
theorem ip_repX {a b : Expr} {ma mb : Sg → Hq → R Val} (hK : G.K = X.K) (ha : PE X a (tE G W ma)) (hb : PE X b (tE G W mb)) :
    PE X (.BinOp a .Mult b pos) (tE G W fun σ h => (ma σ h).bind fun x h1 => (txV x h1).bind fun ds h1 => (mb σ h1).bind fun y h2 => repX x ds y h2) := by
  refine (pe_op (op_repX.or op_rep1) ha hb).imp fun τ H Q ⟨Av, s, σ, hH, rp, sr, p⟩ => ?_
  subst hH
  refine tE_bind rp sr p fun v y s1 rp1 st1 sr1 q1 p1 => ?_
  unfold txV at p1
  split at p1
  · rename_i n
    split at p1
    · rename_i ds hl
      cases q1 with
      | ref hn =>
        rename_i c
        obtain ⟨ob, xs, e1, e2, e3⟩ := rp1.obj n c _ hn hl
        have p2 : Post G (We W τ) Av s1 (fun v y s' => VR G Av s' v y) ((mb σ s1.h).bind fun y h2 => repX (.ref n) ds y h2) Q := p1
        refine tE_bind rp1 sr1 p2 fun w z s2 rp2 st2 sr2 q2 p3 => ?_
        have hT := st2.fr.frz _ _ _ e2
        have e4 := DRs.mono st2.fr (fun a z => .inr z) (st2.bad rp2.nd) e3
        unfold repX at p3
        split at p3
        · rename_i k
          cases q2 with
          | d q2 =>
            cases q2
            split at p3
            · rename_i hk
              subst hk
              exact .inr ⟨c, xs, rfl, rfl, hK ▸ .inl (.inr ⟨ob, hT⟩), p3.fin rp2 (.ref (pre_get st2.pre hn))⟩
            · split at p3
              · rename_i _ hf
                simp only [Bool.and_eq_true, decide_eq_true_eq, Bool.not_eq_true'] at hf
                obtain ⟨⟨⟨h1, h2⟩, h3⟩, h4⟩ := hf
                have h3 := PyProof.Rows.lt_of_log2 h3
                refine .inl ⟨c, k, xs, rfl, rfl, hK ▸ .inl (.inr ⟨ob, hT⟩), fun e => ?_, h4, by omega, by rw [e4.length]; exact h2, fun p o ho hp => Post.newX rp2 (e4.rep _) p3 hp ho⟩
                subst e
                cases e4
                simp at h1
              · exact p3.elim
        · exact p3.elim
    · exact p1.elim
  · exact p1.elim
theorem call_tupleX : CallR X (.type "tuple") (fun xs H Q => ∃ p ys, xs = [.ref p] ∧ SqL X.K H p ys ∧ NX H ys Q) := by
  intro pins s σ H xs us Q I r h
  obtain ⟨p, ys, rfl, hq, q⟩ := h
  obtain ⟨u, rfl, rx⟩ := vals1 r
  cases rx
  obtain ⟨its, r', pl, hz⟩ := I.list hq
  have hlen := r'.length
  refine call_tuple_list pl.isList (fun h' kp => ?_) (by simp only [List.size_toArray] <;> omega)
  have I1 : Inv X pins σ H { s with heap := h' } := I.kept (t' := s.toks) kp
  exact ⟨.ref h'.objs.size, _, inv_tx (t' := s.toks) (n := 0) I1 (fun b o e => Heap.get?_push_of_some _ e) (Nat.le_refl _) hz r' (Heap.get?_push_size _ rfl), rfl, q _ _ rfl (I1.hok.fresh (Nat.le_refl _))⟩
theorem ip_tupL {e : Expr} {px : Pos} {m : Sg → Hq → R Val} (hK : G.K = X.K) (hg : Gl X "tuple") (hm : X.mg "tuple" = none) (ha : PE X e (tE G W m)) (st : starEach [e] X.env = (false, eval e X.env) :: starEach [] X.env) :
    PE X (.Call (.Name "tuple" px) [e] [] pos) (tE G W fun σ h => (m σ h).bind fun x h1 => match elsL h1 x with
    | some vs => (toDs vs h1).bind fun ds h2 => .ok (.ref h2.length) (h2 ++ [.tx ds])
    | none => .no) := by
  refine (pe_callTy call_tupleX hg hm (by decide +kernel) (ia_cons (G := G) (W := W) ha ia_nil st) (by decide) (by decide) st (by rfl)).imp fun τ H Q ⟨Av, s, σ, hH, rp, sr, p⟩ => ?_
  subst hH
  refine one_bind rp sr p fun v y s1 rp1 st1 q1 p1 => ?_
  split at p1
  · rename_i vs hv
    obtain ⟨a, xs, rfl, hq, q⟩ := elsL_ok rp1 q1 hv
    cases e : toDs vs s1.h with
    | er x h => exact absurd e (toDs_no_er _ _ _ _)
    | no => rw [e] at p1; exact p1.elim
    | ok ds h2 =>
      rw [e] at p1
      obtain ⟨rp2, st2, d2⟩ := toDs_ok rp1 q e
      have p2 : Post G (We W τ) Av ⟨s1.r, h2, s1.H⟩ (fun v y s' => VR G Av s' v y) (R.ok (Val.ref h2.length) (h2 ++ [.tx ds])) Q := Post.step (s := s1) p1 st2 rp2
      exact ⟨a, xs, rfl, hK ▸ hq, fun l o ho hl => Post.newX (E := We W τ) (s := ⟨s1.r, h2, s1.H⟩) rp2 d2 p2 hl ho⟩
  · exact p1.elim
/-! ### len(set(t)) -/
theorem distI_mem (x : Int) : ∀ l : List Int, x ∈ distI l ↔ x ∈ l
  | [] => Iff.rfl
  | a :: r => by
    unfold distI
    have ih := distI_mem x r
    split
    · rename_i h
      rw [ih, List.mem_cons]
      exact ⟨.inr, fun z => z.elim (fun e => e ▸ h) id⟩
    · rw [List.mem_cons, List.mem_cons, ih]
theorem distI_nodup : ∀ l : List Int, (distI l).Nodup
  | [] => List.nodup_nil
  | a :: r => by
    unfold distI
    split
    · exact distI_nodup r
    · rename_i h
      exact List.nodup_cons.mpr ⟨fun z => h ((distI_mem a r).mp z), distI_nodup r⟩
def tLset (K : PySem.W.Frag) (ta : TE) : TE := fun σ H Q => ta σ H fun x H1 => ∃ (l : Addr) (ns : List Int), x = .ref l ∧ SqT K H1 l (ns.map V.int) ∧ ns.length ≤ 1000 ∧ Q (.int ((distI ns).length : Nat)) H1
theorem pe_lset {a : Expr} {ta : TE} {p p2 q : Pos} (hg : Gl X "len") (hm : X.mg "len" = none) (hg2 : Gl X "set") (hm2 : X.mg "set" = none) (ha : PE X a ta) (hc : X.calm = true)
    (na : starEach [a] X.env = (false, eval a X.env) :: starEach [] X.env) : PE X (.Call (.Name "len" p) [.Call (.Name "set" p2) [a] [] q] [] pos) (tLset X.K ta) := by
  refine ⟨fun pins s σ H Q I h => ?_⟩
  refine PyProof.Rows.Call_ (ld_blt I hg hm PySem.boot_len ?_)
  refine PyProof.Rows.callWith_builtin1 (PyProof.Rows.args_cons ?_ rfl) rfl rfl
  refine PyProof.Rows.Call_ (ld_blt I hg2 hm2 PyProof.Rows.boot_set ?_)
  refine PyProof.Rows.callWith_type1 (PyProof.Rows.args_cons (thn (ha.run pins s σ H _ I h) fun v s1 ⟨x, H1, I1, r1, q1⟩ => PyProof.Rows.args_nil ?_) na) na rfl
  obtain ⟨l, ns, e0, hq, hl, q1⟩ := q1
  subst e0
  cases r1
  obtain ⟨its, rv, pt, hz⟩ := I1.tuple hq
  have hi : PyProof.Rows.IntsAre its.toArray.toList ns := ints_of_vals rv
  refine call_set_tupI ns (I1.ok.hd hc) (show s1.heap.IsTuple l its.toArray from pt) hi (by unfold scanBound; omega) fun h' tk c R1 hcn k => ?_
  refine PyProof.Rows.args_nil ?_
  obtain ⟨o, es, ep, t, ho, hex, hd, _, hnd, hmem, hb, hf, hn, _, _⟩ := R1
  have hlen : es.size = (distI ns).length := by
    rw [← Array.length_toList, ← List.length_map (f := keyOf)]
    refine List.Perm.length_eq ((List.perm_ext_iff_of_nodup hnd (distI_nodup ns)).mpr fun x => ?_)
    rw [distI_mem, ← hmem x, decide_eq_true_eq]
  have I2 : Inv X pins σ H1 { s1 with heap := h', toks := tk } := I1.kept k
  exact call_len_set ho hex hd hf (by rw [hn]; omega) ⟨.int (distI ns).length, H1, I2.tok _, ⟨_, by rw [hlen]⟩, q1⟩
theorem ip_lset {a : Expr} {ma : Sg → Hq → R Val} {p p2 q : Pos} (hK : G.K = X.K) (hg : Gl X "len") (hm : X.mg "len" = none) (hg2 : Gl X "set") (hm2 : X.mg "set" = none) (ha : PE X a (tE G W ma)) (hc : X.calm = true)
    (na : starEach [a] X.env = (false, eval a X.env) :: starEach [] X.env) : PE X (.Call (.Name "len" p) [.Call (.Name "set" p2) [a] [] q] [] pos) (tE G W fun σ h => (ma σ h).bind fun x h1 => lsetV x h1) := by
  refine (pe_lset hg hm hg2 hm2 ha hc na).imp fun τ H Q ⟨Av, s, σ, hH, rp, sr, p⟩ => ?_
  subst hH
  refine tE_bind rp sr p fun v y s1 rp1 st1 sr1 q1 p1 => ?_
  unfold lsetV at p1
  split at p1
  · split at p1
    · rename_i ns e
      split at p1
      · rename_i hl
        cases q1 with
        | d q1 =>
          cases q1 with
          | @tup b vs _ h t =>
            rw [drs_ints t e] at h
            exact ⟨b, ns, rfl, hK ▸ h, hl, p1.fin rp1 (.d (.int _))⟩
      · exact p1.elim
    · exact p1.elim
  · exact p1.elim
/-! ### dicts made -/
theorem dtx_push {P : Program} {w : World} {H : Hp} (h : Heap) (hb : sysModules < h.objs.size) : ObjOk P w H (h.push { cls := .type "dict", data := .dict #[] }) h.objs.size (dtx P w h.objs.size []) :=
  dtx_new (Nat.zero_le _) (beq_eq_false_iff_ne.mpr (Ne.symm (Nat.ne_of_lt hb))) .nil (Heap.DictOfH.new h)
theorem pe_dnewX : PE X (.Dict [] [] pos) (fun _ H Q => ∀ p, H p = none → Q (.ref p) (upd H p (dtx X.prog X.w p []))) := ⟨fun pins s σ H Q I h =>
  wpAny_Dict_empty ⟨.ref s.heap.objs.size, _, I.laid (a := s.heap.objs.size) (o := dtx X.prog X.w s.heap.objs.size []) (t' := s.toks) (fun _ _ q => Heap.get?_push_of_some _ q) (Nat.le_refl _) (dtx_push s.heap I.big), rfl, h _ (I.hok.fresh (Nat.le_refl _))⟩⟩
theorem ip_dnew (hK : GX G X) : ∀ t : Bool, PE X (.Dict [] [] pos) (tE G W fun _ h => .ok (.ref h.length) (h ++ [.dct (if t then .t [] else .k [])]))
  | false => by
    refine pe_dnewK.imp fun τ H Q ⟨Av, s, σ, hH, rp, sr, p⟩ => ?_
    subst hH
    intro a ha
    obtain ⟨r1, t1, v1⟩ := rp.newO (io := .dct (.k [])) (ob := .dK []) ha fun st nd => ⟨_, upd_same, .k .nil⟩
    exact p ⟨s.r ++ [a], s.h ++ [.dct (.k [])], upd s.H a (.dK [])⟩ (.ref a) rfl r1 t1 v1
  | true => by
    refine pe_dnewX.imp fun τ H Q ⟨Av, s, σ, hH, rp, sr, p⟩ => ?_
    subst hH
    intro a ha
    rw [← hK.2.1, ← hK.2.2]
    obtain ⟨r1, t1, v1⟩ := rp.newO (io := .dct (.t [])) (ob := dtx G.P G.w a []) ha fun st nd => ⟨_, upd_same, .t .nil⟩
    exact p ⟨s.r ++ [a], s.h ++ [.dct (.t [])], upd s.H a (dtx G.P G.w a [])⟩ (.ref a) rfl r1 t1 v1
end
end Ip

set_option linter.all false
set_option Elab.async false
set_option autoImplicit false
set_option maxRecDepth 100000
/-! A dict with one pair, its key a tuple. -/
namespace Ip
open PySem L2
section
variable {X : Cx} {G : Gb} {E : XK} {W : WX} {pos : Pos}
/-- an object that was laid ahead is taken among this run's -/
theorem RepH.late {Av : Addr → Prop} {s s1 : S3} {a : Addr} {io : IO} {ob u : HO} (rp : RepH G Av s) (ha : s.H a = none) (rp1 : RepH G (also Av a) s1) (st1 : Stp ⟨s.r, s.h, upd s.H a u⟩ s1) (hu : s1.H a = some u) (h1 : ∀ xs, u ≠ .tup xs) (h2 : ∀ o w, u ≠ .frz o w) (h3 : ∀ ps, u ≠ .tbl ps) (h4 : ∀ q, u ≠ LamX.CodeO a q)
    (cr : (∀ {v : Val} {x : V}, VR G (also Av a) s1 v x → VR G Av ⟨s1.r ++ [a], s1.h ++ [io], upd s1.H a ob⟩ v x) → (∀ {b : Addr} {ys : List V}, SqT G.K s1.H b ys → SqT G.K (upd s1.H a ob) b ys) → OR G Av ⟨s1.r ++ [a], s1.h ++ [io], upd s1.H a ob⟩ a io) :
    RepH G Av ⟨s1.r ++ [a], s1.h ++ [io], upd s1.H a ob⟩ ∧ Stp s ⟨s1.r ++ [a], s1.h ++ [io], upd s1.H a ob⟩ ∧ VR G Av ⟨s1.r ++ [a], s1.h ++ [io], upd s1.H a ob⟩ (.ref s1.h.length) (.ref a) := by
  have har : a ∉ s1.r := rp1.dis a (.inr rfl)
  have nA : ¬ Av a := fun z => rp.av a z ha
  have f1 : Fr (fun b => b = a) s1.H (upd s1.H a ob) := fr_upd_live hu h1 h2 rfl
  have hb : ∀ b, s1.H b ≠ none → ¬ Bad (also Av a) s1 b → ¬ Bad Av ⟨s1.r ++ [a], s1.h ++ [io], upd s1.H a ob⟩ b := by
    rintro b _ nb (z | ⟨n, z, ws, hl, hal⟩)
    · exact nb (.inl (.inl z))
    · refine nb ?_
      by_cases hn : n < s1.r.length
      · refine .inr ⟨n, ?_, ws, ?_, hal⟩
        · have z : (s1.r ++ [a])[n]? = some b := z
          rw [List.getElem?_append_left hn] at z; exact z
        · have hl : (s1.h ++ [io])[n]? = some ws := hl
          rw [List.getElem?_append_left (by rw [← rp1.len]; exact hn)] at hl; exact hl
      · left; right
        have z : (s1.r ++ [a])[n]? = some b := z
        rw [List.getElem?_append_right (Nat.not_lt.mp hn)] at z
        cases hk : n - s1.r.length with
        | zero => rw [hk] at z; exact (Option.some.inj z).symm
        | succ k => rw [hk] at z; cases z
  have cd : ∀ {v : V} {d : D}, DR G.K s1.H (Bad (also Av a) s1) v d → DR G.K (upd s1.H a ob) (Bad Av ⟨s1.r ++ [a], s1.h ++ [io], upd s1.H a ob⟩) v d := fun {v d} q =>
    DR.mono f1 (fun b z => .inl (.inr z)) hb q
  have cds : ∀ {v : List V} {d : List D}, DRs G.K s1.H (Bad (also Av a) s1) v d → DRs G.K (upd s1.H a ob) (Bad Av ⟨s1.r ++ [a], s1.h ++ [io], upd s1.H a ob⟩) v d := fun {v d} q =>
    DRs.mono f1 (fun b z => .inl (.inr z)) hb q
  have cv : ∀ {v : Val} {x : V}, VR G (also Av a) s1 v x → VR G Av ⟨s1.r ++ [a], s1.h ++ [io], upd s1.H a ob⟩ v x := fun {v x} q => by
    cases q with
    | d q => exact .d (cd q)
    | ref q => exact .ref (pre_get (List.prefix_append _ _) q)
    | fn q => exact .fn q
  have cvs : ∀ {v : List Val} {x : List V}, VRs G (also Av a) s1 v x → VRs G Av ⟨s1.r ++ [a], s1.h ++ [io], upd s1.H a ob⟩ v x := fun {v x} q => by
    induction q with
    | nil => exact .nil
    | cons h _ ih => exact .cons (cv h) ih
  have rp2 : RepH G Av ⟨s1.r ++ [a], s1.h ++ [io], upd s1.H a ob⟩ := by
    refine ⟨by simp [rp1.len], ?_, fun n b o e1 e2 => ?_, fun b z => f1.there b (rp1.av b (.inl z)), fun b z => ?_, fun b z => ?_, tabs_upd rp1.tabs (.inr ⟨_, hu, h3, h4⟩)⟩
    · rw [List.nodup_append]
      exact ⟨rp1.nd, by simp, fun x hx2 y hy => by
        have : y = a := by simpa using hy
        subst this; exact fun z => har (z ▸ hx2)⟩
    · by_cases hn : n < s1.r.length
      · have e1 : (s1.r ++ [a])[n]? = some b := e1
        have e2 : (s1.h ++ [io])[n]? = some o := e2
        rw [List.getElem?_append_left hn] at e1
        rw [List.getElem?_append_left (by rw [← rp1.len]; exact hn)] at e2
        have q := rp1.obj n b o e1 e2
        have nb : b ≠ a := fun z => har (z ▸ List.mem_of_getElem? e1)
        cases o with
        | lst ws => obtain ⟨zs, h1, h2⟩ := q; exact ⟨zs, (upd_ne nb).trans h1, cvs h2⟩
        | dead x => exact cd q
        | dct c => obtain ⟨ob, h1, h2⟩ := q; exact ⟨ob, (upd_ne nb).trans h1, h2.map cv f1.sqt⟩
        | tx ds => obtain ⟨ob, xs, h1, h2, h3⟩ := q; exact ⟨ob, xs, h1, f1.frz _ _ _ h2, cds h3⟩
      · have e1 : (s1.r ++ [a])[n]? = some b := e1
        have e2 : (s1.h ++ [io])[n]? = some o := e2
        rw [List.getElem?_append_right (Nat.not_lt.mp hn)] at e1
        rw [List.getElem?_append_right (by rw [← rp1.len]; exact Nat.not_lt.mp hn), ← rp1.len] at e2
        cases hk : n - s1.r.length with
        | zero =>
          rw [hk] at e1 e2
          have e1 : some a = some b := e1
          have e2 : some io = some o := e2
          cases e1; cases e2
          exact cr cv f1.sqt
        | succ k => rw [hk] at e1; cases e1
    · have := rp1.dis b (.inl z)
      intro w
      rcases List.mem_append.mp w with w | w
      · exact this w
      · have : b = a := by simpa using w
        subst this; exact nA z
    · rcases List.mem_append.mp z with w | w
      · exact f1.there b (rp1.trk b w)
      · have : b = a := by simpa using w
        subst this
        show upd s1.H b ob b ≠ none
        rw [upd_same]; exact fun z => by cases z
  have fr0 : Fr (fun b => ∃ n, s.r[n]? = some b ∧ live s.h n) s.H (upd s1.H a ob) := by
    have g0 : Fr (fun b => ∃ n, s.r[n]? = some b ∧ live s.h n) s.H (upd s.H a u) := fr_upd_new ha
    refine ⟨fun b o h n nt => ?_, fun b h => f1.there b (st1.fr.there b (g0.there b h)), fun b xs h => f1.tup b xs (st1.fr.tup b xs (g0.tup b xs h)), fun b o w h => f1.frz b o w (st1.fr.frz b o w (g0.frz b o w h))⟩
    exact f1.keep b o (st1.fr.keep b o (g0.keep b o h n nt) n nt) (fun z => by subst z; rw [ha] at h; cases h) nt
  have st2 : Stp s ⟨s1.r ++ [a], s1.h ++ [io], upd s1.H a ob⟩ := by
    refine ⟨st1.pre.trans (List.prefix_append _ _), fun n hn l => st1.liv n hn ?_, fr0, fun b hb => ?_⟩
    · obtain ⟨ws, hl, hal⟩ := l
      have hn' : n < s1.h.length := by rw [← rp1.len]; exact Nat.lt_of_lt_of_le hn st1.pre.length_le
      have hl : (s1.h ++ [io])[n]? = some ws := hl
      rw [List.getElem?_append_left hn'] at hl
      exact ⟨ws, hl, hal⟩
    · rcases List.mem_append.mp hb with w | w
      · rcases st1.new b w with z | z
        · exact .inl z
        · right
          have z : upd s.H a u b = none := z
          have : b ≠ a := fun e => by rw [e, upd_same] at z; cases z
          rw [upd_ne this] at z; exact z
      · have : b = a := by simpa using w
        subst this; exact .inr ha
  exact ⟨rp2, st2, .ref (by
    show (s1.r ++ [a])[s1.h.length]? = some a
    rw [← rp1.len, List.getElem?_append_right (Nat.le_refl _), Nat.sub_self]; rfl)⟩
def tDispX (P : Program) (w : World) (K : PySem.W.Frag) (tk tv : TE) : TE := fun σ H Q => ∀ p, H p = none → tk σ (upd H p (dtx P w p [])) fun x H1 => tv σ H1 fun y H2 => H2 p = some (dtx P w p []) ∧ ∃ (k : List Key) (b : Addr), x = .ref b ∧ SqT K H2 b (k.map kV) ∧ Q (.ref p) (upd H2 p (dtx P w p [(k, b, y)]))
theorem pe_dispX {k v : Expr} {tk tv : TE} (hu : X.A.units + 1 < cLine) (hk : PE X k tk) (hv : PE X v tv) : PE X (.Dict [some k] [v] pos) (tDispX X.prog X.w X.K tk tv) := by
  refine ⟨fun pins s σ H Q I q => ?_⟩
  have hn := I.hok.fresh (Nat.le_refl s.heap.objs.size)
  have I1 := I.laid (a := s.heap.objs.size) (o := dtx X.prog X.w s.heap.objs.size []) (h' := s.heap.push { cls := .type "dict", data := .dict #[] }) (t' := s.toks) (fun _ _ q => Heap.get?_push_of_some _ q) (Nat.le_refl _) (dtx_push s.heap I.big)
  rw [arm_eval_Dict, zip_pairTrees [some k] [v] X.env pos rfl rfl, dictDisplay_pairs (pairTrees [some k] [v] X.env pos) (by rw [← List.length_pos_iff, pairTrees_length _ _ _ _ rfl rfl]; simp) (by rw [pairTrees_length _ _ _ _ rfl rfl]; simp)]
  refine wpAny_bind (wpAny_standAt (wpAny_bind (wpAny_subDictH (knd := tupleKind (mixKind X.prog X.w)) (show (tupleKind (mixKind X.prog X.w)).room X.A from (show X.A.units < cLine by omega)) (by rw [pairTrees_length _ _ _ _ rfl rfl]; simp) ?_)))
  refine pairTrees_cons_walk (thn (hk.run pins _ σ _ _ I1 (q _ hn)) fun u s1 ⟨x, H1, I1, rx, q1⟩ => thn (hv.run pins s1 σ H1 _ I1 q1) fun w2 s2 ⟨y, H2, I2, ry, e, kk, b, e0, hb, q2⟩ => pairTrees_nil_walk ?_)
  subst e0
  obtain rfl : u = Value.ref b := rx
  obtain ⟨z, hd, ys, rel, dd⟩ := dtx_at I2 e (fun p hp => nomatch hp)
  cases rel
  refine ⟨[(kk, b, w2)], ⟨rfl, rfl, key_is I2 hb, trivial⟩, dd, fun h' tk dd' hs => ?_⟩
  refine wpAny_pure ⟨.ref s.heap.objs.size, _, ?_, rfl, q2⟩
  have he : ∃ q, h'.get? s.heap.objs.size = some q := let ⟨q, _, _, hq, _⟩ := dd'; ⟨q, hq⟩
  have dd2 : h'.DictOfH (tupleKind (mixKind X.prog X.w)) s.heap.objs.size [(kk, b, w2)] := dd'
  exact d_write I2 (by rw [e]; exact True.intro) hs he (dtx_new (xs := [(kk, b, y)]) (by rw [sizeLine_eq]; simp) hd (.cons ⟨rfl, rfl, ry⟩ .nil) dd2)
theorem ip_ddsp {k v : Expr} {mk mv : Sg → Hq → R Val} (hK : GX G X) (hu : X.A.units + 100 < cLine) (hk : PE X k (tE G W mk)) (hv : PE X v (tE G W mv)) :
    PE X (.Dict [some k] [v] pos) (tE G W fun σ h => (mk σ h).bind fun x h1 => (mv σ h1).bind fun y h2 => dspV true x y h2) := by
  refine (pe_dispX (by omega) hk hv).imp fun τ H Q ⟨Av, s, σ, hH, rp, sr, p⟩ => ?_
  subst hH
  intro a ha
  rw [← hK.2.1, ← hK.2.2, ← hK.1]
  obtain ⟨rpA, conv⟩ := rp.more (o := dtx G.P G.w a []) ha
  have sub : ∀ b, Av b → also Av a b := fun b z => .inl z
  have t0 := (rp.upd_new (o := dtx G.P G.w a []) ha).2
  have r0 := (rp.upd_new (o := dtx G.P G.w a []) ha).1
  have cv : ∀ {v : Val} {x : V}, VR G Av s v x → VR G (also Av a) ⟨s.r, s.h, upd s.H a (dtx G.P G.w a [])⟩ v x := fun {v x} q => by
    cases q with
    | d q => exact .d (conv q)
    | ref q => exact .ref q
    | fn q => exact .fn q
  have srA : SR G (also Av a) ⟨s.r, s.h, upd s.H a (dtx G.P G.w a [])⟩ σ τ := ⟨sr.len, fun i v e => let ⟨x, e1, q⟩ := sr.at_ i v e; ⟨x, e1, cv q⟩⟩
  refine ⟨also Av a, ⟨s.r, s.h, upd s.H a (dtx G.P G.w a [])⟩, σ, rfl, rpA, srA, ?_⟩
  revert p
  show Post G (We W τ) Av s (fun v y s' => VR G Av s' v y) ((mk σ s.h).bind _) Q → Post G (We W τ) (also Av a) ⟨s.r, s.h, upd s.H a (dtx G.P G.w a [])⟩ _ (mk σ s.h) _
  cases mk σ s.h with
  | no => exact fun p => p
  | er x h => exact fun p s' c dx e1 r1 t1 z => p s' c dx e1 (r1.less sub) (t0.trans t1 r0.nd r0.len) z
  | ok kx h1 =>
    intro p s1 y1 e1 r1 t1 q1
    subst e1
    refine ⟨also Av a, s1, σ, rfl, r1, t1.sr r1.nd srA, ?_⟩
    revert p
    show Post G (We W τ) Av s (fun v y s' => VR G Av s' v y) ((mv σ s1.h).bind _) Q → Post G (We W τ) (also Av a) s1 _ (mv σ s1.h) _
    cases mv σ s1.h with
    | no => exact fun p => p
    | er x h => exact fun p s' c dx e1 r2 t2 z => p s' c dx e1 (r2.less sub) (t0.trans (t1.trans t2 r1.nd r1.len) r0.nd r0.len) z
    | ok vx h2 =>
      intro p s2 y2 e2 r2 t2 q2
      subst e2
      have p : Post G (We W τ) Av s (fun v y s' => VR G Av s' v y) (dspV true kx vx s2.h) Q := p
      have t3 := t1.trans t2 r1.nd r1.len
      have q1 := t2.vr r2.nd q1
      have hx : s2.H a = some (dtx G.P G.w a []) := t3.fr.keep a _ upd_same (fun ⟨n, e, _⟩ => rpA.dis a (.inr rfl) (List.mem_of_getElem? e)) (fun ps z => by unfold dtx at z; cases z)
      refine ⟨hx, ?_⟩
      unfold dspV Dc.put at p
      cases kx with
      | ref _ => exact p.elim
      | fn _ => exact p.elim
      | d d =>
        simp only [if_true] at p
        cases ek : keyT d with
        | none => rw [ek] at p; exact p.elim
        | some kk =>
          rw [ek] at p
          cases q1 with
          | d q1 =>
            obtain ⟨b, rfl, hb⟩ := keyT_ok q1 ek
            refine ⟨kk, b, rfl, hb, ?_⟩
            have n2 := (CR2.t (G := G) (Av := Av) (s := s) (a := a) .nil).nt
            obtain ⟨r3, t3, v3⟩ := RepH.late (io := .dct (.t [(kk, vx)])) (ob := dtx G.P G.w a [(kk, b, y2)]) rp ha r2 t3 hx n2.2.1 n2.2.2.2 n2.1 n2.2.2.1 (fun cv cs => ⟨_, upd_same, .t (.cons (cs hb) (cv q2) .nil)⟩)
            exact p ⟨s2.r ++ [a], s2.h ++ [.dct (.t [(kk, vx)])], upd s2.H a (dtx G.P G.w a [(kk, b, y2)])⟩ (.ref a) rfl r3 t3 v3
end
end Ip

set_option linter.all false
set_option Elab.async false
set_option autoImplicit false
/-! Targets, what is walked, comprehensions. -/
namespace Ip
open PySem L2

section
variable {X : Cx} {G : Gb} {E : XK} {W : WX} {pos : Pos}

/-! ### slots -/
theorem SR.set {Av : Addr → Prop} {s : S3} {σ : Sg} {τ : L2.St} (h : SR G Av s σ τ) {v : Val} {x : V} (q : VR G Av s v x) (i : Nat) : SR G Av s (σ.set i (some v)) (τ.set i (some x)) := by
  refine ⟨by rw [List.length_set, List.length_set]; exact h.len, fun j w e => ?_⟩
  by_cases hij : i = j
  · subst hij
    by_cases hi : i < σ.length
    · rw [List.getElem?_set_self hi] at e
      have e : some v = some w := Option.some.inj e
      cases e
      exact ⟨x, by rw [List.getElem?_set_self (by rw [← h.len]; exact hi)], q⟩
    · rw [List.getElem?_eq_none (by rw [List.length_set]; exact Nat.not_lt.mp hi)] at e; cases e
  · rw [List.getElem?_set_ne hij] at e
    obtain ⟨y, e2, q2⟩ := h.at_ j w e
    exact ⟨y, by rw [List.getElem?_set_ne hij]; exact e2, q2⟩
theorem SR.unset {Av : Addr → Prop} {s : S3} {σ : Sg} {τ : L2.St} (h : SR G Av s σ τ) (i : Nat) : SR G Av s (σ.set i none) (τ.set i none) := by
  refine ⟨by rw [List.length_set, List.length_set]; exact h.len, fun j w e => ?_⟩
  by_cases hij : i = j
  · subst hij
    by_cases hi : i < σ.length
    · rw [List.getElem?_set_self hi] at e; cases e
    · rw [List.getElem?_eq_none (by rw [List.length_set]; exact Nat.not_lt.mp hi)] at e; cases e
  · rw [List.getElem?_set_ne hij] at e
    obtain ⟨y, e2, q2⟩ := h.at_ j w e
    exact ⟨y, by rw [List.getElem?_set_ne hij]; exact e2, q2⟩
theorem SR.wipe {Av : Addr → Prop} {s : S3} {σ : Sg} {τ : L2.St} (h : SR G Av s σ τ) : ∀ is : List Nat, SR G Av s (Ip.wipe σ is) (L2.wipe τ is)
  | [] => h
  | i :: is => (SR.wipe h is).unset i
theorem wipe_set (τ : L2.St) (o : Option V) : ∀ (is : List Nat) (i : Nat), i ∈ is → L2.wipe (τ.set i o) is = L2.wipe τ is
  | [], _, h => by cases h
  | j :: js, i, h => by
    unfold L2.wipe
    by_cases hm : i ∈ js
    · rw [wipe_set τ o js i hm]
    · have : i = j := by
        rcases List.mem_cons.mp h with h | h
        · exact h
        · exact absurd h hm
      subst this
      have aux : ∀ (ks : List Nat), i ∉ ks → L2.wipe (τ.set i o) ks = (L2.wipe τ ks).set i o := by
        intro ks
        induction ks with
        | nil => intro _; rfl
        | cons k ks ih =>
          intro hk
          unfold L2.wipe
          rw [ih (fun z => hk (List.mem_cons_of_mem _ z))]
          have : i ≠ k := fun z => hk (by rw [z]; exact List.mem_cons_self)
          rw [List.set_comm _ _ this]
      rw [aux js hm, List.set_set]
theorem wipe_wipe (τ : L2.St) (is : List Nat) : L2.wipe (L2.wipe τ is) is = L2.wipe τ is := by
  have aux : ∀ (ks : List Nat), (∀ k ∈ ks, k ∈ is) → L2.wipe (L2.wipe τ ks) is = L2.wipe τ is := by
    intro ks
    induction ks with
    | nil => intro _; rfl
    | cons k ks ih =>
      intro h
      show L2.wipe ((L2.wipe τ ks).set k none) is = _
      rw [wipe_set _ _ is k (h k List.mem_cons_self)]
      exact ih fun j hj => h j (List.mem_cons_of_mem _ hj)
  exact aux is fun _ h => h

/-! ### targets -/
/-- the slots of a target -/
def tgs : Tgt → List Nat
  | .nm i => [i]
  | .tp is => is
/-- what a target takes -/
def tG (G : Gb) (t : Tgt) : TG := fun x τ H Q => ∃ (Av : Addr → Prop) (s : S3) (σ σ' : Sg) (v : Val), s.H = H ∧ RepH G Av s ∧ SR G Av s σ τ ∧ VR G Av s v x ∧ bindT s.h t v σ = some σ' ∧
  ∀ τ', SR G Av s σ' τ' → (∀ is : List Nat, (∀ i ∈ tgs t, i ∈ is) → L2.wipe τ' is = L2.wipe τ is) → Q τ' H
theorem _root_.L2.PG.imp {tg : Expr} {g g' : TG} (h : PG X tg g) (q : ∀ v τ H Q, g' v τ H Q → g v τ H Q) : PG X tg g' := ⟨fun pins s σ H v u Q I r w => h.run pins s σ H v u Q I r (q _ _ _ _ w)⟩
theorem _root_.L2.PG.or {tg : Expr} {g g' : TG} (h : PG X tg g) (h' : PG X tg g') : PG X tg (fun v τ H Q => g v τ H Q ∨ g' v τ H Q) :=
  ⟨fun pins s σ H v u Q I r w => w.elim (fun w => h.run pins s σ H v u Q I r w) fun w => h'.run pins s σ H v u Q I r w⟩
theorem ig_nm {tg : Expr} {i : Nat} (h : PG X tg (gName i)) : PG X tg (tG G (.nm i)) := by
  refine h.imp fun x τ H Q ⟨Av, s, σ, σ', v, hH, rp, sr, q, e, w⟩ => ?_
  cases e
  exact w _ (sr.set q i) fun is hi => wipe_set τ _ is i (hi i List.mem_cons_self)
/-- the slots one after another -/
def gNames : List Nat → TGs
  | [] => gNil
  | i :: is => gCons (gName i) (gNames is)
theorem gNames_ok {Av : Addr → Prop} {s : S3} : ∀ (is : List Nat) {vs : List Val} {xs : List V} {σ : Sg} {τ : L2.St} {Q : L2.St → Hp → Prop}, SR G Av s σ τ → VRs G Av s vs xs → vs.length = is.length →
    (∀ τ', SR G Av s ((is.zip vs).foldl (fun s p => s.set p.1 (some p.2)) σ) τ' → (∀ js : List Nat, (∀ i ∈ is, i ∈ js) → L2.wipe τ' js = L2.wipe τ js) → Q τ' s.H) → gNames is xs τ s.H Q
  | [], _, _, σ, τ, Q, sr, .nil, _, w => ⟨rfl, w τ sr fun _ _ => rfl⟩
  | i :: is, _, _, σ, τ, Q, sr, .cons h t, e, w => by
    refine ⟨_, _, rfl, gNames_ok is (sr.set h i) t (Nat.succ.inj e) fun τ' s' wi => w τ' s' fun js hj => ?_⟩
    rw [wi js fun k hk => hj k (List.mem_cons_of_mem _ hk)]
    exact wipe_set τ _ js i (hj i List.mem_cons_self)
  | [], _, _, _, _, _, _, .cons _ _, e, _ => by cases e
  | _ :: _, _, _, _, _, _, _, .nil, e, _ => by cases e
theorem ig_tp {tg : Expr} {is : List Nat} (hK : G.K = X.K) (h : PG X tg (gTup X.K is.length (gNames is))) (h' : PG X tg (gUnl X.K is.length (gNames is))) : PG X tg (tG G (.tp is)) := by
  refine (h.or h').imp fun x τ H Q ⟨Av, s, σ, σ', v, hH, rp, sr, q, e, w⟩ => ?_
  subst hH
  simp only [bindT] at e
  split at e
  · rename_i vs e1
    split at e
    · rename_i hl
      cases e
      obtain ⟨a, xs, rfl, hq, hv⟩ := els_ok rp q e1
      rw [hK] at hq
      have hg := gNames_ok is (Q := Q) sr hv hl w
      rcases hq with hq | hq
      · exact .inr ⟨a, xs, rfl, hq, by rw [← hv.length]; exact hl, hg⟩
      · exact .inl ⟨a, xs, rfl, hq, by rw [← hv.length]; exact hl, hg⟩
    · cases e
  · cases e

/-! ### what is walked -/
/-- from s0 on, J gives the items vs one after another -/
def Src (G : Gb) (Av : Addr → Prop) (J : It) (vs : List Val) (s0 : S3) : Prop :=
  ∀ (Av' : Addr → Prop) (s : S3), RepH G Av' s → Stp s0 s → (∀ a, s0.H a ≠ none → Av' a → Av a) → ∀ i,
    (∀ v, vs[i]? = some v → J.go i s.H ∧ ∀ x H', J.yld i s.H x H' → ∃ s', s'.H = H' ∧ s'.h = s.h ∧ RepH G Av' s' ∧ Stp s s' ∧ VR G Av' s' v x) ∧ (vs[i]? = none → J.stop i s.H)
/-- what is walked, as the evaluator has it -/
def SvR (G : Gb) (Av : Addr → Prop) : Sv → It → S3 → Prop
  | .data vs, J, s => Src G Av J vs s
  | .obj n, J, s => ∃ a, s.r[n]? = some a ∧ J = Itl G.K a
def tI (G : Gb) (W : WX) (m : Sg → Hq → R Sv) : TI := fun τ H R => ∃ (Av : Addr → Prop) (s : S3) (σ : Sg), s.H = H ∧ RepH G Av s ∧ SR G Av s σ τ ∧ Post G (We W τ) Av s (SvR G Av) (m σ s.h) R
theorem _root_.L2.PI.imp {tg e : Expr} {t t' : TI} (h : PI X tg e t) (q : ∀ τ H Q, t' τ H Q → t τ H Q) : PI X tg e t' := ⟨fun pins s σ H Q I w => h.run pins s σ H Q I (q _ _ _ w)⟩
theorem Stp.bad' {Av Av' : Addr → Prop} {s s' : S3} (t : Stp s s') (nd : s'.r.Nodup) (hA : ∀ a, s.H a ≠ none → Av' a → Av a) : ∀ a, s.H a ≠ none → ¬ Bad Av s a → ¬ Bad Av' s' a := fun a ha hb hb' => by
  rcases hb' with h | h
  · exact hb (.inl (hA a ha h))
  · exact t.bad nd a ha hb (.inr h)
theorem Stp.dr' {Av Av' : Addr → Prop} {s s' : S3} (t : Stp s s') (nd : s'.r.Nodup) (hA : ∀ a, s.H a ≠ none → Av' a → Av a) {v : V} {d : D} (h : DR G.K s.H (Bad Av s) v d) : DR G.K s'.H (Bad Av' s') v d :=
  DR.mono t.fr (fun a z => .inr z) (t.bad' nd hA) h
theorem Stp.drs' {Av Av' : Addr → Prop} {s s' : S3} (t : Stp s s') (nd : s'.r.Nodup) (hA : ∀ a, s.H a ≠ none → Av' a → Av a) {v : List V} {d : List D} (h : DRs G.K s.H (Bad Av s) v d) : DRs G.K s'.H (Bad Av' s') v d :=
  DRs.mono t.fr (fun a z => .inr z) (t.bad' nd hA) h
theorem Stp.vr' {Av Av' : Addr → Prop} {s s' : S3} (t : Stp s s') (nd : s'.r.Nodup) (hA : ∀ a, s.H a ≠ none → Av' a → Av a) {v : Val} {x : V} (h : VR G Av s v x) : VR G Av' s' v x := by
  cases h with
  | d q => exact .d (t.dr' nd hA q)
  | ref q => exact .ref (pre_get t.pre q)
  | fn q => exact .fn q
theorem Stp.vrs' {Av Av' : Addr → Prop} {s s' : S3} (t : Stp s s') (nd : s'.r.Nodup) (hA : ∀ a, s.H a ≠ none → Av' a → Av a) : ∀ {vs : List Val} {xs : List V}, VRs G Av s vs xs → VRs G Av' s' vs xs
  | _, _, .nil => .nil
  | _, _, .cons h q => .cons (t.vr' nd hA h) (t.vrs' nd hA q)
theorem DRs.get {K : PySem.W.Frag} {H : Hp} {B : Addr → Prop} : ∀ {xs : List V} {ds : List D} {i : Nat} {d : D}, DRs K H B xs ds → ds[i]? = some d → ∃ x, xs[i]? = some x ∧ DR K H B x d
  | _, _, _, _, .nil, e => by simp at e
  | _, _, 0, v, .cons h _, e => by
    have e : some _ = some v := e
    cases e
    exact ⟨_, rfl, h⟩
  | _, _, i + 1, v, .cons _ t, e => DRs.get (i := i) t e
/-- a list of data that stands -/
theorem src_list {Av : Addr → Prop} {s0 : S3} {a : Addr} {xs : List V} {ds : List D} (h : (Rd s0.H a (.lst xs) ∧ ¬ Bad Av s0 a) ∨ WrL G.K a xs) (t : DRs G.K s0.H (Bad Av s0) xs ds) : Src G Av (Itl G.K a) (ds.map .d) s0 := by
  intro Av' s rp st hA i
  have hq : SqL G.K s.H a xs := by
    rcases h with h | h
    · exact .inl (st.fr.rd h.1 (fun z => h.2 (.inr z)) (fun ps z => by cases z))
    · exact h.any _
  have hd := st.drs' rp.nd hA t
  constructor
  · intro v e
    rw [List.getElem?_map] at e
    cases e2 : ds[i]? with
    | none => rw [e2] at e; cases e
    | some d =>
      rw [e2] at e
      cases e
      obtain ⟨x, ex, dx⟩ := hd.get e2
      refine ⟨⟨xs, x, hq, ex⟩, fun y H' yl => ?_⟩
      obtain ⟨rfl, hy⟩ := yl
      have := hy xs hq
      rw [ex] at this
      cases this
      exact ⟨s, rfl, rfl, rp, Stp.refl _, .d dx⟩
  · intro e
    refine ⟨xs, hq, ?_⟩
    rw [t.length]
    rw [List.getElem?_map] at e
    cases e2 : ds[i]? with
    | none => exact List.getElem?_eq_none_iff.mp e2
    | some d => rw [e2] at e; cases e
theorem src_tup {Av : Addr → Prop} {s0 : S3} {a : Addr} {xs : List V} {ds : List D} (h : SqT G.K s0.H a xs) (t : DRs G.K s0.H (Bad Av s0) xs ds) : Src G Av (Itt G.K a) (ds.map .d) s0 := by
  intro Av' s rp st hA i
  have hq : SqT G.K s.H a xs := st.fr.sqt h
  have hd := st.drs' rp.nd hA t
  constructor
  · intro v e
    rw [List.getElem?_map] at e
    cases e2 : ds[i]? with
    | none => rw [e2] at e; cases e
    | some d =>
      rw [e2] at e
      cases e
      obtain ⟨x, ex, dx⟩ := hd.get e2
      refine ⟨⟨xs, x, hq, ex⟩, fun y H' yl => ?_⟩
      obtain ⟨rfl, hy⟩ := yl
      have := hy xs hq
      rw [ex] at this
      cases this
      exact ⟨s, rfl, rfl, rp, Stp.refl _, .d dx⟩
  · intro e
    refine ⟨xs, hq, ?_⟩
    rw [t.length]
    rw [List.getElem?_map] at e
    cases e2 : ds[i]? with
    | none => exact List.getElem?_eq_none_iff.mp e2
    | some d => rw [e2] at e; cases e
theorem rangeL_get : ∀ (n : Nat) (lo : Int) (i : Nat), (rangeL lo n)[i]? = if i < n then some (Val.d (.int (lo + i))) else none
  | 0, lo, i => by simp [rangeL]
  | n + 1, lo, 0 => by simp [rangeL]
  | n + 1, lo, i + 1 => by
    show (rangeL (lo + 1) n)[i]? = _
    rw [rangeL_get n (lo + 1) i]
    by_cases h : i < n
    · rw [if_pos h, if_pos (Nat.succ_lt_succ h)]
      congr 3
      omega
    · rw [if_neg h, if_neg (fun z => h (Nat.lt_of_succ_lt_succ z))]
theorem src_rng {Av : Addr → Prop} {s0 : S3} {lo : Int} {n : Nat} : Src G Av (Itr lo n) (rangeL lo n) s0 := by
  intro Av' s rp st hA i
  rw [rangeL_get]
  constructor
  · intro v e
    split at e
    · rename_i h
      cases e
      refine ⟨h, fun y H' yl => ?_⟩
      obtain ⟨rfl, rfl⟩ := yl
      exact ⟨s, rfl, rfl, rp, Stp.refl _, .d (.int _)⟩
    · cases e
  · intro e
    split at e
    · cases e
    · rename_i h; exact Nat.not_lt.mp h

/-- a list or a tuple, walked -/
def iSeq (K : PySem.W.Frag) (tl : TE) : TI := fun σ H R => tl σ H fun x H1 => ∃ a, x = .ref a ∧ (((∃ xs, SqL K H1 a xs) ∧ R (Itl K a) H1) ∨ ((∃ xs, SqT K H1 a xs) ∧ R (Itt K a) H1))
theorem pi_seq {tg l : Expr} {tl : TE} (hl : PE X l tl) : PI X tg l (iSeq X.K tl) := by
  refine ⟨fun pins s σ H R I h => ?_⟩
  refine thn (hl.run pins s σ H _ I h) fun v s1 ⟨x, H1, I1, r1, q1⟩ => ?_
  obtain ⟨a, e, q1⟩ := q1
  subst e
  cases r1
  rcases q1 with ⟨⟨xs, hq⟩, q⟩ | ⟨⟨xs, hq⟩, q⟩
  · obtain ⟨its, rv, p, hz⟩ := I1.list hq
    refine PySem.wpAny_pyIter_list p.isList ?_
    refine ⟨s1.heap.objs.size, [s1.heap.objs.size], _, _, H1, rfl, I1.kept (t' := s1.toks) fun b o e => Heap.get?_push_of_some _ e, turn_list a _, ⟨_, Heap.get?_push_size _ rfl, rfl, rfl⟩, fun b hb => ?_, q⟩
    have e : b = s1.heap.objs.size := by simpa using hb
    subst e
    exact I1.fpOk (Nat.le_refl _) (I1.hok.fresh (Nat.le_refl _))
  · obtain ⟨its, rv, p, hz⟩ := I1.tuple hq
    refine PySem.wpAny_pyIter_tuple (show s1.heap.IsTuple a its.toArray from p) ?_
    refine ⟨s1.heap.objs.size, [s1.heap.objs.size], _, _, H1, rfl, I1.kept (t' := s1.toks) fun b o e => Heap.get?_push_of_some _ e, turn_tuple a _, ⟨_, Heap.get?_push_size _ rfl, rfl, rfl⟩, fun b hb => ?_, q⟩
    have e : b = s1.heap.objs.size := by simpa using hb
    subst e
    exact I1.fpOk (Nat.le_refl _) (I1.hok.fresh (Nat.le_refl _))
theorem ii_val {tg l : Expr} {ma : Sg → Hq → R Val} (hK : G.K = X.K) (ha : PE X l (tE G W ma)) : PI X tg l (tI G W fun σ h => (ma σ h).bind fun x h1 => srcV x h1) := by
  refine (pi_seq ha).imp fun τ H Q ⟨Av, s, σ, hH, rp, sr, p⟩ => ?_
  subst hH
  refine tE_bind rp sr p fun v y s1 rp1 st1 sr1 q1 p1 => ?_
  cases q1 with
  | fn _ => exact p1.elim
  | d q =>
    cases q with
    | non => exact p1.elim
    | bl b => exact p1.elim
    | int i => exact p1.elim
    | str z => exact p1.elim
    | lst h t => exact ⟨_, rfl, .inl ⟨⟨_, hK ▸ sql_of h⟩, hK ▸ p1.fin rp1 (src_list h t)⟩⟩
    | tup h t => exact ⟨_, rfl, .inr ⟨⟨_, hK ▸ h⟩, hK ▸ p1.fin rp1 (src_tup h t)⟩⟩
  | ref hn =>
    unfold srcV at p1
    simp only at p1
    split at p1
    · rename_i n b ws hl
      obtain ⟨xs, hx, hv⟩ := rp1.obj _ _ _ hn hl
      exact ⟨_, rfl, .inl ⟨⟨xs, .inl (.inl hx)⟩, hK ▸ p1.fin rp1 ⟨_, hn, rfl⟩⟩⟩
    · rename_i n b ws hl
      have q := rp1.obj _ _ _ hn hl
      cases q with
      | lst h t => exact ⟨_, rfl, .inl ⟨⟨_, hK ▸ sql_of h⟩, hK ▸ p1.fin rp1 (src_list h t)⟩⟩
    · rename_i hl
      obtain ⟨ob, xs, e1, e2, e3⟩ := rp1.obj _ _ _ hn hl
      have h : SqT G.K s1.H _ xs := .inl (.inr ⟨ob, e2⟩)
      exact ⟨_, rfl, .inr ⟨⟨_, hK ▸ h⟩, hK ▸ p1.fin rp1 (src_tup h e3)⟩⟩
    · exact p1.elim
end
end Ip

set_option linter.all false
set_option Elab.async false
set_option autoImplicit false
/-! Ranges, zip, comprehensions. -/
namespace Ip
open PySem L2

section
variable {X : Cx} {G : Gb} {E : XK} {W : WX} {pos : Pos}

theorem okRng_c {i : Int} (h : okRng i = true) : -(2 ^ 62) ≤ i ∧ i < 2 ^ 62 := by
  have h := lt_of_log2 (of_decide_eq_true h)
  omega
theorem intV_ok {Av : Addr → Prop} {s : S3} {v : Val} {y : V} {i : Int} (q : VR G Av s v y) (e : intV v = some i) : y = .int i := by
  cases q with
  | d q =>
    cases q with
    | int j => cases e; rfl
    | non => cases e
    | bl b => cases e
    | str z => cases e
    | lst h t => cases e
    | tup h t => cases e
  | ref _ => cases e
  | fn _ => cases e
theorem ii_rng {tg a : Expr} {p : Pos} {ma : Sg → Hq → R Val} (hg : Gl X "range") (hm : X.mg "range" = none) (ha : PE X a (tE G W ma)) (hs : starEach [a] X.env = [(false, eval a X.env)]) :
    PI X tg (.Call (.Name "range" p) [a] [] pos) (tI G W fun σ h => (ma σ h).bind fun x h1 => match intV x with | some i => if okRng i then .ok (.data (rangeL 0 i.toNat)) h1 else .no | none => .no) := by
  have hst' : starEach [a] X.env = (false, eval a X.env) :: starEach [] X.env := by rw [hs]; rfl
  refine (pi_range1 hg hm (pa_cons ha pa_nil hst') hs).imp fun τ H Q ⟨Av, s, σ, hH, rp, sr, p⟩ => ?_
  subst hH
  refine tE_bind rp sr p fun v y s1 rp1 st1 sr1 q1 p1 => ?_
  split at p1
  · rename_i i e
    cases intV_ok q1 e
    split at p1
    · rename_i hf
      obtain ⟨h1, h2⟩ := okRng_c hf
      exact ⟨i, rfl, h1, h2, p1.fin rp1 src_rng⟩
    · exact p1.elim
  · exact p1.elim
theorem ii_rng2 {tg a b : Expr} {p : Pos} {ma mb : Sg → Hq → R Val} (hg : Gl X "range") (hm : X.mg "range" = none) (ha : PE X a (tE G W ma)) (hb : PE X b (tE G W mb)) (hs : starEach [a, b] X.env = [(false, eval a X.env), (false, eval b X.env)]) (hs2 : starEach [b] X.env = [(false, eval b X.env)]) :
    PI X tg (.Call (.Name "range" p) [a, b] [] pos) (tI G W fun σ h => (ma σ h).bind fun x h1 => (mb σ h1).bind fun y h2 => match intV x, intV y with | some i, some j => if okRng i && okRng j then .ok (.data (rangeL i (j - i).toNat)) h2 else .no | _, _ => .no) := by
  have hst' : starEach [a, b] X.env = (false, eval a X.env) :: starEach [b] X.env := by rw [hs, hs2]
  have hst2 : starEach [b] X.env = (false, eval b X.env) :: starEach [] X.env := by rw [hs2]; rfl
  refine (pi_range2 hg hm (pa_cons ha (pa_cons hb pa_nil hst2) hst') hs hs2).imp fun τ H Q ⟨Av, s, σ, hH, rp, sr, p⟩ => ?_
  subst hH
  refine tE_bind rp sr p fun v y s1 rp1 st1 sr1 q1 p1 => ?_
  refine tE_bind rp1 sr1 p1 fun w z s2 rp2 st2 sr2 q2 p2 => ?_
  split at p2
  · rename_i i j e e2
    cases intV_ok q1 e
    cases intV_ok q2 e2
    split at p2
    · rename_i hf
      rw [Bool.and_eq_true] at hf
      obtain ⟨h1, h2⟩ := okRng_c hf.1
      obtain ⟨h3, h4⟩ := okRng_c hf.2
      exact ⟨i, j, rfl, ⟨h1, h2, h3, h4⟩, p2.fin rp2 src_rng⟩
    · exact p2.elim
  · exact p2.elim
theorem src_zip {Av : Addr → Prop} {s0 : S3} {a b : Addr} {xs ys : List V} {ds es : List D} (h : (Rd s0.H a (.lst xs) ∧ ¬ Bad Av s0 a) ∨ WrL G.K a xs) (t : DRs G.K s0.H (Bad Av s0) xs ds) (h' : (Rd s0.H b (.lst ys) ∧ ¬ Bad Av s0 b) ∨ WrL G.K b ys) (t' : DRs G.K s0.H (Bad Av s0) ys es) :
    Src G Av (Itz G.K a b) ((ds.zip es).map fun p => .d (.tuple [p.1, p.2])) s0 := by
  intro Av' s rp st hA i
  have sq : ∀ {a : Addr} {xs : List V}, (Rd s0.H a (.lst xs) ∧ ¬ Bad Av s0 a) ∨ WrL G.K a xs → SqL G.K s.H a xs := fun h => by
    rcases h with h | h
    · exact .inl (st.fr.rd h.1 (fun z => h.2 (.inr z)) (fun ps z => by cases z))
    · exact h.any _
  have hq := sq h
  have hq' := sq h'
  have hd := st.drs' rp.nd hA t
  have hd' := st.drs' rp.nd hA t'
  constructor
  · intro v e
    rw [List.getElem?_map] at e
    cases e2 : (ds.zip es)[i]? with
    | none => rw [e2] at e; cases e
    | some d =>
      rw [e2] at e
      cases e
      obtain ⟨e3, e4⟩ := List.getElem?_zip_eq_some.mp e2
      obtain ⟨x, ex, dx⟩ := hd.get e3
      obtain ⟨y, ey, dy⟩ := hd'.get e4
      refine ⟨⟨xs, ys, x, y, hq, hq', ex, ey⟩, fun z H' yl => ?_⟩
      obtain ⟨T, x1, x2, rfl, hT, rfl, f1, f2⟩ := yl
      have g1 := f1 xs hq
      have g2 := f2 ys hq'
      rw [ex] at g1
      rw [ey] at g2
      cases g1; cases g2
      obtain ⟨rp3, st3⟩ := rp.upd_new (o := .tup [x, y]) hT
      exact ⟨⟨s.r, s.h, upd s.H T (.tup [x, y])⟩, rfl, rfl, rp3, st3, .d (.tup (SqT.of upd_same) (.cons (st3.dr rp3.nd dx) (.cons (st3.dr rp3.nd dy) .nil)))⟩
  · intro e
    rw [List.getElem?_map] at e
    have e2 : (ds.zip es)[i]? = none := by
      cases e2 : (ds.zip es)[i]? with
      | none => rfl
      | some d => rw [e2] at e; cases e
    have e3 := List.getElem?_eq_none_iff.mp e2
    rw [List.length_zip] at e3
    refine ⟨xs, ys, hq, hq', ?_⟩
    rw [t.length, t'.length]
    omega
theorem ii_zip {a b : Expr} {elts : List Expr} {kk : Nat} {p tpos : Pos} {ma mb : Sg → Hq → R Val} (hK : G.K = X.K) (hg : Gl X "zip") (hm : X.mg "zip" = none) (ha : PE X a (tE G W ma)) (hb : PE X b (tE G W mb)) (hs : starEach [a, b] X.env = [(false, eval a X.env), (false, eval b X.env)]) (hs2 : starEach [b] X.env = [(false, eval b X.env)]) :
    PI X (.Tuple elts kk tpos) (.Call (.Name "zip" p) [a, b] [] pos) (tI G W fun σ h => (ma σ h).bind fun x h1 => (mb σ h1).bind fun y h2 => match x, y with
    | .d (.list xs), .d (.list ys) => .ok (.data ((xs.zip ys).map fun p => .d (.tuple [p.1, p.2]))) h2
    | _, _ => .no) := by
  have hst' : starEach [a, b] X.env = (false, eval a X.env) :: starEach [b] X.env := by rw [hs, hs2]
  have hst2 : starEach [b] X.env = (false, eval b X.env) :: starEach [] X.env := by rw [hs2]; rfl
  refine (pi_zip hg hm (pa_cons ha (pa_cons hb pa_nil hst2) hst') hst' (by rw [hs2]; rfl)).imp fun τ H Q ⟨Av, s, σ, hH, rp, sr, p⟩ => ?_
  subst hH
  refine tE_bind rp sr p fun v y s1 rp1 st1 sr1 q1 p1 => ?_
  refine tE_bind rp1 sr1 p1 fun w z s2 rp2 st2 sr2 q2 p2 => ?_
  have q1 := st2.vr rp2.nd q1
  split at p2
  · cases q1 with
    | d q1 =>
      cases q1 with
      | lst h t =>
        cases q2 with
        | d q2 =>
          cases q2 with
          | lst h' t' => exact ⟨_, _, _, _, rfl, hK ▸ sql_of h, hK ▸ sql_of h', hK ▸ p2.fin rp2 (src_zip h t h' t')⟩
  · exact p2.elim

/-! ### a comprehension -/
/-- an object that may be written here alone -/
theorem RepH.own {Av : Addr → Prop} {s : S3} {p : Addr} {zs xs : List V} (rp : RepH G (also Av p) s) (hp : s.H p = some (.lst zs)) :
    RepH G (also Av p) ⟨s.r, s.h, upd s.H p (.lst xs)⟩ ∧ ∀ {v : Val} {x : V}, VR G (also Av p) s v x → VR G (also Av p) ⟨s.r, s.h, upd s.H p (.lst xs)⟩ v x := by
  have f : Fr (fun a => a = p) s.H (upd s.H p (.lst xs)) := fr_upd_live hp (fun _ z => by cases z) (fun _ _ z => by cases z) rfl
  have cv : ∀ {v : V} {d : D}, DR G.K s.H (Bad (also Av p) s) v d → DR G.K (upd s.H p (.lst xs)) (Bad (also Av p) ⟨s.r, s.h, upd s.H p (.lst xs)⟩) v d := fun q =>
    DR.mono f (fun a z => .inl (.inr z)) (fun a _ h z => h z) q
  have cw : ∀ {v : Val} {x : V}, VR G (also Av p) s v x → VR G (also Av p) ⟨s.r, s.h, upd s.H p (.lst xs)⟩ v x := fun {v x} q => by
    cases q with
    | d q => exact .d (cv q)
    | ref q => exact .ref q
    | fn q => exact .fn q
  refine ⟨⟨rp.len, rp.nd, fun n a o e1 e2 => ?_, fun a z => f.there a (rp.av a z), rp.dis, fun a z => f.there a (rp.trk a z), tabs_upd rp.tabs (.inr ⟨_, hp, fun _ z => (by cases z), fun _ z => (by unfold LamX.CodeO at z; cases z)⟩)⟩, cw⟩
  have q := rp.obj n a o e1 e2
  cases o with
  | lst vs =>
    obtain ⟨ys, h1, h2⟩ := q
    have : a ≠ p := fun z => by subst z; exact rp.dis a (.inr rfl) (List.mem_of_getElem? e1)
    refine ⟨ys, (upd_ne this).trans h1, ?_⟩
    clear h1 e2
    induction h2 with
    | nil => exact .nil
    | cons h _ ih => exact .cons (cw h) ih
  | dead x => exact cv q
  | dct c =>
    obtain ⟨ob, h1, h2⟩ := q
    have : a ≠ p := fun z => by subst z; exact rp.dis a (.inr rfl) (List.mem_of_getElem? e1)
    exact ⟨ob, (upd_ne this).trans h1, h2.map cw f.sqt⟩
  | tx ds =>
    obtain ⟨ob, us, h1, h2, h3⟩ := q
    exact ⟨ob, us, h1, f.frz _ _ _ h2, DRs.mono f (fun a z => .inl (.inr z)) (fun a _ h z => h z) h3⟩
theorem Stp.own {s0 s : S3} {p : Addr} {o : HO} {zs : List V} (st : Stp s0 s) (h0 : s0.H p = none) (hp : s.H p = some (.lst zs)) : Stp s0 ⟨s.r, s.h, upd s.H p o⟩ := by
  refine ⟨st.pre, st.liv, ⟨fun a u h n nt => ?_, fun a h => ?_, fun a xs h => ?_, fun a ob w h => ?_⟩, st.new⟩
  · have : a ≠ p := ne_of_none h h0
    exact (upd_ne this).trans (st.fr.keep a u h n nt)
  · show upd s.H p o a ≠ none
    by_cases e : a = p
    · subst e; rw [upd_same]; exact fun z => by cases z
    · rw [upd_ne e]; exact st.fr.there a h
  · have : a ≠ p := ne_of_none h h0
    exact (upd_ne this).trans (st.fr.tup a xs h)
  · have : a ≠ p := ne_of_none h h0
    exact (upd_ne this).trans (st.fr.frz a ob w h)
abbrev E0 : XK := fun _ _ _ => False
abbrev W0 : WX := fun _ _ _ _ => False
theorem Post.quiet {Av : Addr → Prop} {s : S3} {α β : Type} {Rl : α → β → S3 → Prop} {r : R α} {Q : β → Hp → Prop} (p : Post G E Av s Rl r.quiet Q) : Post G Ip.E0 Av s Rl r Q := by
  cases r with
  | ok a h => exact p
  | er e h => exact p.elim
  | no => exact p
theorem bindT_h {h h' : Hq} (t : Tgt) (v : Val) (σ : Sg) (e : h = h') : bindT h t v σ = bindT h' t v σ := by subst e; rfl

/-- one turn's yield -/
def turnC (t : Tgt) (own : List Nat) (σ : Sg) (mI : Sg → Hq → R Bool) (me : Sg → Hq → R Val) : Val → Hq → R (List Val) := fun v h =>
  match bindT h t v (Ip.wipe σ own) with
  | none => .no
  | some σ' => ((mI σ' h).bind fun k h2 => if k then (me σ' h2).bind fun x h3 => .ok [x] h3 else .ok [] h2).quiet
/-- a comprehension's items -/
def cmpM (t : Tgt) (own : List Nat) (mS : Sg → Hq → R Sv) (mI : Sg → Hq → R Bool) (me : Sg → Hq → R Val) : Sg → Hq → R (List Val) := fun σ h => (mS σ h).bind fun sv h1 => match sv with
  | .data vs => if fits vs.length then cmpL (turnC t own σ mI me) vs h1 else .no
  | .obj _ => .no
theorem cmp_imp {own : List (Str × Nat)} {t : Tgt} {mS : Sg → Hq → R Sv} {mI : Sg → Hq → R Bool} {me : Sg → Hq → R Val} (ht : ∀ i ∈ tgs t, i ∈ own.map (·.2)) :
    ∀ τ H Q, tL G W (cmpM t (own.map (·.2)) mS mI me) τ H Q → tLc (tI G W mS) (tG G t) (tT G Ip.W0 mI) (tE G Ip.W0 me) (own.map (·.2)) τ H Q := by
  intro τ H Q ⟨Av, s, σ, hH, rp, sr, p⟩
  subst hH
  show tI G W mS τ s.H _
  refine ⟨Av, s, σ, rfl, rp, sr, ?_⟩
  revert p
  show Post G _ Av s (LR G Av s) ((mS σ s.h).bind _) Q → _
  cases mS σ s.h with
  | er x h => exact fun p => p
  | no => exact fun p => p
  | ok sv h1 =>
  intro p s1 J e1 rp1 st1 sv1
  subst e1
  cases sv with
  | obj n => exact p.elim
  | data vs =>
  have p : Post G _ Av s (LR G Av s) (if fits vs.length then cmpL (turnC t (own.map (·.2)) σ mI me) vs s1.h else .no) Q := p
  split at p
  case isFalse => exact p.elim
  rename_i hf
  intro D0 hD
  have h0D : s.H D0 = none := by
    cases e : s.H D0 with
    | none => rfl
    | some o => exact absurd hD (st1.fr.there D0 (by rw [e]; exact fun z => by cases z))
  obtain ⟨rpA, conv⟩ := rp1.more hD (o := .lst [])
  obtain ⟨_, stA⟩ := rp1.upd_new (o := .lst []) hD
  have sr1 := st1.sr rp1.nd sr
  have p0 : Post G (We W τ) Av s (LR G Av s) ((cmpL (turnC t (own.map (·.2)) σ mI me) (vs.drop 0) s1.h).bind fun us h2 => .ok ([] ++ us) h2) Q := by
    have e : ((cmpL (turnC t (own.map (·.2)) σ mI me) (vs.drop 0) s1.h).bind fun us h2 => R.ok ([] ++ us) h2) = cmpL (turnC t (own.map (·.2)) σ mI me) vs s1.h := by
      rw [List.drop_zero]; exact R.bind_id _
    rw [e]; exact p
  refine ⟨fun i m H' => m = vs.length - i ∧ i ≤ vs.length ∧ ∃ (s2 : S3) (ws : List Val) (acc : List V), s2.H = H' ∧ RepH G (also Av D0) s2 ∧ Stp s1 s2 ∧ Stp s s2 ∧ s2.H D0 = some (.lst acc) ∧ VRs G (also Av D0) s2 ws acc ∧ acc.length ≤ i ∧
    Post G (We W τ) Av s (LR G Av s) ((cmpL (turnC t (own.map (·.2)) σ mI me) (vs.drop i) s2.h).bind fun us h2 => .ok (ws ++ us) h2) Q, ⟨vs.length, by simp, Nat.zero_le _, ⟨s1.r, s1.h, upd s1.H D0 (.lst [])⟩, [], [], rfl, rpA, stA, st1.trans stA rp1.nd rp1.len, upd_same, .nil, Nat.le_refl _, p0⟩, ?_⟩
  rintro i m H' ⟨rfl, hi2, s2, ws, acc, rfl, rp2, st2, st02, hD2, hv2, hl2, p2⟩
  have srcAt := sv1 (also Av D0) s2 rp2 st2 (fun a ha z => z.elim id fun z => by subst z; exact absurd hD ha) i
  cases hvi : vs[i]? with
  | none =>
    have hlen : vs.length ≤ i := List.getElem?_eq_none_iff.mp hvi
    refine .inl ⟨srcAt.2 hvi, ?_⟩
    rw [List.drop_eq_nil_of_le hlen] at p2
    have p2 : Post G _ Av s (LR G Av s) (.ok (ws ++ []) s2.h) Q := p2
    rw [List.append_nil] at p2
    exact p2 s2 (.ref D0) rfl (rp2.less fun a z => .inl z) st02 ⟨D0, acc, rfl, h0D, rp2, hD2, hv2⟩
  | some v =>
    have hlt : i < vs.length := lt_of_get hvi
    obtain ⟨hgo, hyl⟩ := srcAt.1 v hvi
    have hdrop : vs.drop i = v :: vs.drop (i + 1) := by
      rw [List.drop_eq_getElem_cons hlt]
      rw [List.getElem?_eq_getElem hlt] at hvi
      rw [Option.some.inj hvi]
    rw [hdrop] at p2
    have p2 : Post G _ Av s (LR G Av s) (((turnC t (own.map (·.2)) σ mI me v s2.h).bind fun ws1 h1 => (cmpL (turnC t (own.map (·.2)) σ mI me) (vs.drop (i + 1)) h1).bind fun us h2 => .ok (ws1 ++ us) h2).bind fun us h2 => .ok (ws ++ us) h2) Q := p2
    rw [R.bind_assoc] at p2
    cases hturn : turnC t (own.map (·.2)) σ mI me v s2.h with
    | er x h =>
      exfalso
      unfold turnC at hturn
      split at hturn
      · cases hturn
      · rename_i σ' _
        revert hturn
        generalize ((mI σ' s2.h).bind fun k h2 => if k then (me σ' h2).bind fun x h3 => R.ok [x] h3 else R.ok [] h2) = r
        intro hturn
        cases r <;> cases hturn
    | no => rw [hturn] at p2; exact p2.elim
    | ok ws1 h3 =>
      rw [hturn] at p2
      simp only [R.bind_ok, R.bind_assoc] at p2
      refine .inr ⟨hgo, fun H6 => ∃ (s6 : S3) (acc6 : List V), s6.H = H6 ∧ RepH G (also Av D0) s6 ∧ Stp s1 s6 ∧ Stp s s6 ∧ s6.H D0 = some (.lst acc6) ∧ VRs G (also Av D0) s6 (ws ++ ws1) acc6 ∧ acc6.length ≤ i + 1 ∧ s6.h = h3, ?_, ?_⟩
      · rintro H6 ⟨s6, acc6, rfl, rp6, st6, st06, hD6, hv6, hl6, e6⟩
        refine ⟨vs.length - (i + 1), by omega, rfl, hlt, s6, ws ++ ws1, acc6, rfl, rp6, st6, st06, hD6, hv6, hl6, ?_⟩
        rw [e6]
        simp only [List.append_assoc]
        exact p2
      · intro x H7 hy
        obtain ⟨s7, rfl, hh7, rp7, st7, q7⟩ := hyl x H7 hy
        unfold turnC at hturn
        split at hturn
        · cases hturn
        rename_i σ' hb
        have srw : SR G (also Av D0) s7 (Ip.wipe σ (own.map (·.2))) (L2.wipe τ (own.map (·.2))) := by
          have a1 : SR G (also Av D0) s2 σ τ := ⟨sr1.len, fun j w e => by
            obtain ⟨y, e2, q2⟩ := sr1.at_ j w e
            exact ⟨y, e2, st2.vr' rp2.nd (fun a ha z => z.elim id fun z => by subst z; exact absurd hD ha) q2⟩⟩
          exact (st7.sr rp7.nd a1).wipe _
        refine ⟨also Av D0, s7, _, σ', v, rfl, rp7, srw, q7, by rw [bindT_h t v _ hh7]; exact hb, fun τ' sr' wi => ⟨?_, ?_⟩⟩
        · rw [wi _ ht, wipe_wipe]
        -- tests and element
        have hr : ((mI σ' s7.h).bind fun k h2 => if k then (me σ' h2).bind fun x h3 => R.ok [x] h3 else R.ok [] h2) = .ok ws1 h3 := by
          rw [hh7]
          revert hturn
          generalize ((mI σ' s2.h).bind fun k h2 => if k then (me σ' h2).bind fun x h3 => R.ok [x] h3 else R.ok [] h2) = r
          intro hturn
          cases r with
          | ok a h => exact hturn
          | er a h => cases hturn
          | no => cases hturn
        have pin : Post G Ip.E0 (also Av D0) s7 (fun vs ys s' => VRs G (also Av D0) s' vs ys) ((mI σ' s7.h).bind fun k h2 => if k then (me σ' h2).bind fun x h3 => R.ok [x] h3 else R.ok [] h2)
            (fun (ys : List V) H8 => ∃ s8 : S3, s8.H = H8 ∧ s8.h = h3 ∧ RepH G (also Av D0) s8 ∧ Stp s7 s8 ∧ VRs G (also Av D0) s8 ws1 ys) := by
          rw [hr]
          exact fun s8 ys e rp8 st8 q8 => ⟨s8, rfl, e, rp8, st8, q8⟩
        have hD7 : s7.H D0 = some (.lst acc) := st7.fr.keep D0 _ hD2 (fun ⟨n, z, _⟩ => rp2.dis D0 (.inr rfl) (List.mem_of_getElem? z)) (fun ps z => by cases z)
        -- from the turn's last state
        have fin : ∀ {s8 : S3} {ys : List V}, RepH G (also Av D0) s8 → Stp s7 s8 → s8.H D0 = some (.lst acc) ∧ Stp s1 s8 ∧ Stp s s8 ∧ VRs G (also Av D0) s8 ws acc := fun {s8 ys} rp8 st8 => by
          have st28 := st7.trans st8 rp7.nd rp7.len
          exact ⟨st8.fr.keep D0 _ hD7 (fun ⟨n, z, _⟩ => rp7.dis D0 (.inr rfl) (List.mem_of_getElem? z)) (fun ps z => by cases z), st2.trans st28 rp2.nd rp2.len, st02.trans st28 rp2.nd rp2.len, st28.vrs rp8.nd hv2⟩
        refine tT_bind rp7 sr' pin fun b s8 rp8 st8 sr8 p8 => ?_
        cases b with
        | false =>
          have p8 : Post G Ip.E0 (also Av D0) s8 (fun vs ys s' => VRs G (also Av D0) s' vs ys) (.ok [] s8.h) _ := p8
          rw [if_neg Bool.false_ne_true]
          obtain ⟨s9, e9, eh9, rp9, st9, q9⟩ := p8.fin rp8 .nil
          obtain ⟨f1, f2, f3, f4⟩ := fin (ys := []) rp9 st9
          cases hws : ws1 with
          | cons a b => rw [hws] at q9; cases q9
          | nil =>
            rw [← e9]
            exact ⟨s9, acc, rfl, rp9, f2, f3, f1, by rw [List.append_nil]; exact f4, by omega, eh9⟩
        | true =>
          have p8 : Post G Ip.E0 (also Av D0) s8 (fun vs ys s' => VRs G (also Av D0) s' vs ys) ((me σ' s8.h).bind fun x h3 => R.ok [x] h3) _ := p8
          rw [if_pos rfl]
          refine tE_bind rp8 sr8 p8 fun xv y s9 rp9 st9 sr9 q9 p9 => ?_
          obtain ⟨s10, e10, eh10, rp10, st10, q10⟩ := p9.fin (y := [y]) rp9 (.cons q9 .nil)
          obtain ⟨f1, f2, f3, f4⟩ := fin (ys := [y]) rp10 st10
          rw [← e10]
          refine ⟨acc, f1, ?_, ?_⟩
          · have := fits_line hf
            omega
          · obtain ⟨rp11, cw⟩ := rp10.own (xs := acc ++ [y]) f1
            have cws : ∀ {v : List Val} {x : List V}, VRs G (also Av D0) s10 v x → VRs G (also Av D0) ⟨s10.r, s10.h, upd s10.H D0 (.lst (acc ++ [y]))⟩ v x := fun {v x} q => by
              induction q with
              | nil => exact .nil
              | cons h _ ih => exact .cons (cw h) ih
            exact ⟨⟨s10.r, s10.h, upd s10.H D0 (.lst (acc ++ [y]))⟩, acc ++ [y], rfl, rp11, f2.own hD f1, f3.own h0D f1, upd_same, cws (f4.append q10), by rw [List.length_append]; simp; omega, eh10⟩
theorem il_cmp {elt tg iter : Expr} {ifs : List Expr} {scope : Scope} {own : List (Str × Nat)} {t : Tgt} {mS : Sg → Hq → R Sv} {mI : Sg → Hq → R Bool} {me : Sg → Hq → R Val} (hc : X.calm = true) (hN : X.N.Nodup) (hi : PI X tg iter (tI G W mS)) (ok : BlkOk X.N X.env.scope scope own)
    (ht : ∀ i ∈ tgs t, i ∈ own.map (·.2))
    (hg : ∀ (s : Shared) (H : Hp) (C : Addr) (cl : List (Str × Addr)) (fp : List Addr), PG (X.blk s H scope (compEnvC scope cl C X.env) fp) tg (tG G t))
    (hI : ∀ (s : Shared) (H : Hp) (C : Addr) (cl : List (Str × Addr)) (fp : List Addr), PTs (X.blk s H scope (compEnvC scope cl C X.env) fp) ifs (tT G Ip.W0 mI))
    (he : ∀ (s : Shared) (H : Hp) (C : Addr) (cl : List (Str × Addr)) (fp : List Addr), PE (X.blk s H scope (compEnvC scope cl C X.env) fp) elt (tE G Ip.W0 me))
    (hs : ∀ x, foldedSetIterable iter X.env x = pure x) : PE X (.ListComp elt [⟨tg, iter, ifs, 0⟩] scope pos) (tL G W (cmpM t (own.map (·.2)) mS mI me)) :=
  (pe_lc hc hN hi ok hg hI he hs).imp (cmp_imp ht)
/-- the tests of a clause -/
theorem it_nil : PTs X [] (tT G W fun _ h => .ok true h) :=
  ⟨fun pins s τ H Q I ⟨Av, s3, σ, hH, rp, sr, p⟩ => pts_nil.run pins s τ H Q I (by subst hH; exact p.fin rp rfl)⟩
theorem it_one {c : Expr} {m : Sg → Hq → R Val} (h : PT X c (tT G W (tst m))) : PTs X [c] (tT G W fun σ h => (m σ h).bind fun x h1 => (tru x h1).bind fun k h2 => if k then .ok true h2 else .ok false h2) := by
  have h' : PT X c (tT G W fun σ h => (m σ h).bind fun x h1 => (tru x h1).bind fun k h2 => if k then .ok true h2 else .ok false h2) := h.cong fun σ h => by
    simp only [tst]
    congr 1
    funext x h1
    cases tru x h1 with
    | ok k h2 => cases k <;> rfl
    | er _ _ => rfl
    | no => rfl
  exact pts_one h'
end
end Ip

set_option linter.all false
set_option Elab.async false
set_option autoImplicit false
set_option maxRecDepth 100000
/-! Comprehensions while an exception is handled. -/
namespace Ip
open PySem PySem.Spec L2 PyProof.Rows
section
variable {X : Cx} {pins : List (Addr × Obj)} {σ : L2.St} {H : Hp} {s : Shared} {G : Gb} {W : WX} {pos : Pos}
/-- the block's context; the handled exception stays pinned -/
abbrev blkH (X : Cx) (s : Shared) (H : Hp) (scope : Scope) (cenv : Env) (fp : List Addr) (p : Addr × Obj) : Cx := { X.blk s H scope cenv fp with pn := [p] }
theorem blkH_inv {s0 : Shared} {H0 : Hp} {scope : Scope} {cenv : Env} {fp : List Addr} {p : Addr × Obj} (I : Inv (X.blk s0 H0 scope cenv fp) [] σ H s)
    (hp : s.heap.get? p.1 = some p.2 ∧ H p.1 = none ∧ p.1 ≠ cenv.locals ∧ p.1 ∉ frs X.stack ∧ ∀ v, p.2.data ≠ .cell v) : Inv (blkH X s0 H0 scope cenv fp p) [] σ H s := by
  have k := I.ok
  refine ⟨⟨k.mod, k.kind, k.glob, k.blt, k.above, k.inj, k.has, k.cab, k.hd, k.frames, k.stk, k.exf, k.bs, k.bsz, k.noex, k.exfs, k.funs, k.frf⟩, I.os, I.bare, I.base, I.loc, I.cell, I.free, I.freeC, fun q hq => ?_, I.hok, I.len⟩
  have e : q = p := by simpa using (show q ∈ [p] ++ ([] : List (Addr × Obj)) from hq)
  rw [e]; exact hp
theorem lcH {Q : VK} {pos' : Pos} {use : Option (Value → Sem Unit)} {Qf : Value → Shared → Prop} {elt tg iter : Expr} {ifs : List Expr} {scope : Scope} {own : List (Str × Nat)} {wi : TI} {g : TG} {tt : TT} {te : TE} (I : Inv X pins σ H s) (hot : L2H.HotC X) (hN : X.N.Nodup) (hi : L2H.PIH X tg iter wi) (ok : BlkOk X.N X.env.scope scope own)
    (hg : ∀ (s : Shared) (H : Hp) (C : Addr) (cl : List (Str × Addr)) (fp : List Addr) (p : Addr × Obj), L2H.Hot1 X.A p → PG (blkH X s H scope (compEnvC scope cl C X.env) fp p) tg g)
    (ht : ∀ (s : Shared) (H : Hp) (C : Addr) (cl : List (Str × Addr)) (fp : List Addr) (p : Addr × Obj), L2H.Hot1 X.A p → PTs (blkH X s H scope (compEnvC scope cl C X.env) fp p) ifs tt)
    (he : ∀ (s : Shared) (H : Hp) (C : Addr) (cl : List (Str × Addr)) (fp : List Addr) (p : Addr × Obj), L2H.Hot1 X.A p → PE (blkH X s H scope (compEnvC scope cl C X.env) fp p) elt te)
    (hs : ∀ x, foldedSetIterable iter X.env x = pure x)
    (h : tLc wi g tt te (own.map (·.2)) σ H Q)
    (fin : ∀ (D C : Addr) (s' : Shared) (m : Str → Option Value) (H' : Hp), Inv X pins σ H' s' → Q (.ref D) H' → s'.heap.Ns C m → FpOk X pins H' C → compPost (model X.prog X.w) X.A X.xe use Qf (.ref D) C (.ok .next) s') :
    wpAny (model X.prog X.w) X.A (comprehension (.ListComp elt [⟨tg, iter, ifs, 0⟩] scope pos) scope X.env pos' (newList []) false (eval iter X.env) use) Qf X.xe s := by
  obtain ⟨p, hp1, hpm⟩ := hot
  have cellOf : ∀ y ∈ scope.names, y.2 = .free → ∃ c, X.env.cells.lookup y.1 = some c := fun y hy e => (ok.free y hy e).elim (fun k => I.ok.has _ (.inl k)) fun k => I.ok.has _ (.inr k)
  refine wpAny_comprehension_free (use := use) rfl hs (closure_ok cellOf) ok.kind (fun y hy e => by rw [ok.uniq y hy, e]) (thn (hi.run pins s σ H _ I h) fun xv s1 hx => thn hx fun itv s2 ⟨it, fp, tn, J, H2, e, I2, T, st2, f2, q⟩ => ?_)
  subst e
  refine wpAny_newObj_type (newEnv_comp ?_) (by show 0 ≤ sizeLine; decide)
  obtain ⟨D, hD⟩ : ∃ D, s2.heap.objs.size = D := ⟨_, rfl⟩
  rw [hD]
  have hDn : H2 D = none := I2.hok.fresh (Nat.le_of_eq hD)
  obtain ⟨V, ⟨m0, w0⟩, turn⟩ := q D hDn
  obtain ⟨s3, hs3⟩ : ∃ s3 : Shared, s3 = { s2 with heap := s2.heap.push { cls := .type "list", data := .seq ([] : List Value).toArray } } := ⟨_, rfl⟩
  have I3 : Inv X pins σ (upd H2 D (.lst [])) s3 := by
    rw [hs3]
    exact I2.laid (t' := s2.toks) (fun b o e => Heap.get?_push_of_some _ e) (Nat.le_of_eq hD) ⟨Nat.zero_le _, [], 0, .nil, by rw [← hD]; exact Heap.get?_push_size _ rfl⟩
  have gr3 : ∀ b o, s2.heap.get? b = some o → s3.heap.get? b = some o := fun b o e => by rw [hs3]; exact Heap.get?_push_of_some _ e
  have f3 : ∀ b ∈ fp, FpOk X pins (upd H2 D (.lst [])) b ∧ b < s3.heap.objs.size := fun b hb => by
    obtain ⟨o, e, _⟩ := T.obj _ _ st2 b hb
    refine ⟨⟨(upd_ne (by rw [← hD]; exact Nat.ne_of_lt (Heap.lt_size e))).trans (f2 b hb).1, (f2 b hb).2⟩, Heap.lt_size (gr3 b o e)⟩
  obtain ⟨cl, hcl⟩ : ∃ cl, cl = cellsFrom (s3.heap.objs.size + 1) scope.names (cloFrom X.env.cells scope.names []) := ⟨_, rfl⟩
  obtain ⟨ce, hce⟩ : ∃ ce, ce = compEnvC scope cl s3.heap.objs.size X.env := ⟨_, rfl⟩
  obtain ⟨H3, hH3⟩ : ∃ H3, H3 = upd H2 D (.lst []) := ⟨_, rfl⟩
  obtain ⟨s4, hs4⟩ : ∃ s4 : Shared, s4 = { s3 with heap := pushCells (s3.heap.push { cls := .type "dict", data := .dict #[] }) scope.names } := ⟨_, rfl⟩
  have gr4 : ∀ b o, s3.heap.get? b = some o → s4.heap.get? b = some o := fun b o e => by rw [hs4]; exact pushCells_keeps _ _ _ _ (Heap.get?_push_of_some _ e)
  have P3 := I3.pin p (List.mem_append_left _ hpm)
  have cL : ce.locals = s3.heap.objs.size := by rw [hce]; rfl
  have I4 : Inv (blkH X s3 H3 scope ce fp p) [] (L2.wipe σ (own.map (·.2))) H3 s4 := by
    rw [hs4, hH3, hce, hcl]
    refine blkH_inv (block_start I3 ok hN f3) ⟨pushCells_keeps _ _ _ _ (Heap.get?_push_of_some _ P3.1), P3.2.1, Nat.ne_of_lt (Heap.lt_size P3.1), fun z => (List.mem_cons.mp (I3.stkSub p.1 z)).elim P3.2.2.1 P3.2.2.2.1, P3.2.2.2.2⟩
  have hotB : L2H.HotC (blkH X s3 H3 scope ce fp p) := ⟨p, hp1, List.mem_singleton.mpr rfl⟩
  have pg := hg s3 H3 s3.heap.objs.size cl fp p hp1
  have pt := ht s3 H3 s3.heap.objs.size cl fp p hp1
  have pe := he s3 H3 s3.heap.objs.size cl fp p hp1
  rw [← hce] at pg pt pe
  have st4 : tn 0 s4.heap := T.keep _ _ _ st2 fun b _ o e => gr4 b o (gr3 b o e)
  rw [← hH3] at w0 f3 I3
  have pinNe : ∀ b ∈ fp, ∀ q ∈ ([p] : List (Addr × Obj)) ++ [], q.1 ≠ b := fun b hb q hq => by
    have e : q = p := by simpa using hq
    rw [e]
    exact (f3 b hb).1.2.2.2.2.2 p (List.mem_append_left _ hpm)
  have stat : ∀ {σ' : L2.St} {H' : Hp} {s' : Shared}, Inv (blkH X s3 H3 scope ce fp p) [] σ' H' s' → (∀ b ∈ fp, H' b = none) → ∀ b ∈ fp, FpOk (blkH X s3 H3 scope ce fp p) [] H' b := fun {σ' H' s'} J hn b hb =>
    ⟨hn b hb, (J.ok.exf b hb).1, J.ok.exfs b hb, .inl hb, fun x c e => (J.ok.exf b hb).2 x c e, pinNe b hb⟩
  have goal : codeAny (model X.prog X.w) X.A (.compLoop (.ListComp elt [⟨tg, iter, ifs, 0⟩] scope pos) 0 (.ref it) (.ref D) ce) (compPost (model X.prog X.w) X.A X.xe use Qf (.ref D) s3.heap.objs.size) s4 := by
    refine compLoop_any (fun n s' => ∃ i H', Inv (blkH X s3 H3 scope ce fp p) [] (L2.wipe σ (own.map (·.2))) H' s' ∧ tn i s'.heap ∧ (∀ b ∈ fp, H' b = none) ∧ V i n H') (fun n s5 ⟨i, H5, I5, st5, n5, w5⟩ => ?_) m0 ⟨0, H3, I4, st4, fun b hb => (f3 b hb).1.1, w0⟩
    rcases turn i n H5 w5 with ⟨stop, qq⟩ | ⟨go, Nx, hNx, step⟩
    · refine thnF (T.done (blkH X s3 H3 scope ce fp p) rfl rfl rfl hotB i [] s5 _ H5 (fun _ _ => False) I5 (stat I5 n5) st5 stop) fun r s6 ⟨hr, I6⟩ => ?_
      subst hr
      have I7 : Inv X pins σ H5 s6 := I3.call' (ch := fp) I6.os I6.base I6.hok I6.bare fun b hb => let z := (f3 b hb).1.2; ⟨z.2.2.1, z.1, z.2.2.2.1, z.2.2.2.2⟩
      have nC : H5 ce.locals = none := I6.free
      obtain ⟨m, hn, _⟩ := I6.loc
      have hn : s6.heap.Ns ce.locals m := hn
      rw [cL] at hn nC
      exact fin D s3.heap.objs.size s6 m H5 I7 qq hn (I3.fpOk (Nat.le_refl _) nC)
    · refine thnF (T.item (blkH X s3 H3 scope ce fp p) rfl rfl rfl hotB i [] s5 _ H5 (fun _ _ => False) I5 (stat I5 n5) st5 go) fun r s6 ⟨u, hr, h6⟩ => ?_
      subst hr
      refine thnF h6 fun _ s7 ⟨x, H7, I7, r7, y7, st7, n7⟩ => ?_
      refine thnF (pg.run _ s7 _ H7 x u _ (I7.pinned (stat I7 n7) (T.obj _ _ st7)) r7 (step x H7 y7)) fun _ s8 ⟨σ8, H8, I8, hw8, q8⟩ => ?_
      have last : ∀ {s' : Shared} {H' : Hp}, Inv (blkH X s3 H3 scope ce fp p) ([] ++ pinsAt fp s7.heap) σ8 H' s' → Nx H' → ∃ m, m < n ∧ ∃ i H', Inv (blkH X s3 H3 scope ce fp p) [] (L2.wipe σ (own.map (·.2))) H' s' ∧ tn i s'.heap ∧ (∀ b ∈ fp, H' b = none) ∧ V i m H' := fun {s' H'} J nx => by
        obtain ⟨m', hm, w'⟩ := hNx H' nx
        have at_ : ∀ b ∈ fp, ∀ o, s7.heap.get? b = some o → s'.heap.get? b = some o ∧ H' b = none := fun b hb o e => let z := J.pin (b, o) (List.mem_append_right _ (List.mem_append_right _ (mem_pinsAt hb e))); ⟨z.1, z.2.1⟩
        refine ⟨m', hm, i + 1, H', (J.unpinned (pins := [])).weak (by rw [← hw8, L2.wipe_length]) (fun j v e => by rw [← hw8] at e; exact (L2.wipe_some e).1), T.keep _ _ _ st7 fun b hb o e => (at_ b hb o e).1, fun b hb => ?_, w'⟩
        obtain ⟨o, e, _⟩ := T.obj _ _ st7 b hb
        exact (at_ b hb o e).2
      refine thnF (pt.run _ s8 σ8 H8 _ I8 q8) fun b s9 ⟨H9, I9, q9⟩ => ?_
      cases b with
      | false => rw [if_neg Bool.false_ne_true] at q9 ⊢; exact last I9 q9
      | true =>
        rw [if_pos rfl] at q9 ⊢
        refine thnF (pe.run _ s9 σ8 H9 _ I9 q9) fun z s10 ⟨yv, H10, I10, r10, acc, hD10, hz10, nx⟩ => ?_
        exact app_ok (X := blkH X s3 H3 scope ce fp p) I10 hD10 hz10 r10 fun s11 I11 => last I11 nx
  rw [← hs3, ← hs4, ← hcl]
  show codeAny _ _ (.compStart (.ListComp elt [⟨tg, iter, ifs, 0⟩] scope pos) 0 (.ref it) (.ref D) (compEnvC scope cl s3.heap.objs.size X.env)) (compPost (model X.prog X.w) X.A X.xe use Qf (.ref D) s3.heap.objs.size) s4
  rw [← hce]
  exact codeAny_compStart_list goal (T.self X.A 0 _ _ _ st4 goal)
theorem pe_lcH {elt tg iter : Expr} {ifs : List Expr} {scope : Scope} {own : List (Str × Nat)} {wi : TI} {g : TG} {tt : TT} {te : TE} (hot : L2H.HotC X) (hN : X.N.Nodup) (hi : L2H.PIH X tg iter wi) (ok : BlkOk X.N X.env.scope scope own)
    (hg : ∀ (s : Shared) (H : Hp) (C : Addr) (cl : List (Str × Addr)) (fp : List Addr) (p : Addr × Obj), L2H.Hot1 X.A p → PG (blkH X s H scope (compEnvC scope cl C X.env) fp p) tg g)
    (ht : ∀ (s : Shared) (H : Hp) (C : Addr) (cl : List (Str × Addr)) (fp : List Addr) (p : Addr × Obj), L2H.Hot1 X.A p → PTs (blkH X s H scope (compEnvC scope cl C X.env) fp p) ifs tt)
    (he : ∀ (s : Shared) (H : Hp) (C : Addr) (cl : List (Str × Addr)) (fp : List Addr) (p : Addr × Obj), L2H.Hot1 X.A p → PE (blkH X s H scope (compEnvC scope cl C X.env) fp p) elt te)
    (hs : ∀ x, foldedSetIterable iter X.env x = pure x) : PE X (.ListComp elt [⟨tg, iter, ifs, 0⟩] scope pos) (tLc wi g tt te (own.map (·.2))) := by
  refine ⟨fun pins s σ H Q I h => ?_⟩
  rw [eval_ListComp]
  exact lcH I hot hN hi ok hg ht he hs h fun D C s' m H' J q hn ⟨f0, f1, f2, f3, f4, f5⟩ => ⟨m, hn, fun h'' sb => ⟨.ref D, H', J.turned (t' := s'.toks) (fun b o hb e => (sb.2 b hb).trans e) f0 f1 f3 f4 f5, rfl, q⟩⟩
theorem ps_setLcH {i : Nat} {y : Str} {py spos : Pos} {elt tg iter : Expr} {ifs : List Expr} {scope : Scope} {own : List (Str × Nat)} {wi : TI} {g : TG} {tt : TT} {te : TE} (hy : X.N[i]? = some y) (hyl : X.env.scope.names.lookup y = some .local) (hsw : swapsWith (.ListComp elt [⟨tg, iter, ifs, 0⟩] scope pos) (some (.Name y py)) spos.line X.env = pure true)
    (hot : L2H.HotC X) (hN : X.N.Nodup) (hi : L2H.PIH X tg iter wi) (ok : BlkOk X.N X.env.scope scope own)
    (hg : ∀ (s : Shared) (H : Hp) (C : Addr) (cl : List (Str × Addr)) (fp : List Addr) (p : Addr × Obj), L2H.Hot1 X.A p → PG (blkH X s H scope (compEnvC scope cl C X.env) fp p) tg g)
    (ht : ∀ (s : Shared) (H : Hp) (C : Addr) (cl : List (Str × Addr)) (fp : List Addr) (p : Addr × Obj), L2H.Hot1 X.A p → PTs (blkH X s H scope (compEnvC scope cl C X.env) fp p) ifs tt)
    (he : ∀ (s : Shared) (H : Hp) (C : Addr) (cl : List (Str × Addr)) (fp : List Addr) (p : Addr × Obj), L2H.Hot1 X.A p → PE (blkH X s H scope (compEnvC scope cl C X.env) fp p) elt te)
    (hs : ∀ x, foldedSetIterable iter X.env x = pure x) : PS X (.Assign [.Name y py] (.ListComp elt [⟨tg, iter, ifs, 0⟩] scope pos) spos) (tAsg (tLc wi g tt te (own.map (·.2))) (gName i)) := by
  refine ⟨fun pins s σ H D I h => ?_⟩
  rw [exec_Assign_Name_used _ _ _ _ hsw]
  refine wpAny_bind (wpAny_standAt (wpAny_bind (wpAny_bind (thn (lcH (Q := fun x H1 => gName i x σ H1 D.nx) (use := some (assign (.Name y py) X.env)) (Qf := fun _ s' => SP X pins D .next s') I hot hN hi ok hg ht he hs h fun L C s' m H' J q hn ⟨f0, f1, f2, f3, f4, f5⟩ => ?_) fun _ s' hq => wpAny_pure (wpAny_pure hq)))))
  show wpAny _ _ (assign (.Name y py) X.env (.ref L)) _ _ _
  refine wpAny_assign_Name (store_ok2 (v := V.ref L) J hN hy (.inl hyl) rfl (fun s2 I2 ⟨a, sb, ha⟩ => ?_) (.inr hyl))
  have ne : C ≠ a := ha.elim (fun z => by rw [z]; exact f1) fun z e => f4 y a z e.symm
  exact ⟨m, hn.sameBut sb ne, fun h3 sb3 => ⟨_, H', I2.turned (t' := s2.toks) (fun b o hb e => (sb3.2 b hb).trans e) f0 f1 f3 f4 f5, q⟩⟩
/-- range under a handled exception, as the evaluator walks it -/
theorem _root_.L2H.PIH.imp {tg iter : Expr} {t t' : TI} (h : L2H.PIH X tg iter t) (q : ∀ τ H Q, t' τ H Q → t τ H Q) : L2H.PIH X tg iter t' := ⟨fun pins s σ H R I w => h.run pins s σ H R I (q _ _ _ w)⟩
theorem ii_rngH {tg a : Expr} {p : Pos} {ma : Sg → Hq → R Val} (hg : Gl X "range") (hm : X.mg "range" = none) (ha : PE X a (tE G W ma)) (hs : starEach [a] X.env = [(false, eval a X.env)]) :
    L2H.PIH X tg (.Call (.Name "range" p) [a] [] pos) (tI G W fun σ h => (ma σ h).bind fun x h1 => match intV x with | some i => if okRng i then .ok (.data (rangeL 0 i.toNat)) h1 else .no | none => .no) := by
  have hst' : starEach [a] X.env = (false, eval a X.env) :: starEach [] X.env := by rw [hs]; rfl
  refine (L2H.pi_range1H hg hm (pa_cons ha pa_nil hst') hs).imp fun τ H Q ⟨Av, s, σ, hH, rp, sr, po⟩ => ?_
  subst hH
  refine tE_bind rp sr po fun v y s1 rp1 st1 sr1 q1 p1 => ?_
  split at p1
  · rename_i i e
    cases intV_ok q1 e
    split at p1
    · exact let h := okRng_c (by assumption); ⟨i, rfl, h.1, h.2, p1.fin rp1 src_rng⟩
    · exact p1.elim
  · exact p1.elim
end
end Ip

set_option linter.all false
set_option Elab.async false
set_option autoImplicit false
/-! Calls of the text's own defs. -/
namespace Ip
open PySem L2

/-! ### a call, by what the callee promises -/
section
variable {G : Gb} {E : XK}
/-- a def's promise: what the evaluator says of its body -/
def spFn (G : Gb) (W : Nat) (C : List Orc) (fn : Fn) : Sp := fun vs H Q E => ∃ (Av : Addr → Prop) (s : S3) (args : List Val), s.H = H ∧ RepH G Av s ∧ VRs G Av s args vs ∧ args.length = fn.ps ∧
  Post G E Av s (fun v y s' => VR G Av s' v y) (run W C fn args s.h) Q

mutual
theorem flat_dr {K : PySem.W.Frag} {H : Hp} {B B' : Addr → Prop} : ∀ {v : V} {d : D}, DR K H B v d → flat d = true → DR K H B' v d
  | _, _, .non, _ => .non
  | _, _, .bl b, _ => .bl b
  | _, _, .int i, _ => .int i
  | _, _, .str x, _ => .str x
  | _, _, .lst _ _, e => by simp [flat] at e
  | _, _, .tup h t, e => .tup h (flats_dr t (by simpa [flat] using e))
theorem flats_dr {K : PySem.W.Frag} {H : Hp} {B B' : Addr → Prop} : ∀ {vs : List V} {ds : List D}, DRs K H B vs ds → flatAll ds = true → DRs K H B' vs ds
  | _, _, .nil, _ => .nil
  | _, _, .cons h t, e => by
    simp only [flatAll, Bool.and_eq_true] at e
    exact .cons (flat_dr h e.1) (flats_dr t e.2)
end
theorem allDat_map : ∀ {vs : List Val}, allDat vs = true → ∃ ds : List D, vs = ds.map .d
  | [], _ => ⟨[], rfl⟩
  | .d x :: vs, e => by
    obtain ⟨ds, h⟩ := allDat_map (vs := vs) e
    exact ⟨x :: ds, by rw [h]; rfl⟩
  | .ref _ :: _, e => by cases e
  | .fn _ :: _, e => by cases e
theorem pks_map (h : Hq) : ∀ ds : List D, pks h 3 (ds.map .d) = some ds
  | [] => rfl
  | d :: ds => by
    show (match pk h 3 (.d d), allO (pk h 3) (ds.map .d) with | some x, some xs => some (x :: xs) | _, _ => none) = _
    rw [show allO (pk h 3) (ds.map .d) = some ds from pks_map h ds]
    rfl
/-- the state of a run of its own: nothing of its own yet -/
theorem rep_nil {Av : Addr → Prop} {H : Hp} (h : ∀ a, Av a → H a ≠ none) (ht : LamX.Tabs G.tb H) : RepH G Av ⟨[], [], H⟩ :=
  ⟨rfl, List.nodup_nil, fun n a o e => (by cases e), h, fun a _ => (by simp), fun a h => (by cases h), ht⟩
theorem bad_nil {Av : Addr → Prop} {H : Hp} {a : Addr} : Bad Av ⟨[], [], H⟩ a ↔ Av a := by
  constructor
  · rintro (h | ⟨n, h, _⟩)
    · exact h
    · cases h
  · exact .inl
/-- all that stood stands: our state behind a run of its own -/
theorem rep_after {Av : Addr → Prop} {s : S3} {r2 : List Addr} {h2 : Hq} {H2 : Hp} (rp : RepH G Av s) (st : Stp ⟨[], [], s.H⟩ ⟨r2, h2, H2⟩) (ht : LamX.Tabs G.tb H2) : RepH G Av ⟨s.r, s.h, H2⟩ ∧ Stp s ⟨s.r, s.h, H2⟩ := by
  have nl : ∀ a, ¬ ∃ n, ([] : List Addr)[n]? = some a ∧ live ([] : Hq) n := fun a ⟨n, z, _⟩ => by cases z
  refine rp.grow ⟨fun a o h _ nt => st.fr.keep a o h (nl a) nt, st.fr.there, st.fr.tup, st.fr.frz⟩ (fun n a e l => ?_) ht
  obtain ⟨u, hx, n1, _, _⟩ := rp.at_live e l
  rw [hx]
  exact st.fr.keep a _ hx (nl a) n1

theorem call_pure {W : Nat} {C : List Orc} {fn : Fn} {Av : Addr → Prop} {s : S3} {ys : List V} {ds : List D} {Q : VK} (rp : RepH G Av s) (q : DRs G.K s.H (Bad Av s) ys ds) (hl : ds.length = fn.ps)
    (p : Post G E Av s (fun v y s' => VR G Av s' v y) (match run W C fn (ds.map .d) [] with
      | .ok v h1 => match toD v h1 with
        | .ok x _ => .ok (.d x) s.h
        | _ => .no
      | .er e _ => .er e s.h
      | .no => .no) Q) : spFn G W C fn ys s.H Q E := by
  have r0 : RepH G (Bad Av s) ⟨[], [], s.H⟩ := rep_nil (fun a h => rp.bad_some h) rp.tabs
  refine ⟨Bad Av s, ⟨[], [], s.H⟩, ds.map .d, rfl, r0, VRs.of_data (q.sub fun a z => bad_nil.mp z), by rw [List.length_map]; exact hl, ?_⟩
  revert p
  cases run W C fn (ds.map .d) [] with
  | no => exact fun p => p
  | er e h1 =>
    intro p s2 c dx e2 rp2 st2 xr
    obtain ⟨r2, h2, H2⟩ := s2
    obtain ⟨rp3, st3⟩ := rep_after rp st2 rp2.tabs
    exact p ⟨s.r, s.h, H2⟩ c dx rfl rp3 st3 xr
  | ok v h1 =>
    intro p s2 y e2 rp2 st2 qv
    obtain ⟨r2, h2, H2⟩ := s2
    obtain ⟨rp3, st3⟩ := rep_after rp st2 rp2.tabs
    have e2 : h2 = h1 := e2
    subst e2
    have p : Post G E Av s (fun v y s' => VR G Av s' v y) (match toD v h2 with
        | .ok x _ => .ok (.d x) s.h
        | _ => .no) Q := p
    cases e3 : toD v h2 with
    | er x h => exact absurd e3 (toD_no_er _ _ _ _)
    | no => rw [e3] at p; exact p.elim
    | ok x h3 =>
      rw [e3] at p
      obtain ⟨rp4, st4, d4⟩ := toD_ok rp2 qv e3
      refine p ⟨s.r, s.h, H2⟩ y rfl rp3 st3 (.d (d4.sub fun a z => ?_))
      exact .inl z
theorem call_flat {W : Nat} {C : List Orc} {fn : Fn} {Av : Addr → Prop} {s : S3} {ys : List V} {ds : List D} {Q : VK} (rp : RepH G Av s) (q : DRs G.K s.H NoB ys ds) (hl : ds.length = fn.ps)
    (p : Post G E Av s (fun v y s' => VR G Av s' v y) (match run W C fn (ds.map .d) [] with
      | .ok v h1 => match toD v h1 with
        | .ok x _ => if flat x then .ok (.d x) s.h else .no
        | _ => .no
      | .er e _ => .er e s.h
      | .no => .no) Q) : spFn G W C fn ys s.H Q E := by
  have r0 : RepH G NoB ⟨[], [], s.H⟩ := rep_nil (fun a h => h.elim) rp.tabs
  refine ⟨NoB, ⟨[], [], s.H⟩, ds.map .d, rfl, r0, VRs.of_data (q.sub fun a z => bad_nil.mp z), by rw [List.length_map]; exact hl, ?_⟩
  revert p
  cases run W C fn (ds.map .d) [] with
  | no => exact fun p => p
  | er e h1 =>
    intro p s2 c dx e2 rp2 st2 xr
    obtain ⟨r2, h2, H2⟩ := s2
    obtain ⟨rp3, st3⟩ := rep_after rp st2 rp2.tabs
    exact p ⟨s.r, s.h, H2⟩ c dx rfl rp3 st3 xr
  | ok v h1 =>
    intro p s2 y e2 rp2 st2 qv
    obtain ⟨r2, h2, H2⟩ := s2
    obtain ⟨rp3, st3⟩ := rep_after rp st2 rp2.tabs
    have e2 : h2 = h1 := e2
    subst e2
    have p : Post G E Av s (fun v y s' => VR G Av s' v y) (match toD v h2 with
        | .ok x _ => if flat x then .ok (.d x) s.h else .no
        | _ => .no) Q := p
    cases e3 : toD v h2 with
    | er x h => exact absurd e3 (toD_no_er _ _ _ _)
    | no => rw [e3] at p; exact p.elim
    | ok x h3 =>
      rw [e3] at p
      have p : Post G E Av s (fun v y s' => VR G Av s' v y) (if flat x then .ok (.d x) s.h else .no) Q := p
      by_cases hf : flat x = true
      · rw [if_pos hf] at p
        obtain ⟨rp4, st4, d4⟩ := toD_ok rp2 qv e3
        exact p ⟨s.r, s.h, H2⟩ y rfl rp3 st3 (.d (flat_dr d4 hf))
      · rw [if_neg hf] at p; exact p.elim

/-! ### a call over this run's objects -/
theorem vr_cut {Av : Addr → Prop} {s s3 : S3} (hH : s3.H = s.H) (hr : s3.r <+: s.r) (hb : ∀ a, ¬ Bad Av s a → ¬ Bad Av s3 a) {v : Val} {y : V} (q : VR G Av s v y) (hv : below s3.r.length v = true) : VR G Av s3 v y := by
  cases q with
  | d q => exact .d (by rw [hH]; exact q.weak fun a _ h => hb a h)
  | fn q => exact .fn q
  | @ref n a q =>
    have hn : n < s3.r.length := by simpa [below] using hv
    have e : s3.r[n]? = some (s3.r[n]) := List.getElem?_eq_getElem hn
    have e' := pre_get hr e
    rw [q] at e'
    exact .ref (by rw [e, Option.some.inj e'])
theorem vrs_cut {Av : Addr → Prop} {s s3 : S3} (hH : s3.H = s.H) (hr : s3.r <+: s.r) (hb : ∀ a, ¬ Bad Av s a → ¬ Bad Av s3 a) : ∀ {vs : List Val} {ys : List V}, VRs G Av s vs ys → vs.all (below s3.r.length) = true → VRs G Av s3 vs ys
  | _, _, .nil, _ => .nil
  | _, _, .cons q t, h => by
    simp only [List.all_cons, Bool.and_eq_true] at h
    exact .cons (vr_cut hH hr hb q h.1) (vrs_cut hH hr hb t h.2)
theorem closed_at {n : Nat} : ∀ {h : Hq} {i : Nat} {vs : List Val}, closed n h = true → h[i]? = some (.lst vs) → vs.all (below n) = true
  | [], _, _, _, e => by simp at e
  | .lst ws :: r, 0, vs, c, e => by
    have e : some (IO.lst ws) = some (IO.lst vs) := e
    cases e
    simp only [closed, Bool.and_eq_true] at c
    exact c.1
  | .lst ws :: r, i + 1, vs, c, e => by
    simp only [closed, Bool.and_eq_true] at c
    exact closed_at (h := r) (i := i) c.2 e
  | .dead x :: r, 0, vs, c, e => by
    have e : some (IO.dead x) = some (IO.lst vs) := e
    cases e
  | .dead x :: r, i + 1, vs, c, e => closed_at (h := r) (i := i) (by simpa [closed] using c) e
  | .tx x :: r, 0, vs, c, e => by
    have e : some (IO.tx x) = some (IO.lst vs) := e
    cases e
  | .tx x :: r, i + 1, vs, c, e => closed_at (h := r) (i := i) (by simpa [closed] using c) e
  | .dct c0 :: r, 0, vs, c, e => by
    have e : some (IO.dct c0) = some (IO.lst vs) := e
    cases e
  | .dct (.k kvs) :: r, i + 1, vs, c, e => closed_at (h := r) (i := i) (by simp only [closed, Bool.and_eq_true] at c; exact c.2) e
  | .dct (.t kvs) :: r, i + 1, vs, c, e => closed_at (h := r) (i := i) (by simp only [closed, Bool.and_eq_true] at c; exact c.2) e
/-- no pair leads out -/
def Dc.under (n : Nat) : Dc → Bool
  | .k kvs => kvs.all fun p => below n p.2
  | .t kvs => kvs.all fun p => below n p.2
theorem closed_dct {n : Nat} : ∀ {h : Hq} {i : Nat} {c : Dc}, closed n h = true → h[i]? = some (.dct c) → c.under n = true
  | [], _, _, _, e => by simp at e
  | .lst ws :: r, 0, vs, c, e => by
    have e : some (IO.lst ws) = some (IO.dct vs) := e
    cases e
  | .lst ws :: r, i + 1, vs, c, e => closed_dct (h := r) (i := i) (by simp only [closed, Bool.and_eq_true] at c; exact c.2) e
  | .dead x :: r, 0, vs, c, e => by
    have e : some (IO.dead x) = some (IO.dct vs) := e
    cases e
  | .dead x :: r, i + 1, vs, c, e => closed_dct (h := r) (i := i) (by simpa [closed] using c) e
  | .tx x :: r, 0, vs, c, e => by
    have e : some (IO.tx x) = some (IO.dct vs) := e
    cases e
  | .tx x :: r, i + 1, vs, c, e => closed_dct (h := r) (i := i) (by simpa [closed] using c) e
  | .dct (.k kvs) :: r, 0, vs, c, e => by
    have e : some (IO.dct (.k kvs)) = some (IO.dct vs) := e
    cases e
    simp only [closed, Bool.and_eq_true] at c
    exact c.1
  | .dct (.t kvs) :: r, 0, vs, c, e => by
    have e : some (IO.dct (.t kvs)) = some (IO.dct vs) := e
    cases e
    simp only [closed, Bool.and_eq_true] at c
    exact c.1
  | .dct (.k kvs) :: r, i + 1, vs, c, e => closed_dct (h := r) (i := i) (by simp only [closed, Bool.and_eq_true] at c; exact c.2) e
  | .dct (.t kvs) :: r, i + 1, vs, c, e => closed_dct (h := r) (i := i) (by simp only [closed, Bool.and_eq_true] at c; exact c.2) e
theorem kvt_cut {Av : Addr → Prop} {s s3 : S3} (hH : s3.H = s.H) (hr : s3.r <+: s.r) (hb : ∀ a, ¬ Bad Av s a → ¬ Bad Av s3 a) : ∀ {l : List (List Key × Val)} {m : List (List Key × Addr × V)}, KVt G Av s l m → (l.all fun p => below s3.r.length p.2) = true → KVt G Av s3 l m
  | _, _, .nil, _ => .nil
  | _, _, .cons z q t, h => by
    simp only [List.all_cons, Bool.and_eq_true] at h
    exact .cons (by rw [hH]; exact z) (vr_cut hH hr hb q h.1) (kvt_cut hH hr hb t h.2)
theorem kvs_cut {κ : Type} {Av : Addr → Prop} {s s3 : S3} (hH : s3.H = s.H) (hr : s3.r <+: s.r) (hb : ∀ a, ¬ Bad Av s a → ¬ Bad Av s3 a) : ∀ {l : List (κ × Val)} {m : List (κ × V)}, KVs G Av s l m → (l.all fun p => below s3.r.length p.2) = true → KVs G Av s3 l m
  | _, _, .nil, _ => .nil
  | _, _, .cons q t, h => by
    simp only [List.all_cons, Bool.and_eq_true] at h
    exact .cons (vr_cut hH hr hb q h.1) (kvs_cut hH hr hb t h.2)
/-- back to the objects that stood -/
theorem cut_ok {Av : Addr → Prop} {s s2 : S3} (rp : RepH G Av s) (rp2 : RepH G Av s2) (st : Stp s s2) (hc : closed s.h.length (s2.h.take s.h.length) = true) :
    RepH G Av ⟨s.r, s2.h.take s.h.length, s2.H⟩ ∧ Stp s ⟨s.r, s2.h.take s.h.length, s2.H⟩ ∧ ∀ a, ¬ Bad Av s2 a → ¬ Bad Av ⟨s.r, s2.h.take s.h.length, s2.H⟩ a := by
  have hlen : s.h.length ≤ s2.h.length := by rw [← rp.len, ← rp2.len]; exact st.pre.length_le
  have tk : ∀ {n : Nat} {o : IO}, (s2.h.take s.h.length)[n]? = some o → s2.h[n]? = some o := fun {n o} e => by
    rw [List.getElem?_take] at e
    split at e
    · exact e
    · cases e
  have hb : ∀ a, ¬ Bad Av s2 a → ¬ Bad Av ⟨s.r, s2.h.take s.h.length, s2.H⟩ a := fun a h h3 => by
    rcases h3 with z | ⟨n, z, vs, l, ha⟩
    · exact h (.inl z)
    · exact h (.inr ⟨n, pre_get st.pre z, vs, tk l, ha⟩)
  have hl3 : s.r.length = (s2.h.take s.h.length).length := by rw [List.length_take, rp.len]; omega
  refine ⟨⟨hl3, rp.nd, fun n a o e l => ?_, fun a h => st.fr.there a (rp.av a h), rp.dis, fun a h => st.fr.there a (rp.trk a h), rp2.tabs⟩, ⟨List.prefix_refl _, fun n hn ⟨vs, l, ha⟩ => st.liv n hn ⟨vs, tk l, ha⟩, st.fr, fun a h => .inl h⟩, hb⟩
  have q := rp2.obj n a o (pre_get st.pre e) (tk l)
  cases o with
  | lst vs =>
    obtain ⟨xs, h1, h2⟩ := q
    exact ⟨xs, h1, vrs_cut (s := s2) (s3 := ⟨s.r, s2.h.take s.h.length, s2.H⟩) rfl st.pre hb h2 (by show vs.all (below s.r.length) = true; rw [rp.len]; exact closed_at hc l)⟩
  | dead x => exact DR.weak (fun a _ h => hb a h) q
  | dct c =>
    obtain ⟨ob, h1, h2⟩ := q
    have hu := closed_dct hc l
    have len : s.h.length = s.r.length := rp.len.symm
    refine ⟨ob, h1, ?_⟩
    cases h2 with
    | k h2 => exact .k (kvs_cut (s := s2) (s3 := ⟨s.r, s2.h.take s.h.length, s2.H⟩) rfl st.pre hb h2 (by rw [len] at hu; exact hu))
    | t h2 => exact .t (kvt_cut (s := s2) (s3 := ⟨s.r, s2.h.take s.h.length, s2.H⟩) rfl st.pre hb h2 (by rw [len] at hu; exact hu))
  | tx ds =>
    obtain ⟨ob, us, h1, h2, h3⟩ := q
    exact ⟨ob, us, h1, h2, DRs.weak (fun a _ h => hb a h) h3⟩
theorem call_shared {W : Nat} {C : List Orc} {fn : Fn} {Av : Addr → Prop} {s : S3} {args : List Val} {ys : List V} {Q : VK} (rp : RepH G Av s) (q : VRs G Av s args ys) (hl : args.length = fn.ps)
    (p : Post G E Av s (fun v y s' => VR G Av s' v y) (match run W C fn args s.h with
      | .ok v h1 => match toD v h1 with
        | .ok x h2 => if closed s.h.length (h2.take s.h.length) then .ok (.d x) (h2.take s.h.length) else .no
        | _ => .no
      | .er e h1 => if closed s.h.length (h1.take s.h.length) then .er e (h1.take s.h.length) else .no
      | .no => .no) Q) : spFn G W C fn ys s.H Q E := by
  refine ⟨Av, s, args, rfl, rp, q, hl, ?_⟩
  revert p
  cases run W C fn args s.h with
  | no => exact fun p => p
  | er e h1 =>
    intro p s2 c dx e2 rp2 st2 xr
    subst e2
    have p : Post G E Av s (fun v y s' => VR G Av s' v y) (if closed s.h.length (s2.h.take s.h.length) then .er e (s2.h.take s.h.length) else .no) Q := p
    by_cases hc : closed s.h.length (s2.h.take s.h.length) = true
    · rw [if_pos hc] at p
      obtain ⟨r3, t3, _⟩ := cut_ok rp rp2 st2 hc
      exact p ⟨s.r, s2.h.take s.h.length, s2.H⟩ c dx rfl r3 t3 xr
    · rw [if_neg hc] at p; exact p.elim
  | ok v h1 =>
    intro p s2 y e2 rp2 st2 qv
    subst e2
    have p : Post G E Av s (fun v y s' => VR G Av s' v y) (match toD v s2.h with
        | .ok x h2 => if closed s.h.length (h2.take s.h.length) then .ok (.d x) (h2.take s.h.length) else .no
        | _ => .no) Q := p
    cases e3 : toD v s2.h with
    | er x h => exact absurd e3 (toD_no_er _ _ _ _)
    | no => rw [e3] at p; exact p.elim
    | ok x h3 =>
      rw [e3] at p
      obtain ⟨rp4, st4, d4⟩ := toD_ok rp2 qv e3
      have st5 := st2.trans st4 rp2.nd rp2.len
      have p : Post G E Av s (fun v y s' => VR G Av s' v y) (if closed s.h.length (h3.take s.h.length) then .ok (.d x) (h3.take s.h.length) else .no) Q := p
      by_cases hc : closed s.h.length (h3.take s.h.length) = true
      · rw [if_pos hc] at p
        obtain ⟨r6, t6, b6⟩ := cut_ok (s2 := ⟨s2.r, h3, s2.H⟩) rp rp4 st5 hc
        exact p ⟨s.r, h3.take s.h.length, s2.H⟩ y rfl r6 t6 (.d (d4.weak fun a _ h => b6 a h))
      · rw [if_neg hc] at p; exact p.elim

/-- THE CALL: what the evaluator's call brings about, by the def's promise -/
theorem call_ok {W : Nat} {C : List Orc} {fn : Fn} {Av : Addr → Prop} {s : S3} {args : List Val} {ys : List V} {Q : VK} (rp : RepH G Av s) (q : VRs G Av s args ys)
    (p : Post G E Av s (fun v y s' => VR G Av s' v y) (callR W C fn args s.h) Q) : spFn G W C fn ys s.H Q E := by
  unfold callR at p
  by_cases hl : args.length = fn.ps
  case neg => rw [if_neg hl] at p; exact p.elim
  rw [if_pos hl] at p
  by_cases hp : fn.pure = true
  case neg =>
    rw [if_neg hp] at p
    exact call_shared rp q hl p
  rw [if_pos hp] at p
  cases e : pks s.h 3 args with
  | none => rw [e] at p; exact p.elim
  | some ds =>
    rw [e] at p
    have hlen : ds.length = fn.ps := by
      have := (pks_dr rp q e).length
      have := q.length
      omega
    by_cases ha : allDat args = true
    · obtain ⟨es, rfl⟩ := allDat_map ha
      rw [pks_map] at e
      cases e
      refine call_pure rp q.to_data hlen ?_
      simp only [ha, Bool.or_true, if_true] at p
      exact p
    · refine call_flat rp (pks_dr rp q e) hlen ?_
      simp only [Bool.not_eq_true] at ha
      simp only [ha, Bool.or_false] at p
      exact p
end
end Ip

set_option linter.all false
set_option Elab.async false
set_option autoImplicit false
/-! Statements. -/
namespace Ip
open PySem L2

/-- what a statement's result must bring about -/
def PoS (G : Gb) (W : WX) (Av : Addr → Prop) (s : S3) (r : RF) (D : Ends) : Prop :=
  match r with
  | .ok (.nx σ') h' => ∀ (s' : S3) (τ' : L2.St), s'.h = h' → RepH G Av s' → Stp s s' → SR G Av s' σ' τ' → D.nx τ' s'.H
  | .ok (.bk σ') h' => ∀ (s' : S3) (τ' : L2.St), s'.h = h' → RepH G Av s' → Stp s s' → SR G Av s' σ' τ' → D.bk τ' s'.H
  | .ok (.ct σ') h' => ∀ (s' : S3) (τ' : L2.St), s'.h = h' → RepH G Av s' → Stp s s' → SR G Av s' σ' τ' → D.ct τ' s'.H
  | .ok (.rt v) h' => ∀ (s' : S3) (y : V), s'.h = h' → RepH G Av s' → Stp s s' → VR G Av s' v y → D.rt y s'.H
  | .er e σ' h' => ∀ (s' : S3) (c : Value) (dx : Option Addr) (τ' : L2.St), s'.h = h' → RepH G Av s' → Stp s s' → SR G Av s' σ' τ' → XR G e c dx → W c dx τ' s'.H
  | .no => False
def tS (G : Gb) (W : WX) (m : Sg → Hq → RF) : TS := fun D τ H => ∃ (Av : Addr → Prop) (s : S3) (σ : Sg), s.H = H ∧ RepH G Av s ∧ SR G Av s σ τ ∧ PoS G W Av s (m σ s.h) D
theorem _root_.L2.PS.imp {X : Cx} {e : Stmt} {t t' : TS} (h : PS X e t) (q : ∀ D τ H, t' D τ H → t D τ H) : PS X e t' := ⟨fun pins s σ H D I w => h.run pins s σ H D I (q _ _ _ w)⟩
theorem _root_.L2.PSs.imp {X : Cx} {e : List Stmt} {t t' : TS} (h : PSs X e t) (q : ∀ D τ H, t' D τ H → t D τ H) : PSs X e t' := ⟨fun pins s σ H D I w => h.run pins s σ H D I (q _ _ _ w)⟩

section
variable {X : Cx} {G : Gb} {W : WX} {pos : Pos} {Av : Addr → Prop} {s s1 : S3} {σ : Sg} {τ : L2.St} {D : Ends}
theorem PoS.step {r : RF} (p : PoS G W Av s r D) (t : Stp s s1) (r1 : RepH G Av s1) : PoS G W Av s1 r D := by
  have tr : ∀ {s2 : S3}, Stp s1 s2 → Stp s s2 := fun t2 => t.trans t2 r1.nd r1.len
  cases r with
  | no => exact p
  | er e σ' h => exact fun s2 c dx τ' e2 rp2 t2 => p s2 c dx τ' e2 rp2 (tr t2)
  | ok fl h => cases fl <;> exact fun s2 y e2 rp2 t2 => p s2 y e2 rp2 (tr t2)
/-- an expression ahead -/
theorem PoS.bind {α β : Type} {Rl : α → β → S3 → Prop} {r : R α} {f : α → Hq → RF} (sr : SR G Av s σ τ) (p : PoS G W Av s (r.thn σ f) D) :
    Post G (We W τ) Av s Rl r fun y H1 => ∃ (a : α) (s1 : S3), s1.H = H1 ∧ RepH G Av s1 ∧ Stp s s1 ∧ SR G Av s1 σ τ ∧ Rl a y s1 ∧ PoS G W Av s1 (f a s1.h) D := by
  cases r with
  | no => exact p
  | er e h => exact fun s2 c dx e2 rp2 t2 x => p s2 c dx τ e2 rp2 t2 (t2.sr rp2.nd sr) x
  | ok a h =>
    intro s1 y e rp t q
    subst e
    exact ⟨a, s1, rfl, rp, t, t.sr rp.nd sr, q, PoS.step p t rp⟩
theorem sE_bind {m : Sg → Hq → R Val} {f : Val → Hq → RF} {Q' : VK} (rp : RepH G Av s) (sr : SR G Av s σ τ) (p : PoS G W Av s ((m σ s.h).thn σ f) D)
    (h : ∀ (v : Val) (y : V) (s1 : S3), RepH G Av s1 → Stp s s1 → SR G Av s1 σ τ → VR G Av s1 v y → PoS G W Av s1 (f v s1.h) D → Q' y s1.H) : tE G W m τ s.H Q' := by
  refine ⟨Av, s, σ, rfl, rp, sr, (PoS.bind (Rl := fun v y s' => VR G Av s' v y) sr p).mono ?_⟩
  rintro y H1 ⟨v, s1, rfl, rp1, st, sr1, q, p1⟩
  exact h v y s1 rp1 st sr1 q p1
theorem sT_bind {m : Sg → Hq → R Bool} {f : Bool → Hq → RF} {Q' : Bool → Hp → Prop} (rp : RepH G Av s) (sr : SR G Av s σ τ) (p : PoS G W Av s ((m σ s.h).thn σ f) D)
    (h : ∀ (v : Bool) (s1 : S3), RepH G Av s1 → Stp s s1 → SR G Av s1 σ τ → PoS G W Av s1 (f v s1.h) D → Q' v s1.H) : tT G W m τ s.H Q' := by
  refine ⟨Av, s, σ, rfl, rp, sr, (PoS.bind (Rl := fun v y s' => v = y) sr p).mono ?_⟩
  rintro y H1 ⟨v, s1, rfl, rp1, st, sr1, q, p1⟩
  subst q
  exact h v s1 rp1 st sr1 p1
theorem sL_bind {m : Sg → Hq → R (List Val)} {f : List Val → Hq → RF} {Q' : VK} (rp : RepH G Av s) (sr : SR G Av s σ τ) (p : PoS G W Av s ((m σ s.h).thn σ f) D)
    (h : ∀ (v : List Val) (y : V) (s1 : S3), RepH G Av s1 → Stp s s1 → SR G Av s1 σ τ → LR G Av s v y s1 → PoS G W Av s1 (f v s1.h) D → Q' y s1.H) : tL G W m τ s.H Q' := by
  refine ⟨Av, s, σ, rfl, rp, sr, (PoS.bind (Rl := LR G Av s) sr p).mono ?_⟩
  rintro y H1 ⟨v, s1, rfl, rp1, st, sr1, q, p1⟩
  exact h v y s1 rp1 st sr1 q p1

/-! ### one after another -/
theorem is_nil : PSs X [] (tS G W fun σ h => .ok (.nx σ) h) :=
  pss_nil.imp fun D τ H ⟨Av, s, σ, hH, rp, sr, p⟩ => by subst hH; exact p s τ rfl rp (Stp.refl _) sr
theorem PoS.seq {r : RF} {f : Sg → Hq → RF} (p : PoS G W Av s (r.thn f) D) :
    PoS G W Av s r { D with nx := fun τ' H' => ∃ (s' : S3) (σ' : Sg), s'.H = H' ∧ RepH G Av s' ∧ SR G Av s' σ' τ' ∧ PoS G W Av s' (f σ' s'.h) D } := by
  cases r with
  | no => exact p
  | er e σ' h => exact p
  | ok fl h =>
    cases fl with
    | nx σ' =>
      intro s1 τ' e rp t sr
      subst e
      exact ⟨s1, σ', rfl, rp, sr, PoS.step (r := f σ' s1.h) p t rp⟩
    | bk σ' => exact p
    | ct σ' => exact p
    | rt v => exact p
theorem PoS.imp {r : RF} {D' : Ends} (p : PoS G W Av s r D) (h1 : ∀ τ H, D.nx τ H → D'.nx τ H) (h2 : ∀ τ H, D.bk τ H → D'.bk τ H) (h3 : ∀ τ H, D.ct τ H → D'.ct τ H) (h4 : ∀ v H, D.rt v H → D'.rt v H) : PoS G W Av s r D' := by
  cases r with
  | no => exact p
  | er e σ' h => exact p
  | ok fl h =>
    cases fl with
    | nx σ' => exact fun s1 τ' e rp t sr => h1 _ _ (p s1 τ' e rp t sr)
    | bk σ' => exact fun s1 τ' e rp t sr => h2 _ _ (p s1 τ' e rp t sr)
    | ct σ' => exact fun s1 τ' e rp t sr => h3 _ _ (p s1 τ' e rp t sr)
    | rt v => exact fun s1 y e rp t q => h4 _ _ (p s1 y e rp t q)
theorem is_cons {st : Stmt} {rest : List Stmt} {m ms : Sg → Hq → RF} (h : PS X st (tS G W m)) (hs : PSs X rest (tS G W ms)) : PSs X (st :: rest) (tS G W fun σ h => (m σ h).thn fun σ' h1 => ms σ' h1) :=
  (pss_cons h hs).imp fun D τ H ⟨Av, s, σ, hH, rp, sr, p⟩ => by
    subst hH
    exact ⟨Av, s, σ, rfl, rp, sr, (PoS.seq p).imp (fun τ' H' ⟨s', σ', e, rp', sr', p'⟩ => ⟨Av, s', σ', e, rp', sr', p'⟩) (fun _ _ z => z) (fun _ _ z => z) (fun _ _ z => z)⟩

/-! ### small ones -/
theorem is_pas : PS X (.Pass pos) (tS G W fun σ h => .ok (.nx σ) h) :=
  ps_pass.imp fun D τ H ⟨Av, s, σ, hH, rp, sr, p⟩ => by subst hH; exact p s τ rfl rp (Stp.refl _) sr
theorem is_doc {x j p1 p2} : PS X (.Expr (.Constant (.str x) j p1) p2) (tS G W fun σ h => .ok (.nx σ) h) :=
  ps_doc.imp fun D τ H ⟨Av, s, σ, hH, rp, sr, p⟩ => by subst hH; exact p s τ rfl rp (Stp.refl _) sr
theorem is_brk : PS X (.Break pos) (tS G W fun σ h => .ok (.bk σ) h) :=
  ps_break.imp fun D τ H ⟨Av, s, σ, hH, rp, sr, p⟩ => by subst hH; exact p s τ rfl rp (Stp.refl _) sr
theorem is_cnt : PS X (.Continue pos) (tS G W fun σ h => .ok (.ct σ) h) :=
  ps_continue.imp fun D τ H ⟨Av, s, σ, hH, rp, sr, p⟩ => by subst hH; exact p s τ rfl rp (Stp.refl _) sr
theorem is_retN : PS X (.Return none pos) (tS G W fun _ h => .ok (.rt (.d .none)) h) :=
  ps_retN.imp fun D τ H ⟨Av, s, σ, hH, rp, sr, p⟩ => by subst hH; exact p s .non rfl rp (Stp.refl _) (.d .non)
theorem is_ret {e : Expr} {m : Sg → Hq → R Val} (h : PE X e (tE G W m)) : PS X (.Return (some e) pos) (tS G W fun σ h => (m σ h).thn σ fun v h1 => .ok (.rt v) h1) :=
  (ps_ret h).imp fun D τ H ⟨Av, s, σ, hH, rp, sr, p⟩ => by
    subst hH
    exact sE_bind rp sr p fun v y s1 rp1 st1 sr1 q1 p1 => p1 s1 y rfl rp1 (Stp.refl _) q1
theorem is_exp {e : Expr} {m : Sg → Hq → R Val} (h : PE X e (tE G W m)) (hs : swapsWith e none pos.line X.env = pure false) : PS X (.Expr e pos) (tS G W fun σ h => (m σ h).thn σ fun _ h1 => .ok (.nx σ) h1) :=
  (ps_expr h hs).imp fun D τ H ⟨Av, s, σ, hH, rp, sr, p⟩ => by
    subst hH
    exact sE_bind rp sr p fun v y s1 rp1 st1 sr1 q1 p1 => p1 s1 τ rfl rp1 (Stp.refl _) sr1
/-- a name's value -/
theorem set_imp {i : Nat} {m : Sg → Hq → R Val} {te : TE} (ht : ∀ τ H Q, tE G W m τ H Q → te τ H Q) : ∀ D τ H, tS G W (fun σ h => (m σ h).thn σ fun v h1 => .ok (.nx (σ.set i (some v))) h1) D τ H → tAsg te (gName i) D τ H := fun D τ H ⟨Av, s, σ, hH, rp, sr, p⟩ => by
  subst hH
  exact ht _ _ _ (sE_bind rp sr p fun v y s1 rp1 st1 sr1 q1 p1 => p1 s1 _ rfl rp1 (Stp.refl _) (sr1.set q1 i))
theorem is_asg {tg e : Expr} {t : Tgt} {m : Sg → Hq → R Val} (h : PE X e (tE G W m)) (hg : PG X tg (tG G t)) (hs : swapsWithSole [tg] e pos.line X.env = pure false) (hw : swappedStores [tg] e X.env = pure none) (h1 : (assignEach [tg] X.env).map (·.2) = [assign tg X.env]) :
    PS X (.Assign [tg] e pos) (tS G W fun σ h => (m σ h).thn σ fun v h1 => match bindT h1 t v σ with
    | some σ' => .ok (.nx σ') h1
    | none => .no) :=
  (ps_asg h hg hs hw h1).imp fun D τ H ⟨Av, s, σ, hH, rp, sr, p⟩ => by
    subst hH
    refine sE_bind rp sr p fun v y s1 rp1 st1 sr1 q1 p1 => ?_
    cases e : bindT s1.h t v σ with
    | none => rw [e] at p1; exact p1.elim
    | some σ' =>
      rw [e] at p1
      exact ⟨Av, s1, σ, σ', v, rfl, rp1, sr1, q1, e, fun τ' sr' _ => p1 s1 τ' rfl rp1 (Stp.refl _) sr'⟩
theorem par_imp {i j : Nat} {ma mb : Sg → Hq → R Val} {ta : TA}
    (ht : ∀ τ H Q, tA G W (fun σ h => (ma σ h).bind fun v h1 => ((mb σ h1).bind fun v h1 => (R.ok ([] : List Val) h1).bind fun vs h2 => .ok (v :: vs) h2).bind fun vs h2 => .ok (v :: vs) h2) τ H Q → ta τ H Q) :
    ∀ D τ H, tS G W (fun σ h => (ma σ h).thn σ fun v h1 => (mb σ h1).thn σ fun w h2 => .ok (.nx ((σ.set i (some v)).set j (some w))) h2) D τ H → tPar i j ta D τ H := fun D τ H ⟨Av, s, σ, hH, rp, sr, p⟩ => by
  subst hH
  refine ht _ _ _ ⟨Av, s, σ, rfl, rp, sr, ?_⟩
  have p' : PoS G W Av s (((ma σ s.h).bind fun v h1 => ((mb σ h1).bind fun v h1 => (R.ok ([] : List Val) h1).bind fun vs h2 => .ok (v :: vs) h2).bind fun vs h2 => .ok (v :: vs) h2).thn σ fun vs h2 => match vs with
      | [v, w] => .ok (.nx ((σ.set i (some v)).set j (some w))) h2
      | _ => .no) D := by
    revert p
    show PoS G W Av s ((ma σ s.h).thn σ _) D → _
    cases ma σ s.h with
    | no => exact fun p => p
    | er e h => exact fun p => p
    | ok v h1 =>
      simp only [R.thn_ok, R.bind_ok]
      cases mb σ h1 with
      | no => exact fun p => p
      | er e h => exact fun p => p
      | ok w h2 => exact fun p => p
  refine (PoS.bind (Rl := fun v y s' => VRs G Av s' v y) sr p').mono ?_
  rintro ys H1 ⟨vs, s1, rfl, rp1, st, sr1, q, p1⟩
  split at p1
  · rename_i v w
    cases q with
    | cons a t =>
      cases t with
      | cons b t =>
        cases t
        exact ⟨_, _, rfl, p1 s1 _ rfl rp1 (Stp.refl _) ((sr1.set a i).set b j)⟩
  · exact p1.elim
theorem set_dct (hu : X.A.units + 1 < cLine) : PSet X (fun o i v H Q => (∃ a H', o = .ref a ∧ DP X.prog X.w X.K H a i v H' ∧ Q H') ∨ rSetL o i v H Q) := by
  rintro pins s σ H o i v ov iv u Q I ro ri rv (⟨a, H', rfl, g, q⟩ | h)
  · obtain rfl : ov = Value.ref a := ro
    exact dp_setItem hu I g ri rv fun s' I' => ⟨H', I', q⟩
  · exact set_list pins s σ H o i v ov iv u Q I ro ri rv h
theorem is_six {o i e : Expr} {p1 : Pos} {mo mi me : Sg → Hq → R Val} (hK : GX G X) (hu : X.A.units + 100 < cLine) (he : PE X e (tE G W me)) (ho : PE X o (tE G W mo)) (hi : PE X i (tE G W mi)) (hs : swapsWithSole [.Subscript o i p1] e pos.line X.env = pure false) (hw : swappedStores [.Subscript o i p1] e X.env = pure none)
    (h1 : (assignEach [.Subscript o i p1] X.env).map (·.2) = [assign (.Subscript o i p1) X.env])
    (ha : ∀ v, assign (.Subscript o i p1) X.env v = (do
      let ov ← holding [v] (eval o X.env)
      let iv ← holding [v, ov] (eval i X.env)
      standAt p1
      holding [v, ov, iv] (setItem ov iv v)
      release [v, ov, iv] [])) :
    PS X (.Assign [.Subscript o i p1] e pos) (tS G W fun σ h => (me σ h).thn σ fun v h1 => (mo σ h1).thn σ fun x h2 => (mi σ h2).thn σ fun y h3 => (setV x y v h3).thn σ fun _ h4 => .ok (.nx σ) h4) :=
  (ps_asg he (pg_sub ho hi (set_dct (by omega)) ha) hs hw h1).imp fun D τ H ⟨Av, s, σ, hH, rp, sr, p⟩ => by
    subst hH
    refine sE_bind rp sr p fun v y s1 rp1 st1 sr1 q1 p1 => ?_
    refine sE_bind rp1 sr1 p1 fun x z s2 rp2 st2 sr2 q2 p2 => ?_
    refine sE_bind rp2 sr2 p2 fun k u s3 rp3 st3 sr3 q3 p3 => ?_
    have r1 := (st2.trans st3 rp2.nd rp2.len).vr rp3.nd q1
    have r2 := st3.vr rp3.nd q2
    clear q1 q2
    unfold setV at p3
    split at p3
    · rename_i c e0
      obtain ⟨n, a, ob, rfl, rfl, hn, hl, hH, cr⟩ := dct_ok rp3 r2 e0
      unfold setD at p3
      simp only [hl] at p3
      split at p3
      · rename_i c' ep
        obtain ⟨H', g, rp4, st4⟩ := dput_ok rp3 hn hl hH cr q3 r1 ep
        rw [hK.1, hK.2.1, hK.2.2] at g
        exact .inl ⟨a, H', rfl, g, p3 ⟨s3.r, s3.h.set n (.dct c'), H'⟩ τ rfl rp4 st4 (st4.sr rp4.nd sr3)⟩
      · exact p3.elim
    right
    unfold setW at p3
    split at p3
    · rename_i n kk
      split at p3
      · rename_i ws hl
        split at p3
        · rename_i j hj
          cases r2 with
          | ref hn =>
            rename_i b
            cases q3 with
            | d q3 =>
              cases q3
              obtain ⟨zs, hH3, hv⟩ := rp3.obj _ b _ hn hl
              obtain ⟨rp4, st4⟩ := rp3.write hn hl hH3 (hv.set r1 j)
              refine ⟨b, zs, _, j, rfl, rfl, hH3, by rw [← ixn_eq, ← hv.length]; exact hj, ?_⟩
              exact p3 ⟨s3.r, s3.h.set _ (.lst (ws.set j v)), upd s3.H b (.lst (zs.set j y))⟩ τ rfl rp4 st4 (st4.sr rp4.nd sr3)
        · exact p3.elim
      · exact p3.elim
    · exact p3.elim
theorem is_iff {c : Expr} {a b : List Stmt} {mc : Sg → Hq → R Bool} {ma mb : Sg → Hq → RF} (hc : PT X c (tT G W mc)) (ha : PSs X a (tS G W ma)) (hb : PSs X b (tS G W mb)) :
    PS X (.If c a b pos) (tS G W fun σ h => (mc σ h).thn σ fun k h2 => if k then ma σ h2 else mb σ h2) :=
  (ps_if hc ha hb).imp fun D τ H ⟨Av, s, σ, hH, rp, sr, p⟩ => by
    subst hH
    refine sT_bind rp sr p fun k s1 rp1 st1 sr1 p1 => ?_
    cases k with
    | true => rw [if_pos rfl] at p1 ⊢; exact ⟨Av, s1, σ, rfl, rp1, sr1, p1⟩
    | false => rw [if_neg Bool.false_ne_true] at p1 ⊢; exact ⟨Av, s1, σ, rfl, rp1, sr1, p1⟩

/-! ### loops -/
theorem PoS.turn {r : RF} {f : Sg → Hq → RF} (p : PoS G W Av s (r.turn f) D) {N : L2.St → Hp → Prop}
    (hN : ∀ (s' : S3) (σ' : Sg) (τ' : L2.St), RepH G Av s' → Stp s s' → SR G Av s' σ' τ' → PoS G W Av s' (f σ' s'.h) D → N τ' s'.H) : PoS G W Av s r { D with nx := N, ct := N, bk := D.nx } := by
  cases r with
  | no => exact p
  | er e σ' h => exact p
  | ok fl h =>
    cases fl with
    | nx σ' =>
      intro s1 τ' e rp t sr
      subst e
      exact hN s1 σ' τ' rp t sr (PoS.step (r := f σ' s1.h) p t rp)
    | bk σ' => exact p
    | ct σ' =>
      intro s1 τ' e rp t sr
      subst e
      exact hN s1 σ' τ' rp t sr (PoS.step (r := f σ' s1.h) p t rp)
    | rt v => exact p
theorem is_whl {F : Nat} {c : Expr} {body : List Stmt} {mc : Sg → Hq → R Bool} {mb : Sg → Hq → RF} (hp : PassesOwn (model X.prog X.w) X.A X.env X.xe) (hc : PT X c (tT G W mc)) (hb : PSs X body (tS G W mb)) :
    PS X (.While c body [] pos) (tS G W fun σ h => whlN mc mb F σ h) :=
  (ps_while hp hc hb).imp fun D τ H ⟨Av, s, σ, hH, rp, sr, p⟩ => by
    subst hH
    refine ⟨fun m τ' H' => ∃ (s2 : S3) (σ2 : Sg), s2.H = H' ∧ RepH G Av s2 ∧ SR G Av s2 σ2 τ' ∧ PoS G W Av s2 (whlN mc mb m σ2 s2.h) D, ⟨F, s, σ, rfl, rp, sr, p⟩, ?_⟩
    rintro m τ2 H2 ⟨s2, σ2, rfl, rp2, sr2, p2⟩
    cases m with
    | zero => exact p2.elim
    | succ m =>
      unfold whlN at p2
      refine sT_bind rp2 sr2 p2 fun k s3 rp3 st3 sr3 p3 => ?_
      cases k with
      | false =>
        rw [if_neg Bool.false_ne_true] at p3 ⊢
        exact p3 s3 τ2 rfl rp3 (Stp.refl _) sr3
      | true =>
        rw [if_pos rfl] at p3 ⊢
        refine ⟨fun τ4 H4 => ∃ (s4 : S3) (σ4 : Sg), s4.H = H4 ∧ RepH G Av s4 ∧ SR G Av s4 σ4 τ4 ∧ PoS G W Av s4 (whlN mc mb m σ4 s4.h) D, fun τ4 H4 w => ⟨m, Nat.lt_succ_self m, w⟩, ?_⟩
        exact ⟨Av, s3, σ2, rfl, rp3, sr3, p3.turn fun s4 σ4 τ4 rp4 _ sr4 p4 => ⟨s4, σ4, rfl, rp4, sr4, p4⟩⟩
theorem is_for {F : Nat} {tg iter : Expr} {t : Tgt} {body : List Stmt} {mS : Sg → Hq → R Sv} {mb : Sg → Hq → RF} (hp : PassesOwn (model X.prog X.w) X.A X.env X.xe) (hcl : X.calm = true) (hi : PI X tg iter (tI G W mS)) (hg : PG X tg (tG G t)) (hb : PSs X body (tS G W mb))
    (hs : ∀ x, foldedSetIterable iter X.env x = pure x) :
    PS X (.For tg iter body [] pos) (tS G W fun σ h => (mS σ h).thn σ fun sv h1 => match sv with
    | .data vs => forL (turnV t mb) vs σ h1
    | .obj n => forO (turnV t mb) n F 0 σ h1) :=
  (ps_for hp hcl hi hg hb hs).imp fun D τ H ⟨Av, s, σ, hH, rp, sr, p⟩ => by
    subst hH
    refine ⟨Av, s, σ, rfl, rp, sr, (PoS.bind (Rl := SvR G Av) sr p).mono ?_⟩
    rintro J H1 ⟨sv, s1, rfl, rp1, st1, sr1, sv1, p1⟩
    cases sv with
    | data vs =>
      refine ⟨fun i m τ' H' => m = vs.length - i ∧ i ≤ vs.length ∧ ∃ (s2 : S3) (σ2 : Sg), s2.H = H' ∧ RepH G Av s2 ∧ Stp s1 s2 ∧ SR G Av s2 σ2 τ' ∧ PoS G W Av s2 (forL (turnV t mb) (vs.drop i) σ2 s2.h) D,
        ⟨vs.length, by simp, Nat.zero_le _, s1, σ, rfl, rp1, Stp.refl _, sr1, by rw [List.drop_zero]; exact p1⟩, ?_⟩
      rintro i m τ2 H2 ⟨rfl, hi2, s2, σ2, rfl, rp2, st2, sr2, p2⟩
      have srcAt := sv1 Av s2 rp2 st2 (fun a ha z => z) i
      cases hvi : vs[i]? with
      | none =>
        refine .inl ⟨srcAt.2 hvi, ?_⟩
        rw [List.drop_eq_nil_of_le (List.getElem?_eq_none_iff.mp hvi)] at p2
        exact p2 s2 τ2 rfl rp2 (Stp.refl _) sr2
      | some v =>
        have hlt : i < vs.length := lt_of_get hvi
        obtain ⟨hgo, hyl⟩ := srcAt.1 v hvi
        have hdrop : vs.drop i = v :: vs.drop (i + 1) := by
          rw [List.drop_eq_getElem_cons hlt]
          rw [List.getElem?_eq_getElem hlt] at hvi
          rw [Option.some.inj hvi]
        rw [hdrop] at p2
        unfold forL turnV at p2
        cases hb : bindT s2.h t v σ2 with
        | none => rw [hb] at p2; exact p2.elim
        | some σ3 =>
          rw [hb] at p2
          refine .inr ⟨hgo, fun τ4 H4 => ∃ (s4 : S3) (σ4 : Sg), s4.H = H4 ∧ RepH G Av s4 ∧ Stp s1 s4 ∧ SR G Av s4 σ4 τ4 ∧ PoS G W Av s4 (forL (turnV t mb) (vs.drop (i + 1)) σ4 s4.h) D, ?_, ?_⟩
          · rintro τ4 H4 w
            exact ⟨vs.length - (i + 1), by omega, rfl, hlt, w⟩
          · intro x H7 hy
            obtain ⟨s7, rfl, hh7, rp7, st7, q7⟩ := hyl x H7 hy
            refine ⟨Av, s7, σ2, σ3, v, rfl, rp7, st7.sr rp7.nd sr2, q7, by rw [hh7]; exact hb, fun τ' sr' _ => ⟨Av, s7, σ3, rfl, rp7, sr', ?_⟩⟩
            have p3 := PoS.step (r := (mb σ3 s2.h).turn fun σ' h1 => forL (turnV t mb) (vs.drop (i + 1)) σ' h1) p2 st7 rp7
            rw [← hh7] at p3
            have st27 := st2.trans st7 rp2.nd rp2.len
            exact p3.turn fun s4 σ4 τ4 rp4 st4 sr4 p4 => ⟨s4, σ4, rfl, rp4, st27.trans st4 rp7.nd rp7.len, sr4, p4⟩
    | obj n =>
      obtain ⟨a, ha, rfl⟩ := sv1
      refine ⟨fun i m τ' H' => ∃ (s2 : S3) (σ2 : Sg), s2.H = H' ∧ RepH G Av s2 ∧ Stp s1 s2 ∧ SR G Av s2 σ2 τ' ∧ PoS G W Av s2 (forO (turnV t mb) n m i σ2 s2.h) D, ⟨F, s1, σ, rfl, rp1, Stp.refl _, sr1, p1⟩, ?_⟩
      rintro i m τ2 H2 ⟨s2, σ2, rfl, rp2, st2, sr2, p2⟩
      cases m with
      | zero => exact p2.elim
      | succ m =>
        unfold forO at p2
        cases he : elsL s2.h (.ref n) with
        | none => rw [he] at p2; exact p2.elim
        | some vs =>
          rw [he] at p2
          have he2 : elsL s2.h (.ref n) = some vs := he
          obtain ⟨a', xs, ea, hq, hv⟩ := elsL_ok rp2 (.ref (pre_get st2.pre ha)) he2
          cases ea
          simp only at p2
          cases hvi : vs[i]? with
          | none =>
            rw [hvi] at p2
            refine .inl ⟨⟨xs, hq, ?_⟩, p2 s2 τ2 rfl rp2 (Stp.refl _) sr2⟩
            rw [← hv.length]; exact List.getElem?_eq_none_iff.mp hvi
          | some v =>
            rw [hvi] at p2
            unfold turnV at p2
            obtain ⟨x, hx, qx⟩ := hv.get hvi
            cases hb : bindT s2.h t v σ2 with
            | none => simp only [hb] at p2; exact p2.elim
            | some σ3 =>
              simp only [hb] at p2
              refine .inr ⟨⟨xs, x, hq, hx⟩, fun τ4 H4 => ∃ (s4 : S3) (σ4 : Sg), s4.H = H4 ∧ RepH G Av s4 ∧ Stp s1 s4 ∧ SR G Av s4 σ4 τ4 ∧ PoS G W Av s4 (forO (turnV t mb) n m (i + 1) σ4 s4.h) D, fun τ4 H4 w => ⟨m, Nat.lt_succ_self m, w⟩, ?_⟩
              intro y H7 hy
              obtain ⟨rfl, hy⟩ := hy
              have := hy xs hq
              rw [hx] at this
              cases this
              exact ⟨Av, s2, σ2, σ3, v, rfl, rp2, sr2, qx, hb, fun τ' sr' _ => ⟨Av, s2, σ3, rfl, rp2, sr', p2.turn fun s4 σ4 τ4 rp4 st4 sr4 p4 => ⟨s4, σ4, rfl, rp4, st2.trans st4 rp2.nd rp2.len, sr4, p4⟩⟩⟩
end
end Ip

set_option linter.all false
set_option Elab.async false
set_option autoImplicit false
set_option maxRecDepth 100000
/-! Defs: what they promise, where no list is being shown. -/
namespace Ip
open PySem L2 PyProof.Rows

structure RoomG (k : Nat) (A : Around) : Prop where
  rm : Room k A
  gd : A.guards = some []
theorem RoomG.mono {j k : Nat} {A : Around} (r : RoomG k A) (h : j ≤ k) : RoomG j A := ⟨r.rm.mono h, r.gd⟩
theorem RoomG.deeper {k : Nat} {A : Around} (r : RoomG (k + 1) A) (env : Env) : RoomG k (A.deeper env) := ⟨r.rm.deeper env, r.gd⟩
theorem RoomG.calm {k : Nat} {X : Cx} (r : RoomG k X.A) (h : X.calm = true) : Calm X := ⟨h, by have := r.rm.un; omega, r.gd⟩

structure FnG (P : Program) (w : World) (K : PySem.W.Frag) (mg : Str → Option Value) (base : Heap) (k : Nat) (f : Addr) (fd : FuncData) (ps : List Str) (sp : Sp) : Prop where
  len : ∀ vs H Q E, sp vs H Q E → vs.length = ps.length
  run : ∀ (A : Around) (outer : List Env) (s : Shared) (H : Hp) (args : Args) (us : List Value) (vs : List V) (Q : VK) (E : XK), RoomG k A → Env0 P w K mg base A outer s H → BindsTo s fd args (ps.zip us) → Vals vs us → sp vs H Q E →
    codeAny (model P w) A (.call (.ref f) args) (CR (L2N.CX P w) outer P w H s Q E) s

/-- a def by its body -/
theorem fnG_of {P : Program} {w : World} {K : PySem.W.Frag} {mg : Str → Option Value} {base : Heap} {k : Nat} {f : Addr} {name qual : Str} {params : Arguments} {body : List Stmt} {scope : Scope} {dV kV doc pm cdv ct oc : Value} {an od : Option Addr}
    {osl : Array (Option Value)} {N ps : List Str} {sp : Sp} (lk : K.lookup f = some ⟨oc, od, .func (PySem.W.fnOf name qual params body scope dV kV doc pm an cdv ct), osl⟩) (hcd : PySem.W.codeIn K cdv qual = true) (S : FnScope N ps scope)
    (len : ∀ vs H Q E, sp vs H Q E → vs.length = ps.length)
    (hbody : ∀ (A : Around) (outer : List Env) (s : Shared) (H : Hp) (vs : List V) (Q : VK) (E : XK), RoomG k (A.deeper (envOfC qual scope s.heap.objs.size f cdv)) → sp vs H Q E →
      ∃ t, PSs (cxOf (L2N.CX P w) P w K mg base N qual scope f cdv A outer s H E) body t ∧ t { nx := fun _ H' => Q .non H', rt := Q } (L2.start N vs) H) :
    FnG P w K mg base (k + 1) f (PySem.W.fnOf name qual params body scope dV kV doc pm an cdv ct) ps sp := by
  refine ⟨len, fun A outer s H args us vs Q E hr e0 hb r hsp => ?_⟩
  have KX : K.In s.heap := e0.mod.kin.keeps fun b o e => (e0.bs b o e).1
  have lim : s.heap.NoLimit := e0.mod.nolimit.keeps fun b o e => (e0.bs b o e).1
  refine codeAny_call_function hr.rm.depth (KX _ _ lk) rfl S.co S.gen rfl (PySem.W.codeRec_of KX hcd) (hb _ _ _ _ ?_)
  refine wpAny_newFunctionEnv_cells S.kind (fun y hy => ?_) fun env he s1 x => ?_
  · rcases S.par y.1 (List.of_mem_zip hy).1 with q | q
    · exact .inl q
    · exact .inr ⟨q, PySem.W.cellsFrom_some _ _ _ (.inl q)⟩
  subst he
  refine ⟨lim.keeps x.toInCall.keep, codeAny_func ?_⟩
  obtain ⟨t, ht, hq⟩ := hbody A outer s H vs Q E (hr.deeper _) hsp
  have I : Inv (cxOf (L2N.CX P w) P w K mg base N qual scope f cdv A outer s H E) [] (L2.start N vs) H s1 := inv_start S hr.rm.hd e0 (len _ _ _ _ hsp) r x
  refine wpAny_mono (ht.run [] s1 (L2.start N vs) H _ I hq) (fun fl s' hs => ?_) fun e s' hs => hs
  cases fl with
  | ret u => obtain ⟨v, σ', H', J, rv, q⟩ := hs; exact ⟨v, H', J.os, J.bare, J.base, J.hok, rv, q⟩
  | next => obtain ⟨σ', H', J, q⟩ := hs; exact ⟨V.non, H', J.os, J.bare, J.base, J.hok, rfl, q⟩
  | brk => obtain ⟨_, _, _, q⟩ := hs; exact q.elim
  | cont => obtain ⟨_, _, _, q⟩ := hs; exact q.elim

/-! ### a call of a def -/
/-- what a callee lets out is what is wished for -/
def Passing (X : Cx) (W : WX) : Prop := ∀ σ, PassesAt (L2N.CX X.prog X.w) X σ (WE W σ)
theorem Passing.of_takes {X : Cx} {W : WX} (tk : L2N.Takes X W) : Passing X W := fun σ => L2N.passAt tk σ
theorem Passing.never {X : Cx} : Passing X W0 := fun σ pins H s e s' I c => by
  obtain ⟨_, _, _, _, _, _, _, _, _, _, _, _, h⟩ := c
  exact h.elim
section
variable {X : Cx} {G : Gb} {W : WX} {k : Nat} {f : Addr} {fd : FuncData} {ps : List Str} {sp : Sp} {x : Str} {p pos : Pos} {e : Expr} {es : List Expr} {t : TA}
theorem run_fnG {pins : List (Addr × Obj)} {σ : L2.St} {H : Hp} {s : Shared} {Q : VK} {us : List Value} {vs : List V} (F : FnG X.prog X.w X.K X.mg X.base k f fd ps sp) (hr : RoomG k X.A) (hb : Binds X.K fd ps []) (hx : Passing X W)
    (I : Inv X pins σ H s) (r : Vals vs us) (h : sp vs H Q (WE W σ)) : wpAny (model X.prog X.w) X.A (call (.ref f) us) (EP X pins σ Q) X.xe s := by
  have hl : us.length = ps.length := by rw [← r.length]; exact F.len _ _ _ _ h
  have b := hb s us I.kIn (by rw [List.append_nil]; exact hl)
  rw [List.append_nil] at b
  refine wpAny_call (codeAny_mono (F.run X.A X.stack s H ⟨us, []⟩ us vs Q (WE W σ) hr I.env0 b r h) fun r s' hq => ?_)
  cases r with
  | error e => exact hx σ pins H s e s' I hq
  | ok fl =>
    cases fl with
    | ret u => exact I.after hq
    | next => exact False.elim hq
    | brk => exact False.elim hq
    | cont => exact False.elim hq
theorem pe_callG (F : FnG X.prog X.w X.K X.mg X.base k f fd ps sp) (hr : RoomG k X.A) (hg : Gl X x) (hm : X.mg x = some (.ref f)) (hk : PySem.W.keepIn X.K (.ref f) = true) (hb : Binds X.K fd ps []) (hx : Passing X W)
    (ha : PA X (e :: es) t) (hdb : (x == ("__debug__" : Str)) = false) (he : starEach (e :: es) X.env = (false, eval e X.env) :: starEach es X.env) (hpl : (backTo pos (starEach es X.env)).any (·.1) = false) :
    PE X (.Call (.Name x p) (e :: es) [] pos) (tCallS sp (WE W) t) := by
  refine ⟨fun pins s σ H Q I h => ?_⟩
  refine wpAny_Call_Name_kw (ld_glob I hg hm ?_ hdb)
  refine PySem.W.callWith_K (h₀ := X.base) I.ok.mod.kin hk (thn (ha.run pos pins s σ H _ I h) fun us s1 ⟨vs, H1, I1, r, q⟩ => ⟨I1.kIn, ?_⟩) he hpl
  exact run_fnG F hr hb hx I1 r q
theorem pe_callG0 (F : FnG X.prog X.w X.K X.mg X.base k f fd ps sp) (hr : RoomG k X.A) (hg : Gl X x) (hm : X.mg x = some (.ref f)) (hk : PySem.W.keepIn X.K (.ref f) = true) (hb : Binds X.K fd ps []) (hx : Passing X W)
    (hdb : (x == ("__debug__" : Str)) = false) : PE X (.Call (.Name x p) [] [] pos) (tCallS sp (WE W) tNil) := by
  refine ⟨fun pins s σ H Q I h => ?_⟩
  refine wpAny_Call_Name_kw (ld_glob I hg hm ?_ hdb)
  exact PySem.W.callWith_K0 I.kIn hk (run_fnG (us := []) F hr hb hx I .nil h)
/-- the evaluator's call -/
theorem call_imp {F : Nat} {C : List Orc} {fn : Fn} {ms : Sg → Hq → R (List Val)} {t : TA} (ht : ∀ τ H Q, tA G W ms τ H Q → t τ H Q) :
    ∀ τ H Q, tE G W (fun σ h => (ms σ h).bind fun vs h1 => callR F C fn vs h1) τ H Q → tCallS (spFn G F C fn) (WE W) t τ H Q := fun τ H Q ⟨Av, s, σ, hH, rp, sr, p⟩ => by
  subst hH
  exact ht _ _ _ (tA_bind rp sr p fun vs ys s1 rp1 st1 sr1 q1 p1 => call_ok rp1 q1 p1)
end

/-! ### a def of the table -/
theorem start_ok {G : Gb} {Av : Addr → Prop} {s : S3} : ∀ {args : List Val} {vs : List V} (n : Nat), VRs G Av s args vs → ∀ (i : Nat) (v : Val), (args.map some ++ List.replicate n none)[i]? = some (some v) → ∃ x, (vs.map some ++ List.replicate n none)[i]? = some (some x) ∧ VR G Av s v x
  | _, _, n, .nil, i, v, e => by
    have e : (List.replicate n none : List (Option Val))[i]? = some (some v) := e
    rw [List.getElem?_replicate] at e
    split at e <;> cases e
  | _, _, n, .cons q t, 0, v, e => by
    have e : some (some _) = some (some v) := e
    cases e
    exact ⟨_, rfl, q⟩
  | _, _, n, .cons q t, i + 1, v, e => start_ok n t i v e
theorem sp_body {G : Gb} {F : Nat} {C : List Orc} {fn : Fn} {N : List Str} {vs : List V} {H : Hp} {Q : VK} {E : XK} (hN : fn.ns = N.length) (h : spFn G F C fn vs H Q E) :
    tS G (fun c d _ H => E c d H) (fun σ h => exs F C fn.body σ h) { nx := fun _ H' => Q .non H', rt := Q } (L2.start N vs) H := by
  obtain ⟨Av, s, args, rfl, rp, q, hl, p⟩ := h
  refine ⟨Av, s, args.map some ++ List.replicate (fn.ns - fn.ps) none, rfl, rp, ⟨?_, ?_⟩, ?_⟩
  · unfold L2.start
    have := q.length
    simp only [List.length_append, List.length_map, List.length_replicate]
    omega
  · intro i v e
    unfold L2.start
    rw [← hN, ← q.length, hl]
    exact start_ok _ q i v e
  · unfold run at p
    revert p
    show _ → PoS G (fun c d _ H => E c d H) Av s (exs F C fn.body (args.map some ++ List.replicate (fn.ns - fn.ps) none) s.h) _
    cases exs F C fn.body (args.map some ++ List.replicate (fn.ns - fn.ps) none) s.h with
    | no => exact fun p => p
    | er e σ' h => exact fun p => fun s' c dx τ' e2 rp2 st2 _ x => p s' c dx e2 rp2 st2 x
    | ok fl h =>
      cases fl with
      | nx σ' => exact fun p => fun s' τ' e2 rp2 st2 _ => p s' .non e2 rp2 st2 (.d .non)
      | bk _ => exact fun p => p.elim
      | ct _ => exact fun p => p.elim
      | rt v => exact fun p => fun s' y e2 rp2 st2 q2 => p s' y e2 rp2 st2 q2
theorem sp_len {G : Gb} {F : Nat} {C : List Orc} {fn : Fn} {vs : List V} {H : Hp} {Q : VK} {E : XK} (h : spFn G F C fn vs H Q E) : vs.length = fn.ps := by
  obtain ⟨_, _, args, _, _, q, hl, _⟩ := h
  rw [← q.length, hl]
end Ip

set_option linter.all false
set_option Elab.async false
set_option autoImplicit false
set_option maxRecDepth 100000
/-! Lambdas: made, called; the def that calls one. -/
namespace Ip
open PySem PySem.Spec PyProof.Rows L2 LamX
section
variable {X : Cx} {pins : List (Addr × Obj)} {σ : L2.St} {H : Hp} {s : Shared}
theorem lam_makeD {T : List (Addr × Str)} {c P : Addr} {params : Arguments} {body : Expr} {scope : Scope} {pos p0 : Pos} {i : Int} {j : Nat} {E : Value → Shared → Prop} {Q : Value → Shared → Prop} (I : Inv X pins σ H s) (TB : TabB X.base X.mg c P) (hcode : X.env.code = .ref c)
    (hm : (P, X.env.qual ++ "<lambda>") ∈ T) (hu : ∀ p ∈ T, p.1 = P → p.2 = X.env.qual ++ "<lambda>") (hT : Tabs T H) (hd : params.defaults = [.Constant (.int i) j p0]) (hk : params.kw_defaults = []) (hfree : ∀ y ∈ scope.names, y.2 = .free → ∃ c, X.env.cells.lookup y.1 = some c)
    (h : ∀ (f c' T₀ : Addr) (t : Tok) (pm ctv doc : Value) (H1 : Hp) (s' : Shared), Inv X pins σ H1 s' → ExtN H H1 → (∀ b, H b ≠ none → H1 b ≠ none) → Tabs T H1 →
      s'.heap.get? f = some (PySem.W.kdv_obj "<lambda>" (X.env.qual ++ "<lambda>") params (.expr body) scope (cloFrom X.env.cells scope.names []) (.ref T₀) doc pm c' ctv) → H1 f = none → f ∉ frs X.stack →
      s'.heap.get? T₀ = some (PySem.W.kdv_tup [.int i t]) → H1 T₀ = none → T₀ ∉ frs X.stack → H1 c' = some (CodeO c' (X.env.qual ++ "<lambda>")) → Q (.ref f) s') :
    wpAny (model X.prog X.w) X.A (eval (.Lambda params body scope pos) X.env) Q E s := by
  obtain ⟨ps, hP, ht, ha⟩ := hT _ hm
  refine PySem.W.kdv_lam (by rw [hd]; rfl) hk ?_
  rw [hd]
  refine PySem.W.kdv_all1 (wpAny_Constant_int (PySem.W.kdv_all0 ?_))
  rw [makeFunction_eq]
  simp only [List.zip_nil_right, List.filterMap_nil, List.isEmpty_nil, if_true, pure_bind, List.isEmpty_cons, Bool.false_eq_true, if_false]
  refine wpAny_bind (wpAny_newTextTuple ?_)
  have nofr : ∀ f, s.heap.objs.size ≤ f → f ∉ frs X.stack := fun f hf z => by
    rcases List.mem_cons.mp (I.stkSub _ z) with e | e
    · have h1 := I.lt
      rw [← e] at h1
      exact Nat.lt_irrefl _ (Nat.lt_of_lt_of_le h1 hf)
    · exact I.nofs hf e
  generalize hs1 : ({ s with heap := s.heap.push (PySem.W.kdv_tup [.int i s.toks]), toks := s.toks + 1 } : Shared) = s1
  have I1 : Inv X pins σ H s1 := by
    rw [← hs1]
    exact I.kept fun b o e => Heap.get?_push_of_some _ e
  have hT0 : s1.heap.get? s.heap.objs.size = some (PySem.W.kdv_tup [.int i s.toks]) := by
    rw [← hs1]
    exact Heap.get?_push_size _ rfl
  have hsz1 : s1.heap.objs.size = s.heap.objs.size + 1 := by rw [← hs1]; exact Heap.size_push _ _
  generalize hT0e : s.heap.objs.size = T₀ at hT0 hsz1
  have nT0 : H T₀ = none := I.hok.fresh (Nat.le_of_eq hT0e)
  have fT0 : T₀ ∉ frs X.stack := nofr _ (Nat.le_of_eq hT0e)
  have bP : s1.heap.BuiltinsAt X.mg P := TB.bm.keeps I1.bk
  have hP' : s1.heap.get? P = some { cls := .none, data := .fields ps } := I1.hok P _ hP
  have neP : T₀ ≠ P := fun z => by
    subst z
    rw [nT0] at hP; cases hP
  have le1 : s.heap.objs.size ≤ s1.heap.objs.size := by omega
  show wpAny _ _ (PySem.makeTail "<lambda>" (X.env.qual ++ "<lambda>") params (.expr body) scope X.env (.ref T₀) .none none pos pos.line) Q E s1
  cases hc : codeAmong pos ps.toList with
  | none =>
    refine PySem.W.kdv_makeTail (mg := X.mg) (c := c) (P := P) (ps := ps) (closure_ok hfree) I1.ok.glob (I1.mod.glob.keeps I1.bk) hcode (TB.code.keeps I1.bk) hP' ht hc TB.gP bP fun c' ctv doc h' tk hx hge hlt hrec htb => ?_
    obtain ⟨c2, oc, vs, t, e2, hoc, hd2, hv⟩ := hrec
    cases e2
    have hsz : s1.heap.objs.size ≤ h'.objs.size := Nat.le_trans hge (Nat.le_of_lt hlt)
    have nC : H c' = none := I1.hok.fresh hge
    have J := inv_table (t' := tk) (more := #[rawInt pos.line, rawInt pos.col, .ref c']) (h' := h'.push (PySem.W.kdv_obj "<lambda>" (X.env.qual ++ "<lambda>") params (.expr body) scope (cloFrom X.env.cells scope.names []) (.ref T₀) doc ((X.mg "__name__").getD .none) c' ctv)) I1 hP
      (fun b o hb e => Heap.get?_push_of_some _ (hx b o hb e)) (Heap.get?_push_of_some _ htb) hge ⟨oc, vs, t, Heap.get?_push_of_some _ hoc, hd2, hv⟩
    generalize hH2 : upd (upd H P (.tbl (ps ++ #[rawInt pos.line, rawInt pos.col, .ref c']))) c' (CodeO c' (X.env.qual ++ "<lambda>")) = H2 at J
    have at2 : ∀ b, b ≠ P → b ≠ c' → H2 b = H b := fun b h1 h2 => by rw [← hH2, upd_ne h2, upd_ne h1]
    have hE : ExtN H H2 := fun b o e n => by
      rw [at2 b (fun z => n ps (Option.some.inj (e.symm.trans (by rw [z]; exact hP)))) (ne_of_none e nC)]
      exact e
    have hTh : ∀ b, H b ≠ none → H2 b ≠ none := fun b hb => by
      rw [← hH2]
      by_cases h1 : b = c'
      · rw [h1, upd_same]; exact fun z => by cases z
      · rw [upd_ne h1]
        by_cases h2 : b = P
        · rw [h2, upd_same]; exact fun z => by cases z
        · rw [upd_ne h2]; exact hb
    have h2c : H2 c' = some (CodeO c' (X.env.qual ++ "<lambda>")) := by rw [← hH2]; exact upd_same
    have h2P : H2 P = some (.tbl (ps ++ #[rawInt pos.line, rawInt pos.col, .ref c'])) := by rw [← hH2, upd_ne (ne_of_none hP nC), upd_same]
    have eL : (ps ++ #[rawInt pos.line, rawInt pos.col, .ref c']).toList = ps.toList ++ [rawInt pos.line, rawInt pos.col, .ref c'] := by simp
    have old : ∀ {p : Addr × Str} {c0 : Addr}, H c0 = some (CodeO c0 p.2) → H2 c0 = some (CodeO c0 p.2) := fun {p c0} e => hE _ _ e codeO_ne
    have T2 : Tabs T H2 := fun p hp => by
      by_cases hb : p.1 = P
      · rw [hu p hp hb, hb]
        refine ⟨_, h2P, by rw [eL]; exact PySem.TriplesOk_snoc _ _ _ _ ht, fun p' cv hcv => ?_⟩
        rw [eL] at hcv
        rcases among_app _ ht hcv with z | z
        · obtain ⟨c0, e1, e2⟩ := ha p' cv z
          exact ⟨c0, e1, hE _ _ e2 codeO_ne⟩
        · exact ⟨c', z, h2c⟩
      · obtain ⟨ps', a1, a2, a3⟩ := hT p hp
        exact ⟨ps', by rw [at2 _ hb (ne_of_none a1 nC)]; exact a1, a2, fun p' cv hcv => let ⟨c0, e1, e2⟩ := a3 p' cv hcv; ⟨c0, e1, hE _ _ e2 codeO_ne⟩⟩
    have n1 : h'.objs.size ≠ c' := Nat.ne_of_gt hlt
    have n2 : h'.objs.size ≠ P := Nat.ne_of_gt (Nat.lt_of_lt_of_le (Heap.lt_size hP') hsz)
    have n3 : T₀ ≠ c' := Nat.ne_of_lt (by omega)
    exact h h'.objs.size c' T₀ s.toks ((X.mg "__name__").getD .none) ctv doc H2 _ J hE hTh T2 (Heap.get?_push_size _ rfl) (by rw [at2 _ n2 n1]; exact I1.hok.fresh hsz) (nofr _ (Nat.le_trans le1 hsz))
      (Heap.get?_push_of_some _ (hx _ _ neP hT0)) (by rw [at2 _ neP n3]; exact nT0) fT0 h2c
  | some cv =>
    obtain ⟨c', e, hco⟩ := ha pos cv hc
    subst e
    refine PySem.W.kdv_makeTailHit (mg := X.mg) (c := c) (P := P) (ps := ps) (closure_ok hfree) I1.ok.glob (I1.mod.glob.keeps I1.bk) hcode (TB.code.keeps I1.bk) hP' ht hc bP fun ctv doc h' tk hx hsz => ?_
    have J : Inv X pins σ H { s1 with heap := h'.push (PySem.W.kdv_obj "<lambda>" (X.env.qual ++ "<lambda>") params (.expr body) scope (cloFrom X.env.cells scope.names []) (.ref T₀) doc ((X.mg "__name__").getD .none) c' ctv), toks := tk } := I1.kept fun b o e => Heap.get?_push_of_some _ (hx b o e)
    exact h h'.objs.size c' T₀ s.toks ((X.mg "__name__").getD .none) ctv doc H _ J (ExtN.refl H) (fun _ h => h) hT (Heap.get?_push_size _ rfl) (I1.hok.fresh hsz) (nofr _ (Nat.le_trans le1 hsz)) (Heap.get?_push_of_some _ (hx _ _ hT0)) nT0 fT0 hco
/-- the context of a lambda's body -/
abbrev lamC (X : Cx) (A : Around) (outer : List Env) (s : Shared) (H : Hp) (E : XK) (scope : Scope) (f c' : Addr) : Cx :=
  { lamCx X A outer s H E scope f c' with xe := fun e s' => wpAny (model X.prog X.w) (A.deeper (lamEnv X scope s.heap.objs.size f c')) (leaving (lamEnv X scope s.heap.objs.size f c') e) (fun _ s'' => L2N.CX X.prog X.w outer H s E e s'') (fun e' s'' => L2N.CX X.prog X.w outer H s E e' s'') s' }
/-- captured names, globals, own ones that bear no slot -/
structure LamN (N : List Str) (sc scope : Scope) : Prop where
  kind : scope.kind = .function
  co : scope.isCoroutine = false
  gen : scope.isGenerator = false
  nocell : ∀ y ∈ scope.names, y.2 ≠ .cell
  own : ∀ y ∈ scope.names, y.2 = .local → y.1 ∉ N
  free : ∀ y ∈ scope.names, y.2 = .free → sc.names.lookup y.1 = some .cell ∨ sc.names.lookup y.1 = some .free
theorem LamN.has {N : List Str} {scope : Scope} (L : LamN N X.env.scope scope) (ok : X.Ok) : ∀ y ∈ scope.names, y.2 = .free → ∃ c, X.env.cells.lookup y.1 = some c := fun y hy e =>
  (L.free y hy e).elim (fun k => ok.has _ (.inl k)) fun k => ok.has _ (.inr k)
/-- the lambda's body begins -/
theorem lam_startN {HZ : Hp} {s1 : Shared} {A : Around} {outer : List Env} {E : XK} {scope : Scope} {f c' : Addr} {h₁ : Heap} {tk : Nat} {m : Str → Option Value} (I : Inv X pins σ H s) (L : LamN X.N X.env.scope scope) (e0 : Env0 X.prog X.w X.K X.mg X.base A outer s1 HZ) (hd : A.handled = none)
    (un : Un (frs X.stack) [] H HZ s.heap s1.heap) (hns : h₁.Ns s1.heap.objs.size m) (kp : ∀ b o, s1.heap.get? b = some o → h₁.get? b = some o) : Inv (lamC X A outer s1 HZ E scope f c') [] σ HZ { s1 with heap := h₁, toks := tk } := by
  have hfree := L.has I.ok
  have cm : ∀ {y c}, (cloFrom X.env.cells scope.names []).lookup y = some c → X.env.cells.lookup y = some c := fun {y c} e => by
    rcases cloFrom_mem (PySem.mem_of_lookup e) with hm | ⟨h1, h2⟩
    · cases hm
    · obtain ⟨c1, hc⟩ := hfree _ h1 rfl
      have hc : X.env.cells.lookup y = some c1 := hc
      have e2 : c = c1 := by rw [h2, hc] <;> rfl
      rw [e2]; exact hc
  have look : ∀ {y}, scope.names.lookup y = some .free → ∃ c, (cloFrom X.env.cells scope.names []).lookup y = some c := fun {y} hl =>
    mem_lookup (cloFrom_has (cells := X.env.cells) (acc := []) (PySem.mem_of_lookup hl))
  have cellK : ∀ {c : Addr} {v : Option Value}, H c = none → s.heap.IsCell c v → h₁.IsCell c v := fun {c v} n ⟨o, ho, hd⟩ => by
    obtain ⟨sl, q⟩ := un.any ho n (by simp)
    exact ⟨_, kp _ _ q, hd⟩
  have noA : ∀ b : Addr, b ∉ (lamC X A outer s1 HZ E scope f c').ex := fun b z => by
    have z : b ∈ ([] : List Addr) := z
    cases z
  refine ⟨⟨e0.mod, L.kind, rfl, rfl, Nat.le_refl _, fun y z c e1 e2 => I.ok.inj y z c (cm e1) (cm e2), fun y hy => ?_, fun y c z _ => ?_, fun _ => hd, Around.frames_deeper e0.frames, .inr ⟨rfl, rfl⟩, fun b z => absurd z (noA b), e0.bs, e0.bsz, fun b _ _ => noA b,
      fun b z => absurd z (noA b), e0.funs, e0.frf⟩,
    rfl, e0.bare, Un.kept kp, ⟨_, hns, fun i y v e1 e2 e3 => ?_⟩, fun y c e => ?_, e0.hok.fresh (Nat.le_refl _), fun y c e => ?_, fun q hq => ?_, e0.hok.kept kp, I.len⟩
  · have hy : scope.names.lookup y = some .cell ∨ scope.names.lookup y = some .free := hy
    exact hy.elim (fun hy => absurd rfl (L.nocell _ (PySem.mem_of_lookup hy))) look
  · cases (show false = true from z)
  · have e3 : Vis scope y := e3
    rcases e3 with k | k | k
    · exact absurd (List.mem_of_getElem? e1) (L.own _ (PySem.mem_of_lookup k) rfl)
    · exact absurd rfl (L.nocell _ (PySem.mem_of_lookup k))
    · obtain ⟨m', hn, hl⟩ := I.loc
      have hvis : Vis X.env.scope y := (L.free _ (PySem.mem_of_lookup k) rfl).elim (fun k => .inr (.inl k)) (fun k => .inr (.inr k))
      obtain ⟨w', r, q⟩ := hl i y v e1 e2 hvis
      obtain ⟨c2, h2⟩ := look k
      refine ⟨w', r, .inr ⟨.inr k, c2, h2, ?_⟩⟩
      have c1 := cm h2
      rcases q with ⟨k', _⟩ | ⟨_, c3, e', z⟩
      · have k' : X.env.scope.names.lookup y = some .local := k'
        rcases L.free _ (PySem.mem_of_lookup k) rfl with k2 | k2 <;> rw [show X.env.scope.names.lookup y = _ from k2] at k' <;> cases k'
      · rw [c1] at e'
        cases e'
        exact cellK (I.freeC y _ c1) z
  · obtain ⟨w', z⟩ := I.cell y c (cm e)
    exact ⟨w', cellK (I.freeC y c (cm e)) z⟩
  · obtain ⟨v, o, ho, hd⟩ := I.cell y c (cm e)
    exact un.free c o ho (I.freeC y c (cm e)) (by simp)
  · have hq : q ∈ ([] : List (Addr × Obj)) := hq
    cases hq
/-- a made lambda -/
structure LamO (X : Cx) (s : Shared) (H : Hp) (body : Expr) (scope : Scope) (f c' : Addr) (fd : FuncData) (binds : List (Str × Value)) : Prop where
  at_ : s.heap.get? f = some { cls := .type "function", data := .func fd }
  hf : H f = none
  fr : f ∉ frs X.stack
  sc : fd.scope = scope
  bd : fd.body = .expr body
  cl : fd.closure = cloFrom X.env.cells scope.names []
  cd : fd.code = .ref c'
  qn : fd.qualname = X.env.qual ++ "<lambda>"
  gl : fd.globals = mainGlobals
  bl : fd.builtins = builtinsNs
  bind : ∀ s2 : Shared, (∀ b o, s.heap.get? b = some o → H b = none → b ∉ frs X.stack → s2.heap.get? b = some o) → BindsTo s2 fd ⟨[], []⟩ binds
  loc : ∀ y ∈ binds, scope.names.lookup y.1 = some .local
/-- x(), in the def that got the lambda, where no list is being shown -/
theorem pe_lamrun {Eg : XK} {Ng : List Str} {qg : Str} {sg : Scope} {g f c' : Addr} {cdg : Value} {body : Expr} {scope : Scope} {fd : FuncData} {binds : List (Str × Value)} {k i : Nat} {a : Str} {pn : List (Addr × Obj)} {xe : Value → Shared → Prop} {W : WX} {E : XK} {tb : TE} {p1 p2 : Pos}
    (I : Inv X pins σ H s) (L : LamN X.N X.env.scope scope) (lo : LamO X s H body scope f c' fd binds)
    (tk : L2N.Takes ((cxOf (L2N.CX X.prog X.w) X.prog X.w X.K X.mg X.base Ng qg sg g cdg X.A X.stack s H Eg).tr pn xe) W) (hW : ∀ cls d σ' H', E cls d H' → W cls d σ' H') (hr : RoomG (k + 1) (X.A.deeper (envOfC qg sg s.heap.objs.size g cdg)))
    (hbody : ∀ (e1 : Env) (outer : List Env) (s : Shared) (H : Hp), PE (lamC X (X.A.deeper e1) outer s H E scope f c') body tb)
    (hN : Ng[i]? = some a) (hv : Vis sg a) (hd : (a == ("__debug__" : Str)) = false) (hcd : (a == ("__classdict__" : Str)) = false) :
    PE ((cxOf (L2N.CX X.prog X.w) X.prog X.w X.K X.mg X.base Ng qg sg g cdg X.A X.stack s H Eg).tr pn xe) (.Call (.Name a p1) [] [] p2)
      (fun σZ HZ Q => σZ[i]? = some (some (.ref f)) ∧ HZ c' = some (CodeO c' (X.env.qual ++ "<lambda>")) ∧ tb σ HZ Q) := by
  refine ⟨fun pinsZ sZ σZ HZ Q IZ h => ?_⟩
  obtain ⟨hs, hc, ht⟩ := h
  refine wpAny_Call_Name_kw (thn ((pe_var (pos := p1) (i := i) hN hv hd hcd).run pinsZ sZ σZ HZ (fun v H1 => v = .ref f ∧ H1 = HZ) IZ ⟨.ref f, hs, rfl, rfl⟩) fun u s1 ⟨v, H1, I1, r1, ev, eH⟩ => ?_)
  subst ev
  rw [eH] at I1
  obtain rfl : u = Value.ref f := r1
  have un : Un (frs X.stack) [] H HZ s.heap s1.heap := I1.base
  have kept : ∀ b o, s.heap.get? b = some o → H b = none → b ∉ frs X.stack → s1.heap.get? b = some o := fun b o e n nf => un.keep b o e n nf (fun z => by cases z)
  have of1 := kept f _ lo.at_ lo.hf lo.fr
  refine PySem.W.callWith_F0 ⟨_, _, _, _, of1⟩ ?_
  obtain ⟨⟨oc, vs, t, hoc, hdc, hvc⟩, _, _⟩ := I1.hok c' _ hc
  have rc : codeAny (model X.prog X.w) (X.A.deeper (envOfC qg sg s.heap.objs.size g cdg)) (.call (.ref f) ⟨[], []⟩) (CR (L2N.CX X.prog X.w) (envOfC qg sg s.heap.objs.size g cdg :: X.stack) X.prog X.w HZ s1 Q E) s1 := by
    refine PySem.W.kla_callFunE hr.rm.depth of1 rfl (by rw [lo.sc]; exact L.co) (by rw [lo.sc]; exact L.gen) lo.bd (by rw [lo.cd, lo.qn]; exact ⟨c', oc, vs, t, rfl, hoc, hdc, hvc⟩) ?_
    refine lo.bind s1 kept _ _ _ _ ?_
    rw [lo.sc, lo.gl, lo.cl, lo.cd, lo.bl, lo.qn]
    refine wpAny_newFunctionEnv L.nocell lo.loc (fun h₁ hns hsb => ⟨I1.nolimit.fresh _ hsb, ?_⟩) L.kind
    show codeAny _ _ (.expr body (lamEnv X scope s1.heap.objs.size f c')) _ _
    have kp : ∀ b o, s1.heap.get? b = some o → h₁.get? b = some o := fun b o e => hsb.extBut b o (Nat.ne_of_lt (Heap.lt_size e)) (Heap.get?_push_of_some _ e)
    have J : Inv (lamC X (X.A.deeper (envOfC qg sg s.heap.objs.size g cdg)) (envOfC qg sg s.heap.objs.size g cdg :: X.stack) s1 HZ E scope f c') [] σ HZ { s1 with heap := h₁, toks := s1.toks + binds.length } :=
      lam_startN I L I1.env0 hr.rm.hd un hns kp
    refine PySem.W.kla_codeExpr (wpAny_mono ((hbody _ _ s1 HZ).run [] _ _ HZ Q J ht) (fun v s' hq => ?_) fun e s' hq => hq)
    obtain ⟨w', H', J', rv, q⟩ := hq
    exact ⟨w', H', J'.os, J'.bare, J'.base, J'.hok, rv, q⟩
  refine wpAny_call (codeAny_mono rc fun r s' hq => ?_)
  cases r with
  | error e => exact L2N.passes_call tk hW pinsZ σZ HZ s1 e s' I1 hq
  | ok fl =>
    cases fl with
    | ret u => exact I1.after hq
    | next => exact False.elim hq
    | brk => exact False.elim hq
    | cont => exact False.elim hq
/-- a lambda without a parameter, as lam_make2 makes it -/
theorem lamO_0 {body : Expr} {scope : Scope} {f c' : Addr} {pm ctv : Value} {params : Arguments} (h1 : s.heap.get? f = some (PySem.W.kla_obj "<lambda>" (X.env.qual ++ "<lambda>") params body scope (cloFrom X.env.cells scope.names []) pm c' ctv)) (h2 : H f = none) (h3 : f ∉ frs X.stack)
    (hb : bindArgs (PySem.W.kla_fn "<lambda>" (X.env.qual ++ "<lambda>") params body scope (cloFrom X.env.cells scope.names []) pm (.ref c') ctv) ⟨[], []⟩ = pure []) :
    LamO X s H body scope f c' (PySem.W.kla_fn "<lambda>" (X.env.qual ++ "<lambda>") params body scope (cloFrom X.env.cells scope.names []) pm (.ref c') ctv) [] :=
  ⟨h1, h2, h3, rfl, rfl, rfl, rfl, rfl, rfl, rfl, fun _ _ => .of_eq hb, fun y hy => by cases hy⟩
/-- a lambda with one parameter and its default, as lam_makeD makes it -/
theorem lamO_1 {body e : Expr} {scope : Scope} {f c' T₀ : Addr} {pm ctv doc : Value} {a : Str} {p : Pos} {an : Option Expr} {i : Int} {t : Tok}
    (h1 : s.heap.get? f = some (PySem.W.kdv_obj "<lambda>" (X.env.qual ++ "<lambda>") { posonlyargs := [], args := [{ arg := a, annotation := an, pos := p }], vararg := none, kwonlyargs := [], kw_defaults := [], kwarg := none, defaults := [e] } (.expr body) scope (cloFrom X.env.cells scope.names []) (.ref T₀) doc pm c' ctv)) (h2 : H f = none) (h3 : f ∉ frs X.stack)
    (h4 : s.heap.get? T₀ = some (PySem.W.kdv_tup [.int i t])) (h5 : H T₀ = none) (h6 : T₀ ∉ frs X.stack) (hl : scope.names.lookup a = some .local) :
    LamO X s H body scope f c' (PySem.W.kdv_fn "<lambda>" (X.env.qual ++ "<lambda>") { posonlyargs := [], args := [{ arg := a, annotation := an, pos := p }], vararg := none, kwonlyargs := [], kw_defaults := [], kwarg := none, defaults := [e] } (.expr body) scope (cloFrom X.env.cells scope.names []) (.ref T₀) doc pm (.ref c') ctv) [(a, .int i t)] := by
  refine ⟨h1, h2, h3, rfl, rfl, rfl, rfl, rfl, rfl, rfl, fun s2 k => BindsTo.of_defaults rfl (k T₀ _ h4 h5 h6) rfl rfl ?_, fun y hy => ?_⟩
  · have e : (a == a) = true := beq_self_eq_true a
    simp [List.lookup, e]
  · rw [List.mem_singleton.mp hy]; exact hl
end
end Ip

set_option linter.all false
set_option Elab.async false
set_option autoImplicit false
set_option maxRecDepth 100000
/-! The def that calls what it got, and tells how it ended. -/
namespace Ip
open PySem PySem.Spec PyProof.Rows L2 LamX
section
variable {X : Cx} {pins : List (Addr × Obj)} {σ : L2.St} {H : Hp} {s : Shared}
/-- a lambda without parameters is made -/
theorem lam_make0 {T : List (Addr × Str)} {c P : Addr} {params : Arguments} {body : Expr} {scope : Scope} {pos : Pos} {E : Value → Shared → Prop} {Q : Value → Shared → Prop} (I : Inv X pins σ H s) (TB : TabB X.base X.mg c P) (hcode : X.env.code = .ref c)
    (hm : (P, X.env.qual ++ "<lambda>") ∈ T) (hu : ∀ p ∈ T, p.1 = P → p.2 = X.env.qual ++ "<lambda>") (hT : Tabs T H) (hdef : defaultsOf params X.env = ([], [])) (hfree : ∀ y ∈ scope.names, y.2 = .free → ∃ c, X.env.cells.lookup y.1 = some c)
    (h : ∀ (f c' : Addr) (pm ctv : Value) (H1 : Hp) (s' : Shared), Inv X pins σ H1 s' → ExtN H H1 → (∀ b, H b ≠ none → H1 b ≠ none) → Tabs T H1 →
      s'.heap.get? f = some (PySem.W.kla_obj "<lambda>" (X.env.qual ++ "<lambda>") params body scope (cloFrom X.env.cells scope.names []) pm c' ctv) → H1 f = none → f ∉ frs X.stack → H1 c' = some (CodeO c' (X.env.qual ++ "<lambda>")) → Q (.ref f) s') :
    wpAny (model X.prog X.w) X.A (eval (.Lambda params body scope pos) X.env) Q E s := by
  obtain ⟨ps, hP, ht, ha⟩ := hT _ hm
  refine PySem.W.kla_eval hdef ?_
  have nofr : ∀ f, s.heap.objs.size ≤ f → f ∉ frs X.stack := fun f hf z => by
    rcases List.mem_cons.mp (I.stkSub _ z) with e | e
    · exact Nat.lt_irrefl _ (Nat.lt_of_lt_of_le (e ▸ I.lt) hf)
    · exact I.nofs hf e
  have bP : s.heap.BuiltinsAt X.mg P := TB.bm.keeps I.bk
  have hP' : s.heap.get? P = some { cls := .none, data := .fields ps } := I.hok P _ hP
  cases hc : codeAmong pos ps.toList with
  | none =>
    refine PySem.W.kla_makeFunction (mg := X.mg) (c := c) (P := P) (ps := ps) (closure_ok hfree) I.ok.glob (I.mod.glob.keeps I.bk) hcode (TB.code.keeps I.bk) hP' ht hc TB.gP bP fun c' ctv h' tk hx hge hlt hrec htb => ?_
    obtain ⟨c2, oc, vs, t, e2, hoc, hd2, hv⟩ := hrec
    cases e2
    have hsz : s.heap.objs.size ≤ h'.objs.size := Nat.le_trans hge (Nat.le_of_lt hlt)
    have nC : H c' = none := I.hok.fresh hge
    have J := inv_table (t' := tk) (more := #[rawInt pos.line, rawInt pos.col, .ref c']) (h' := h'.push (PySem.W.kla_obj "<lambda>" (X.env.qual ++ "<lambda>") params body scope (cloFrom X.env.cells scope.names []) ((X.mg "__name__").getD .none) c' ctv)) I hP
      (fun b o hb e => Heap.get?_push_of_some _ (hx b o hb e)) (Heap.get?_push_of_some _ htb) hge ⟨oc, vs, t, Heap.get?_push_of_some _ hoc, hd2, hv⟩
    generalize hH2 : upd (upd H P (.tbl (ps ++ #[rawInt pos.line, rawInt pos.col, .ref c']))) c' (CodeO c' (X.env.qual ++ "<lambda>")) = H2 at J
    have at2 : ∀ b, b ≠ P → b ≠ c' → H2 b = H b := fun b h1 h2 => by rw [← hH2, upd_ne h2, upd_ne h1]
    have h2c : H2 c' = some (CodeO c' (X.env.qual ++ "<lambda>")) := by rw [← hH2]; exact upd_same
    have h2P : H2 P = some (.tbl (ps ++ #[rawInt pos.line, rawInt pos.col, .ref c'])) := by rw [← hH2, upd_ne (ne_of_none hP nC), upd_same]
    have hE : ExtN H H2 := fun b o e n => by
      rw [at2 b (fun z => n ps (Option.some.inj (e.symm.trans (by rw [z]; exact hP)))) (ne_of_none e nC)]
      exact e
    have hTh : ∀ b, H b ≠ none → H2 b ≠ none := fun b hb => by
      by_cases h1 : b = c'
      · rw [h1, h2c]; exact fun z => by cases z
      · by_cases h2 : b = P
        · rw [h2, h2P]; exact fun z => by cases z
        · rw [at2 b h2 h1]; exact hb
    have eL : (ps ++ #[rawInt pos.line, rawInt pos.col, .ref c']).toList = ps.toList ++ [rawInt pos.line, rawInt pos.col, .ref c'] := by simp
    have T2 : Tabs T H2 := fun p hp => by
      by_cases hb : p.1 = P
      · rw [hu p hp hb, hb]
        refine ⟨_, h2P, by rw [eL]; exact PySem.TriplesOk_snoc _ _ _ _ ht, fun p' cv hcv => ?_⟩
        rw [eL] at hcv
        exact (among_app _ ht hcv).elim (fun z => let ⟨c0, e1, e2⟩ := ha p' cv z; ⟨c0, e1, hE _ _ e2 codeO_ne⟩) fun z => ⟨c', z, h2c⟩
      · obtain ⟨ps', a1, a2, a3⟩ := hT p hp
        exact ⟨ps', by rw [at2 _ hb (ne_of_none a1 nC)]; exact a1, a2, fun p' cv hcv => let ⟨c0, e1, e2⟩ := a3 p' cv hcv; ⟨c0, e1, hE _ _ e2 codeO_ne⟩⟩
    exact h h'.objs.size c' ((X.mg "__name__").getD .none) ctv H2 _ J hE hTh T2 (Heap.get?_push_size _ rfl)
      (by rw [at2 _ (Nat.ne_of_gt (Nat.lt_of_lt_of_le (Heap.lt_size hP') hsz)) (Nat.ne_of_gt hlt)]; exact I.hok.fresh hsz) (nofr _ hsz) h2c
  | some cv =>
    obtain ⟨c', e, hco⟩ := ha pos cv hc
    subst e
    refine PySem.W.kla_makeFunctionHit (mg := X.mg) (c := c) (P := P) (ps := ps) (closure_ok hfree) I.ok.glob (I.mod.glob.keeps I.bk) hcode (TB.code.keeps I.bk) hP' ht hc bP fun ctv h' tk hx hsz => ?_
    have J : Inv X pins σ H { s with heap := h'.push (PySem.W.kla_obj "<lambda>" (X.env.qual ++ "<lambda>") params body scope (cloFrom X.env.cells scope.names []) ((X.mg "__name__").getD .none) c' ctv), toks := tk } := I.kept fun b o e => Heap.get?_push_of_some _ (hx b o e)
    exact h h'.objs.size c' ((X.mg "__name__").getD .none) ctv H _ J (ExtN.refl H) (fun _ h => h) hT (Heap.get?_push_size _ rfl) (I.hok.fresh hsz) (nofr _ hsz) hco
/-- the parameters of a lambda: none, or one with an int as its default -/
def lamP (params : Arguments) (scope : Scope) : Bool := match params with
  | ⟨[], [], none, [], [], none, []⟩ => true
  | ⟨[], [⟨a, _, _⟩], none, [], [], none, [.Constant (.int _) _ _]⟩ => decide (scope.names.lookup a = some .local)
  | _ => false
theorem lam_made {T : List (Addr × Str)} {c P : Addr} {params : Arguments} {body : Expr} {scope : Scope} {pos : Pos} {E : Value → Shared → Prop} {Q : Value → Shared → Prop} (I : Inv X pins σ H s) (TB : TabB X.base X.mg c P) (hcode : X.env.code = .ref c)
    (hm : (P, X.env.qual ++ "<lambda>") ∈ T) (hu : ∀ p ∈ T, p.1 = P → p.2 = X.env.qual ++ "<lambda>") (hT : Tabs T H) (hp : lamP params scope = true) (L : LamN X.N X.env.scope scope)
    (h : ∀ (f c' : Addr) (fd : FuncData) (binds : List (Str × Value)) (H1 : Hp) (s' : Shared), Inv X pins σ H1 s' → ExtN H H1 → (∀ b, H b ≠ none → H1 b ≠ none) → Tabs T H1 → LamO X s' H1 body scope f c' fd binds → H1 c' = some (CodeO c' (X.env.qual ++ "<lambda>")) → Q (.ref f) s') :
    wpAny (model X.prog X.w) X.A (eval (.Lambda params body scope pos) X.env) Q E s := by
  unfold lamP at hp
  split at hp
  · exact lam_make0 I TB hcode hm hu hT rfl (L.has I.ok) fun f c' pm ctv H1 s' J e1 e2 t hf hn hfr hco => h f c' _ _ H1 s' J e1 e2 t (lamO_0 hf hn hfr rfl) hco
  · exact lam_makeD I TB hcode hm hu hT rfl rfl (L.has I.ok) fun f c' T₀ t pm ctv doc H1 s' J e1 e2 t' hf hn hfr h4 h5 h6 hco => h f c' _ _ H1 s' J e1 e2 t' (lamO_1 hf hn hfr h4 h5 h6 (of_decide_eq_true hp)) hco
  · cases hp
/-- what the def at g does with a lambda -/
def ToldOk (G : Gb) (P : Program) (w : World) (K : PySem.W.Frag) (mg : Str → Option Value) (base : Heap) (g : Addr) (ws : List Str) : Prop :=
  ∀ (X : Cx) (pins : List (Addr × Obj)) (τ : L2.St) (H : Hp) (s : Shared) (body : Expr) (scope : Scope) (f c' : Addr) (fd : FuncData) (binds : List (Str × Value)) (Av : Addr → Prop) (s3 : S3) (σ : Sg) (m : Sg → Hq → R Val) (Q : VK) (E : XK),
    X.prog = P → X.w = w → X.K = K → X.mg = mg → X.base = base → RoomG 3 X.A → Inv X pins τ H s → LamN X.N X.env.scope scope → LamO X s H body scope f c' fd binds → H c' = some (CodeO c' (X.env.qual ++ "<lambda>")) → s3.H = H → RepH G Av s3 → SR G Av s3 σ τ →
    (∀ (e1 : Env) (outer : List Env) (s : Shared) (H : Hp) (E : XK), PE (lamC X (X.A.deeper e1) outer s H E scope f c') body (tE G (fun c d _ H => E c d H) m)) →
    Post G E Av s3 (fun v y s' => VR G Av s' v y) (toldV ws (m σ s3.h)) Q →
    codeAny (model P w) X.A (.call (.ref g) ⟨[.ref f], []⟩) (CR (L2N.CX P w) X.stack P w H s Q E) s
theorem ext_step {G : Gb} {Av : Addr → Prop} {s : S3} {H1 : Hp} (rp : RepH G Av s) (e1 : ExtN s.H H1) (e2 : ∀ b, s.H b ≠ none → H1 b ≠ none) (ht : Tabs G.tb H1) : RepH G Av ⟨s.r, s.h, H1⟩ ∧ Stp s ⟨s.r, s.h, H1⟩ := by
  refine rp.grow ⟨fun a o h _ nt => e1 a o h nt, e2, fun a xs h => e1 _ _ h fun ps z => (by cases z), fun a ob w h => e1 _ _ h fun ps z => by cases z⟩ (fun n a e l => ?_) ht
  obtain ⟨u, hx, n1, _, _⟩ := rp.at_live e l
  rw [hx]
  exact e1 _ _ hx n1
/-- x(lambda: body) -/
theorem pe_told {G : Gb} {W : WX} {x : Str} {g c P : Addr} {ws : List Str} {params : Arguments} {body : Expr} {scope : Scope} {p lpos pos : Pos} {m : Sg → Hq → R Val} (hg : Gl X x) (hm : X.mg x = some (.ref g)) (hk : PySem.W.keepIn X.K (.ref g) = true) (T : ToldOk G X.prog X.w X.K X.mg X.base g ws) (hr : RoomG 3 X.A)
    (TB : TabB X.base X.mg c P) (hcode : X.env.code = .ref c) (hmT : (P, X.env.qual ++ "<lambda>") ∈ G.tb) (hu : ∀ p ∈ G.tb, p.1 = P → p.2 = X.env.qual ++ "<lambda>") (hp : lamP params scope = true) (L : LamN X.N X.env.scope scope) (pas : Passing X W)
    (hbody : ∀ (e1 : Env) (outer : List Env) (s : Shared) (H : Hp) (E : XK) (f c' : Addr), PE (lamC X (X.A.deeper e1) outer s H E scope f c') body (tE G (fun c d _ H => E c d H) m)) (hdb : (x == ("__debug__" : Str)) = false) :
    PE X (.Call (.Name x p) [.Lambda params body scope lpos] [] pos) (tE G W fun σ h => toldV ws (m σ h)) := by
  refine ⟨fun pins s τ H Q I ⟨Av, s3, σ, hH, rp, sr, po⟩ => ?_⟩
  subst hH
  refine wpAny_Call_Name_kw (ld_glob I hg hm ?_ hdb)
  refine PySem.W.callWith_K (h₀ := X.base) I.ok.mod.kin hk ?_ (by rfl) (by rfl)
  show wpAny _ _ (spliced ((false, eval (.Lambda params body scope lpos) X.env) :: backTo pos (starEach [] X.env))) _ _ s
  refine Calls.spliced_cons (lam_made I TB hcode hmT hu rp.tabs hp L fun f c' fd binds H1 s' I1 e1 e2 T1 lo hco => ?_)
  refine Calls.spliced_nil ⟨I1.kIn, ?_⟩
  obtain ⟨rp1, st1⟩ := ext_step rp e1 e2 T1
  have rc := T X pins τ H1 s' body scope f c' fd binds Av ⟨s3.r, s3.h, H1⟩ σ m Q (We W τ) rfl rfl rfl rfl rfl hr I1 L lo hco rfl rp1 (st1.sr rp1.nd sr) (fun e1 outer s H E => hbody e1 outer s H E f c') (Post.step (r := toldV ws (m σ s3.h)) po st1 rp1)
  refine wpAny_call (codeAny_mono rc fun r s2 hq => ?_)
  cases r with
  | error e => exact pas τ pins H1 s' e s2 I1 hq
  | ok fl =>
    cases fl with
    | ret u => exact I1.after hq
    | next => exact False.elim hq
    | brk => exact False.elim hq
    | cont => exact False.elim hq
end
end Ip

set_option linter.all false
set_option Elab.async false
set_option autoImplicit false
set_option maxRecDepth 100000
/-! More rules; facts about forms of expressions that hold in any environment. -/
namespace Ip
open PySem L2 PyProof.Rows

/-! ### forms -/
/-- neither starred, nor a set's display, nor a slice -/
def plainE : Expr → Bool
  | .Starred .. | .Set .. | .Slice .. => false
  | _ => true
/-- its truth is its value's -/
def plainT : Expr → Bool
  | .UnaryOp .. | .BoolOp .. | .IfExp .. | .Compare .. => false
  | _ => true
/-- no comprehension -/
def noComp : Expr → Bool
  | .ListComp .. | .SetComp .. | .DictComp .. => false
  | _ => true
def notCall : Expr → Bool
  | .Call .. => false
  | _ => true
def notTup : Expr → Bool
  | .Tuple .. => false
  | _ => true
theorem star_cons {e : Expr} (h : plainE e = true) (es : List Expr) (env : Env) : starEach (e :: es) env = (false, eval e env) :: starEach es env := by
  cases e <;> first | (cases h; done) | rfl
def plains : List Expr → Bool
  | [] => true
  | e :: es => plainE e && plains es
theorem back_plain (pos : Pos) (env : Env) : ∀ {es : List Expr}, plains es = true → (backTo pos (starEach es env)).any (·.1) = false
  | [], _ => rfl
  | e :: es, h => by
    simp only [plains, Bool.and_eq_true] at h
    rw [star_cons h.1]
    show (false || (backTo pos (starEach es env)).any (·.1)) = false
    rw [back_plain pos env h.2]; rfl
theorem isTrue_plain {e : Expr} (h : plainT e = true) (env : Env) : ∀ whole, isTrue e env whole = (do let v ← whole; standAt e.pos; holding [v] (truthy v)) := by
  cases e <;> first | (cases h; done) | (intro whole; rfl)
theorem plainIx_of {e : Expr} (h : plainE e = true) : PlainIx e := by
  cases e <;> first | (cases h; done) | (intro o i; rfl)
theorem base_of {e : Expr} (h : notCall e = true) (at_ : Str) (env : Env) (w : Sem Value) : attributeBase e at_ env w = w := by
  cases e <;> first | (cases h; done) | rfl
theorem swaps_no {e : Expr} (h : noComp e = true) (t : Option Expr) (l : Nat) (env : Env) : swapsWith e t l env = pure false := by
  cases e <;> first | (cases h; done) | rfl
theorem folded_of {e : Expr} (h : plainE e = true) (env : Env) (x : Value) : foldedSetIterable e env x = pure x := by
  cases e <;> first | (cases h; done) | rfl
theorem behind_of {e : Expr} (h : plainE e = true) (op : CmpOp) : behindInMarks op e = false := by
  cases e <;> first | (cases h; done) | rfl
theorem stores_no {t e : Expr} (h : notTup e = true) (env : Env) : swappedStores [t] e env = pure none := by
  cases e <;> first | (cases h; done) | (cases t <;> rfl)
theorem stores_no2 {t e : Expr} (h : (match t with | .Tuple .. => false | .List .. => false | _ => true) = true) (env : Env) : swappedStores [t] e env = pure none := by
  cases t <;> first | (cases h; done) | (cases e <;> rfl)
theorem sole_other {t e : Expr} (h : (match t with | .Name .. => false | _ => true) = true) (l : Nat) (env : Env) : swapsWithSole [t] e l env = pure false := by
  show swapsWith e (some t) l env = _
  cases t <;> first | (cases h; done) | (cases e <;> rfl)

section
variable {X : Cx} {G : Gb} {W : WX} {pos : Pos}
theorem ie_nev {e : Expr} : PE X e (tE G W fun _ _ => .no) := ⟨fun pins s τ H Q I ⟨Av, s3, σ, hH, rp, sr, p⟩ => p.elim⟩
theorem ip_frz {e : Expr} {m : Sg → Hq → R Val} (h : PE X e (tE G W m)) : PE X e (tE G W fun σ h => (m σ h).bind fun x h1 => (toD x h1).bind fun d h2 => .ok (.d d) h2) :=
  h.imp fun τ H Q ⟨Av, s, σ, hH, rp, sr, p⟩ => by
    subst hH
    refine ⟨Av, s, σ, rfl, rp, sr, ?_⟩
    revert p
    show Post G _ Av s _ ((m σ s.h).bind _) Q → _
    cases m σ s.h with
    | no => exact fun p => p
    | er e h => exact fun p => p
    | ok v h1 =>
      intro p s1 y e1 rp1 st1 q1
      subst e1
      have p : Post G (We W τ) Av s (fun v y s' => VR G Av s' v y) ((toD v s1.h).bind fun d h2 => .ok (.d d) h2) Q := p
      cases e : toD v s1.h with
      | no => rw [e] at p; exact p.elim
      | er x h => exact absurd e (toD_no_er _ _ _ _)
      | ok d h2 =>
        rw [e] at p
        obtain ⟨rp2, st2, d2⟩ := toD_ok rp1 q1 e
        exact p ⟨s1.r, h2, s1.H⟩ y rfl rp2 (st1.trans st2 rp1.nd rp1.len) (.d d2)
theorem ip_fmt {e : Expr} {m : Sg → Hq → R Val} (h : PE X e (tE G W m)) : PE X (.FormattedValue e (-1) none pos) (tE G W fun σ h => (m σ h).bind fun x h1 => match partS x with
    | some s => .ok (.d (.str s)) h1
    | none => .no) :=
  (pe_fmt h).imp fun τ H Q ⟨Av, s, σ, hH, rp, sr, p⟩ => by
    subst hH
    refine tE_bind rp sr p fun v y s1 rp1 st1 sr1 q1 p1 => ?_
    unfold partS at p1
    split at p1
    · rename_i z e
      split at e
      · rename_i z2
        split at e
        · rename_i hf
          cases e
          cases q1 with
          | d q1 =>
            cases q1
            exact .inl ⟨_, rfl, fits_line hf, p1.fin rp1 (.d (.str _))⟩
        · cases e
      · rename_i i
        split at e
        · rename_i hf
          cases e
          cases q1 with
          | d q1 =>
            cases q1
            exact .inr ⟨_, rfl, hf, p1.fin rp1 (.d (.str _))⟩
        · cases e
      · cases e
    · exact p1.elim
/-- parts -/
theorem jn_imp {F : Nat} {C : List Orc} {τ : L2.St} {σ : Sg} {Av : Addr → Prop} : ∀ (xs : List Ex) (acc : Str) (s : S3) (Q : Str → Hp → Prop), RepH G Av s → SR G Av s σ τ →
    Post G (We W τ) Av s (fun v y _ => v = y) (evJ F C xs acc σ s.h) Q → tJs (xs.map fun x => tE G W (ev F C x)) acc τ s.H Q
  | [], acc, s, Q, rp, sr, p => p s acc rfl rp (Stp.refl _) rfl
  | x :: xs, acc, s, Q, rp, sr, p => by
    show tE G W (ev F C x) τ s.H _
    unfold evJ at p
    refine tE_bind rp sr p fun v y s1 rp1 st1 sr1 q1 p1 => ?_
    split at p1
    · split at p1
      · rename_i z hf
        cases q1 with
        | d q1 =>
          cases q1
          exact ⟨z, rfl, fits_line hf, jn_imp xs _ s1 Q rp1 sr1 p1⟩
      · exact p1.elim
    · exact p1.elim
theorem ip_fst {F : Nat} {C : List Orc} {xs : List Ex} {v1 v2 : Expr} {rest : List Expr} (h : PJ X (v1 :: v2 :: rest) (xs.map fun x => tE G W (ev F C x))) :
    PE X (.JoinedStr (v1 :: v2 :: rest) pos) (tE G W fun σ h => (evJ F C xs Str.empty σ h).bind fun s h1 => .ok (.d (.str s)) h1) :=
  (pe_joined h).imp fun τ H Q ⟨Av, s, σ, hH, rp, sr, p⟩ => by
    subst hH
    refine jn_imp xs _ s _ rp sr ?_
    refine (p.bind (Rl := fun v y _ => v = y)).mono ?_
    rintro y H1 ⟨a, s1, rfl, rp1, st1, rfl, p1⟩
    exact p1.fin rp1 (.d (.str _))

/-! ### values and targets -/
theorem isn_nev {st : Stmt} : PS X st (tS G W fun _ _ => .no) := ⟨fun pins s τ H D I ⟨Av, s3, σ, hH, rp, sr, p⟩ => p.elim⟩
/-- a raised exception of a class of the text -/
structure ClsF (X : Cx) (G : Gb) (x : Str) (c : Nat) : Prop where
  ex : ∃ (C : Addr) (B newId initId : String) (bmB : List Value), G.ca[c]? = some C ∧ X.mg x = some (.ref C) ∧ ExcBaseFacts B newId initId bmB ∧ PySem.W.excIn X.K C bmB newId = true ∧ PySem.W.keepIn X.K (.ref C) = true ∧ Raises X (.ref C)
theorem is_rse {c : Nat} {x m : Str} {j : Nat} {p p2 p3 : Pos} (hc : X.calm = true) (tk : L2N.Takes X W) (f : ClsF X G x c) (hg : Gl X x) (hdb : (x == ("__debug__" : Str)) = false) :
    PS X (.Raise (some (.Call (.Name x p) [.Constant (.str m) j p2] [] p3)) none pos) (tS G W fun σ h => .er ⟨c, none⟩ σ h) := by
  obtain ⟨C, B, newId, initId, bmB, hC, hm, hF, hq, hk, hr⟩ := f.ex
  exact (L2N.ps_raise hc tk (L2N.pmk_own hF hq hm hk hr hg hdb)).imp fun D τ H ⟨Av, s, σ, hH, rp, sr, p⟩ => by
    subst hH
    exact p s (.ref C) none τ rfl rp (Stp.refl _) sr ⟨C, hC, rfl, fun _ => rfl⟩
/-- two names, two values -/
theorem swapped2 {env : Env} {x y : Str} {px py pt pt2 : Pos} {kt k2 : Nat} {a b : Expr} (hk : env.blockKind = .function) (hx : env.kindOf x = some .local) (hy : env.kindOf y = some .local) (hl : (py.line == px.line) = true) (hxy : (x == y) = false)
    (ha : plainE a = true) (hb : plainE b = true) (hf : (foldedForSure 8 a && foldedForSure 8 b) = false) (hcc : (constantsAlone 8 a && constantsAlone 8 b) = false) :
    swappedStores [.Tuple [.Name x px, .Name y py] kt pt] (.Tuple [a, b] k2 pt2) env = pure (some [x, y]) := by
  have s1 : ([a, b].any fun | .Starred .. => true | _ => false) = false := by
    cases a <;> first | (cases ha; done) | (cases b <;> first | (cases hb; done) | rfl)
  have hyx : (y == x) = false := by
    cases h : y == x with
    | false => rfl
    | true =>
      have := eq_of_beq h
      subst this
      simp at hxy
  unfold swappedStores
  have f1 : [a, b].all (foldedForSure 8) = false := by
    show (foldedForSure 8 a && (foldedForSure 8 b && true)) = false
    rw [Bool.and_true]; exact hf
  have f2 : [a, b].all (constantsAlone 8) = false := by
    show (constantsAlone 8 a && (constantsAlone 8 b && true)) = false
    rw [Bool.and_true]; exact hcc
  have l0 : (([Expr.Name x px, Expr.Name y py].head?.map (·.pos.line)).getD 0) = px.line := rfl
  have e2 : ([x, y].eraseDups.length != [x, y].length) = false := by
    simp [List.eraseDups_cons, hyx]
  simp only [l0, List.filterMap, hx, hy, hl, beq_self_eq_true, Bool.and_self, if_true, hk, bne_self_eq_false, Bool.or_false, s1, e2, f1, f2, Bool.false_eq_true, if_false]
  refine (if_neg (by simp)).trans ((if_neg fun z => ?_).trans (if_neg (by simp)))
  cases a <;> first | (cases ha; done) | (cases b <;> first | (cases hb; done) | (cases z; done))
end
end Ip

set_option linter.all false
set_option Elab.async false
set_option autoImplicit false
set_option maxRecDepth 100000
/-! The look at a text: that an expression of the evaluator is the text's. -/
namespace Ip
open PySem L2 PyProof.Rows

/-- the names around -/
structure Sc where
  N : List Str
  names : List (Str × NameKind)
  defs : List (Str × Nat)
  cls : List (Str × Nat)
  fn : Str → Bool
  hot : Bool
  lam : Bool
  told : Option (Str × List Str)
  gls : List (Str × Int)

section
variable (S : Sc)
def slotOk (i : Nat) (x : Str) : Bool := decide (S.N[i]? = some x)
def visOk (x : Str) : Bool := decide (S.names.lookup x = some .local) || decide (S.names.lookup x = some .cell) || decide (S.names.lookup x = some .free)
def glOk (x : Str) : Bool := decide (S.names.lookup x = some .globalImplicit)
def dbg (x : Str) : Bool := !(x == ("__debug__" : Str)) && !(x == ("__classdict__" : Str))
def kLit : D → Const → Bool
  | .none, .none => true
  | .bool a, .bool b => decide (a = b)
  | .int a, .int b => decide (a = b)
  | .str a, .str b => decide (a = b)
  | _, _ => false
def nmP : Prm → Str
  | .len => "len"
  | .abs => "abs"
  | .int => "int"
  | .str => "str"
  | .repr => "repr"
  | .sum => "sum"
  | .max1 => "max"
  | .min1 => "min"
  | .max2 => "max"
  | .min2 => "min"
  | .all => "all"
  | .any => "any"
/-- the built-ins' names that are used -/
def bltN : List Str := ["len", "abs", "int", "str", "repr", "sum", "max", "min", "all", "any", "range", "zip", "list", "tuple", "isinstance", "sorted", "set", "enumerate", "divmod"]
/-- a name that is stored -/
def stoOk (i : Nat) (x : Str) : Bool := slotOk S i x && (decide (S.names.lookup x = some .local) || (decide (S.names.lookup x = some .cell) && S.fn x))
def kNs : List Nat → List Expr → Bool
  | [], [] => true
  | i :: is, .Name x _ :: es => stoOk S i x && kNs is es
  | _, _ => false
def kG : Tgt → Expr → Bool
  | .nm i, .Name x _ => stoOk S i x
  | .tp is, .Tuple es _ _ => !S.hot && kNs S is es
  | _, _ => false
def ownN (own : List Nat) : List (Str × Nat) := own.map fun i => ((S.N[i]?).getD Str.empty, i)
def blkC (scope : Scope) (own : List Nat) : Bool :=
  decide (scope.kind = .function) && scope.names.all (fun y => decide (scope.names.lookup y.1 = some y.2)) && own.all (fun i => decide (i < S.N.length)) &&
    scope.names.all (fun y => !decide (y.2 = .free) || (decide (S.names.lookup y.1 = some .cell) || decide (S.names.lookup y.1 = some .free))) &&
    scope.names.all (fun y => !(decide (y.2 = .local) || decide (y.2 = .cell)) || (decide (y.1 ∈ (ownN S own).map (·.1)) || decide (y.1 ∉ S.N)))
/-- the names within a comprehension -/
def inN (scope : Scope) : Sc := { S with
  names := scope.names.map fun (n, k) => if (k == .free && S.names.lookup n == some .cell) then (n, .cell) else (n, k)
  fn := fun x => scope.names.lookup x == some .cell
  lam := false }
/-- the names within a lambda -/
def lamS (scope : Scope) : Sc := { S with names := scope.names, fn := fun _ => false, lam := false, hot := false }
def lamB (scope : Scope) : Bool :=
  decide (scope.kind = .function) && !scope.isCoroutine && !scope.isGenerator && scope.names.all (fun y => !decide (y.2 = .cell) && (!decide (y.2 = .local) || decide (y.1 ∉ S.N)) && (!decide (y.2 = .free) || (decide (S.names.lookup y.1 = some .cell) || decide (S.names.lookup y.1 = some .free))))
end
def isRng : Sx → Bool
  | .rng _ => true
  | _ => false

mutual
def kE : Nat → Sc → Ex → Expr → Bool
  | 0, _, _, _ => false
  | n + 1, S, x, e => match x, e with
    | .frz a, e => kE n S a e
    | .nev, e => true
    | .ofL l, e => kL n S l e
    | .new l, e => kL n S l e
    | .lit x, .Constant c _ _ => kLit x c
    | .var i, .Name x _ => slotOk S i x && visOk S x && dbg x
    | .fnv f, .Name x _ => decide (S.defs.lookup x = some f) && glOk S x && dbg x
    | .bin o a b, .BinOp ea op eb _ => decide (op = opOf o) && kE n S a ea && kE n S b eb
    | .neg a, .UnaryOp .USub ea _ => kE n S a ea
    | .not_ a, .UnaryOp .Not ea _ => kE n S a ea
    | .cmp o a b, .Compare ea [op] [eb] _ => decide (op = copOf o) && kE n S a ea && kE n S b eb && plainE eb
    | .chn o o' a b c, .Compare ea [op, op'] [eb, ec] _ => decide (op = copOf o) && decide (op' = copOf o') && kE n S a ea && kE n S b eb && kE n S c ec && plainE ec
    | .and_ a b, .BoolOp .And es _ => kVa n S (.and_ a b) es
    | .or_ a b, .BoolOp .Or es _ => kVo n S (.or_ a b) es
    | .ife c a b, .IfExp ec ea eb _ => kT n S c ec && kE n S a ea && kE n S b eb
    | .tup xs, .Tuple es _ _ => kEs n S xs es && decide (xs.length ≤ 1000)
    | .slc a lo hi, .Subscript ea (.Slice el eh none _) _ => kE n S a ea && kO n S lo el && kO n S hi eh
    | .ix a b, .Subscript ea eb _ => plainE eb && kE n S a ea && kE n S b eb
    | .call f xs, .Call (.Name x _) es [] _ => decide (S.defs.lookup x = some f) && glOk S x && dbg x && kEs n S xs es
    | .prm p (x :: xs), .Call (.Name nm _) (e :: es) [] _ => decide (nm = nmP p) && glOk S nm && (!S.hot || cool p) && kEs n S (x :: xs) (e :: es)
    | .app o a, .Call (.Attribute eo at_ ap) [ea] [] pos => decide (at_ = ("append" : Str)) && notCall eo && (ap.endLine == pos.line) && plainE ea && kE n S o eo && kE n S a ea
    | .fmt a, .FormattedValue ea c none _ => decide (c = -1) && kE n S a ea
    | .fmt a, .JoinedStr [.FormattedValue ea c none _] _ => decide (c = -1) && kE n S a ea
    | .fst xs, .JoinedStr (e1 :: e2 :: es) _ => kEs n S xs (e1 :: e2 :: es)
    | .tupO a, .Call (.Name x _) [ea] [] _ => decide (x = ("tuple" : Str)) && glOk S x && plainE ea && kE n S a ea
    | .pop o, .Call (.Attribute eo at_ ap) [] [] pos => decide (at_ = ("pop" : Str)) && notCall eo && (ap.endLine == pos.line) && kE n S o eo
    | .told ws a, .Call (.Name x _) [.Lambda params body scope _] [] _ => S.lam && !S.hot && decide (S.told = some (x, ws)) && glOk S x && dbg x && lamP params scope && lamB S scope && kE n (lamS S scope) a body
    | .ext o l, .Call (.Attribute eo at_ ap) [el] [] pos => decide (at_ = ("extend" : Str)) && notCall eo && (ap.endLine == pos.line) && plainE el && kE n S o eo && kL n S l el
    | .tix o a, .Call (.Attribute eo at_ ap) [ea] [] pos => decide (at_ = ("index" : Str)) && notCall eo && (ap.endLine == pos.line) && plainE ea && kE n S o eo && kE n S a ea
    | .tupX xs, .Tuple es _ _ => kEs n S xs es && decide (xs.length ≤ 1000)
    | .repX a b, .BinOp ea .Mult eb _ => kE n S a ea && kE n S b eb
    | .tupL a, .Call (.Name x _) [ea] [] _ => decide (x = ("tuple" : Str)) && glOk S x && plainE ea && kE n S a ea
    | .dvm a b, .Call (.Name x _) [ea, eb] [] _ => decide (x = ("divmod" : Str)) && glOk S x && plainE ea && plainE eb && kE n S a ea && kE n S b eb
    | .lset a, .Call (.Name x _) [.Call (.Name y _) [ea] [] _] [] _ => decide (x = ("len" : Str)) && glOk S x && decide (y = ("set" : Str)) && glOk S y && !S.hot && plainE ea && kE n S a ea
    | .dnew _, .Dict [] [] _ => true
    | .ddsp t k v, .Dict [some ek] [ev] _ => t && kE n S k ek && kE n S v ev
    | .lit (.int i), .Name x _ => decide (S.gls.lookup x = some i) && glOk S x && dbg x
    | _, _ => false
/-- as a test -/
def kT : Nat → Sc → Ex → Expr → Bool
  | 0, _, _, _ => false
  | n + 1, S, x, e => match x, e with
    | .not_ a, .UnaryOp .Not ea _ => kT n S a ea
    | .cmp o a b, .Compare ea [op] [eb] _ => decide (op = copOf o) && kE n S a ea && kE n S b eb && plainE eb
    | .chn o o' a b c, .Compare ea [op, op'] [eb, ec] _ => decide (op = copOf o) && decide (op' = copOf o') && kE n S a ea && kE n S b eb && kE n S c ec && plainE ec
    | .and_ a b, .BoolOp .And es _ => kTa n S (.and_ a b) es
    | .or_ a b, .BoolOp .Or es _ => kTo n S (.or_ a b) es
    | .ife c a b, .IfExp ec ea eb _ => kT n S c ec && kT n S a ea && kT n S b eb
    | x, e => plainT e && kE n S x e
def kVa : Nat → Sc → Ex → List Expr → Bool
  | 0, _, _, _ => false
  | n + 1, S, x, es => match x, es with
    | .and_ a b, e :: e' :: r => kE n S a e && kVa n S b (e' :: r)
    | x, [e] => kE n S x e
    | _, _ => false
def kVo : Nat → Sc → Ex → List Expr → Bool
  | 0, _, _, _ => false
  | n + 1, S, x, es => match x, es with
    | .or_ a b, e :: e' :: r => kE n S a e && kVo n S b (e' :: r)
    | x, [e] => kE n S x e
    | _, _ => false
def kTa : Nat → Sc → Ex → List Expr → Bool
  | 0, _, _, _ => false
  | n + 1, S, x, es => match x, es with
    | .and_ a b, e :: e' :: r => kT n S a e && kTa n S b (e' :: r)
    | x, [e] => kT n S x e
    | _, _ => false
def kTo : Nat → Sc → Ex → List Expr → Bool
  | 0, _, _, _ => false
  | n + 1, S, x, es => match x, es with
    | .or_ a b, e :: e' :: r => kT n S a e && kTo n S b (e' :: r)
    | x, [e] => kT n S x e
    | _, _ => false
def kEs : Nat → Sc → List Ex → List Expr → Bool
  | 0, _, _, _ => false
  | n + 1, S, xs, es => match xs, es with
    | [], [] => true
    | x :: xs, e :: es => plainE e && kE n S x e && kEs n S xs es
    | _, _ => false
def kL : Nat → Sc → Lx → Expr → Bool
  | 0, _, _, _ => false
  | n + 1, S, l, e => match l, e with
    | .dsp xs, .List es _ => kEs n S xs es
    | .lst a, .Call (.Name x _) [ea] [] _ => decide (x = ("list" : Str)) && glOk S x && plainE ea && kE n S a ea
    | .cat a b, .BinOp ea .Add eb _ => kE n S a ea && kE n S b eb
    | .rep l b, .BinOp el .Mult eb _ => kL n S l el && kE n S b eb
    | .cmp own t s ifs x, .ListComp elt [⟨tg, iter, ifs', k⟩] scope _ => (!S.hot || isRng s) && decide (k = 0) && plainE iter && kS n S s tg iter && blkC S scope own && (tgs t).all (fun i => decide (i ∈ own)) && kG (inN S scope) t tg && kI n (inN S scope) ifs ifs' && kE n (inN S scope) x elt
    | _, _ => false
def kS : Nat → Sc → Sx → Expr → Expr → Bool
  | 0, _, _, _, _ => false
  | n + 1, S, s, tg, e => match s, tg, e with
    | .val a, _, e => kE n S a e
    | .rng a, _, .Call (.Name x _) [ea] [] _ => decide (x = ("range" : Str)) && glOk S x && plainE ea && kE n S a ea
    | .rng2 a b, _, .Call (.Name x _) [ea, eb] [] _ => decide (x = ("range" : Str)) && glOk S x && plainE ea && plainE eb && kE n S a ea && kE n S b eb
    | .zip a b, .Tuple _ _ _, .Call (.Name x _) [ea, eb] [] _ => decide (x = ("zip" : Str)) && glOk S x && plainE ea && plainE eb && kE n S a ea && kE n S b eb
    | _, _, _ => false
def kI : Nat → Sc → List Ex → List Expr → Bool
  | 0, _, _, _ => false
  | n + 1, S, xs, es => match xs, es with
    | [], [] => true
    | [c], [e] => kT n S c e
    | _, _ => false
def kO : Nat → Sc → Option Ex → Option Expr → Bool
  | 0, _, _, _ => false
  | n + 1, S, x, e => match x, e with
    | none, none => true
    | some x, some e => kE n S x e
    | _, _ => false
end

/-- what holds of a def that is called -/
def FnFact (T : List Fn) (F k d : Nat) (G : Gb) (X : Cx) (x : Str) (f : Nat) : Prop := ∃ (a : Addr) (fd : FuncData) (ps : List Str) (fn : Fn), X.mg x = some (.ref a) ∧ G.fa[f]? = some a ∧ PySem.W.keepIn X.K (.ref a) = true ∧ T[f]? = some fn ∧
  ∀ (j : Nat), k = j + 1 → Binds X.K fd ps [] ∧ ∃ q, RoomG (q + d) X.A ∧ FnG X.prog X.w X.K X.mg X.base q a fd ps (spFn G F (orcs T F j) fn)
theorem FnFact.mono {T : List Fn} {F k d d' : Nat} {G : Gb} {X Y : Cx} {x : Str} {f : Nat} (h : FnFact T F k d G X x f) (e1 : Y.prog = X.prog) (e2 : Y.w = X.w) (e3 : Y.K = X.K) (e4 : Y.mg = X.mg) (e5 : Y.base = X.base) (hr : ∀ q, RoomG (q + d) X.A → RoomG (q + d') Y.A) : FnFact T F k d' G Y x f := by
  obtain ⟨a, fd, ps, fn, h1, h2, h3, h4, h5⟩ := h
  refine ⟨a, fd, ps, fn, by rw [e4]; exact h1, h2, by rw [e3]; exact h3, h4, fun j hj => ?_⟩
  obtain ⟨b, q, r, g⟩ := h5 j hj
  refine ⟨by rw [e3]; exact b, q, hr q r, ?_⟩
  rw [e1, e2, e3, e4, e5]; exact g
/-- what lambdas and the def that calls them ask -/
structure LamF (G : Gb) (X : Cx) (told : Option (Str × List Str)) : Prop where
  tb : ∃ c P, LamX.TabB X.base X.mg c P ∧ X.env.code = .ref c ∧ (P, X.env.qual ++ "<lambda>") ∈ G.tb ∧ ∀ p ∈ G.tb, p.1 = P → p.2 = X.env.qual ++ "<lambda>"
  room : RoomG 3 X.A
  td : ∀ x ws, told = some (x, ws) → ∃ g, X.mg x = some (.ref g) ∧ PySem.W.keepIn X.K (.ref g) = true ∧ ToldOk G X.prog X.w X.K X.mg X.base g ws
def dp (S : Sc) : Nat := if S.lam then 2 else 0
/-- where an expression of the text stands -/
structure Cok (T : List Fn) (F k : Nat) (S : Sc) (G : Gb) (W : WX) (X : Cx) : Prop where
  hN : X.N = S.N
  nd : S.N.Nodup
  nm : X.env.scope.names = S.names
  kind : X.env.scope.kind = .function
  calm : S.hot = false → Calm X
  un : X.A.units + 100 < cLine
  hotc : S.hot = true → L2H.HotC X
  lamF : S.lam = true → LamF G X S.told
  hK : G.K = X.K
  hP : G.P = X.prog ∧ G.w = X.w
  gls : ∀ x i, S.gls.lookup x = some i → ∃ t, X.mg x = some (.int i t)
  blt : ∀ x ∈ bltN, X.mg x = none
  fns : ∀ x f, S.defs.lookup x = some f → FnFact T F k (dp S) G X x f
  pas : Passing X W
  hf : ∀ x, S.fn x = true → X.fn x = true

section
variable {T : List Fn} {F k : Nat} {S : Sc} {G : Gb} {W : WX} {X : Cx}
theorem Cok.gx (c : Cok T F k S G W X) : GX G X := ⟨c.hK, c.hP⟩
theorem Cok.gl (c : Cok T F k S G W X) {x : Str} (h : glOk S x = true) : Gl X x := by
  unfold glOk at h
  show X.env.scope.names.lookup x = _
  rw [c.nm]
  exact of_decide_eq_true h
theorem dbg1 {x : Str} (h : dbg x = true) : (x == ("__debug__" : Str)) = false := by
  unfold dbg at h
  simp only [Bool.and_eq_true, Bool.not_eq_true'] at h
  exact h.1
theorem dbg2 {x : Str} (h : dbg x = true) : (x == ("__classdict__" : Str)) = false := by
  unfold dbg at h
  simp only [Bool.and_eq_true, Bool.not_eq_true'] at h
  exact h.2
theorem Cok.vis (c : Cok T F k S G W X) {x : Str} (h : visOk S x = true) : Vis X.env.scope x := by
  unfold visOk at h
  unfold Vis
  rw [c.nm]
  simp only [Bool.or_eq_true, decide_eq_true_eq] at h
  rcases h with (h | h) | h
  · exact .inl h
  · exact .inr (.inl h)
  · exact .inr (.inr h)
theorem Cok.slot (c : Cok T F k S G W X) {i : Nat} {x : Str} (h : slotOk S i x = true) : X.N[i]? = some x := by
  rw [c.hN]; exact of_decide_eq_true h
theorem Cok.sto (c : Cok T F k S G W X) {i : Nat} {x : Str} {pos : Pos} (h : stoOk S i x = true) : PG X (.Name x pos) (gName i) := by
  unfold stoOk at h
  simp only [Bool.and_eq_true, Bool.or_eq_true, decide_eq_true_eq] at h
  refine pg_name (by rw [c.hN]; exact c.nd) (c.slot h.1) ?_ ?_
  · unfold L2.Loc
    rw [c.nm]
    rcases h.2 with q | q
    · exact .inl q
    · exact .inr q.1
  · rcases h.2 with q | q
    · right
      rw [c.nm]; exact q
    · exact .inl (c.hf x q.2)
theorem kNs_ok (c : Cok T F k S G W X) : ∀ {is : List Nat} {es : List Expr}, kNs S is es = true → PGs X es (gNames is) ∧ (assignEach es X.env).length = is.length ∧ (assignEach es X.env).findIdx? (·.1) = none
  | [], [], _ => ⟨pgs_nil, rfl, rfl⟩
  | i :: is, .Name x p :: es, h => by
    unfold kNs at h
    simp only [Bool.and_eq_true] at h
    obtain ⟨h1, h2, h3⟩ := kNs_ok c h.2
    have e : assignEach (.Name x p :: es) X.env = (false, assign (.Name x p) X.env) :: assignEach es X.env := rfl
    refine ⟨pgs_cons (c.sto h.1) h1 rfl, ?_, ?_⟩
    · rw [e, List.length_cons, h2]; rfl
    · rw [e, List.findIdx?_cons, h3]; rfl
  | [], _ :: _, h => by simp [kNs] at h
  | _ :: _, [], h => by simp [kNs] at h
theorem kG_ok (c : Cok T F k S G W X) {t : Tgt} {tg : Expr} (h : kG S t tg = true) : PG X tg (tG G t) := by
  unfold kG at h
  split at h
  · exact ig_nm (c.sto h)
  · simp only [Bool.and_eq_true, Bool.not_eq_true'] at h
    obtain ⟨h1, h2, h3⟩ := kNs_ok c h.2
    exact ig_tp c.hK (pg_tup (c.calm h.1).calm h1 h2 h3) (pg_unl (c.calm h.1).calm h1 h2 h3)
  · cases h
end
end Ip

set_option linter.all false
set_option Elab.async false
set_option autoImplicit false
set_option maxRecDepth 100000
/-! The look is right: expressions. -/
namespace Ip
open PySem L2 PyProof.Rows

section
variable {T : List Fn} {F k : Nat} {S : Sc} {G : Gb} {W : WX} {X : Cx}
theorem Cok.blk (c : Cok T F k S G W X) {scope : Scope} {own : List Nat} (hnh : S.hot = false) (hb : blkC S scope own = true) (s : Shared) (H : Hp) (C : Addr) (cl : List (Str × Addr)) (fp : List Addr) :
    Cok T F k (inN S scope) G W0 (X.blk s H scope (compEnvC scope cl C X.env) fp) := by
  unfold blkC at hb
  simp only [Bool.and_eq_true, decide_eq_true_eq] at hb
  refine ⟨c.hN, c.nd, ?_, hb.1.1.1.1, fun h => let z := c.calm h; ⟨z.calm, z.un, z.gd⟩, c.un, fun h => absurd (hnh.symm.trans h) Bool.false_ne_true, fun h => (by cases h), c.hK, c.hP, c.gls, c.blt, fun x f h => (c.fns x f h).mono rfl rfl rfl rfl rfl fun q r => r.mono (Nat.le_add_right _ _), Passing.never, fun x h => h⟩
  show (relabel scope X.env).names = (inN S scope).names
  unfold relabel inN
  have hk : (X.env.scope.kind == ScopeKind.function) = true := by rw [c.kind]; rfl
  have hn : ∀ n : Str, X.env.kindOf n = S.names.lookup n := fun n => by show X.env.scope.names.lookup n = _; rw [c.nm]
  simp only [hk, hn, Bool.and_true]
theorem Cok.blkH (c : Cok T F k S G W X) {scope : Scope} {own : List Nat} (hb : blkC S scope own = true) (s : Shared) (H : Hp) (C : Addr) (cl : List (Str × Addr)) (fp : List Addr) (p : Addr × Obj) (hp : L2H.Hot1 X.A p) :
    Cok T F k (inN S scope) G W0 (Ip.blkH X s H scope (compEnvC scope cl C X.env) fp p) := by
  unfold blkC at hb
  simp only [Bool.and_eq_true, decide_eq_true_eq] at hb
  refine ⟨c.hN, c.nd, ?_, hb.1.1.1.1, fun h => let z := c.calm h; ⟨z.calm, z.un, z.gd⟩, c.un, fun _ => ⟨p, hp, List.mem_singleton.mpr rfl⟩, fun h => (by cases h), c.hK, c.hP, c.gls, c.blt, fun x f h => (c.fns x f h).mono rfl rfl rfl rfl rfl fun q r => r.mono (Nat.le_add_right _ _), Passing.never, fun x h => h⟩
  show (relabel scope X.env).names = (inN S scope).names
  unfold relabel inN
  have hk : (X.env.scope.kind == ScopeKind.function) = true := by rw [c.kind]; rfl
  have hn : ∀ n : Str, X.env.kindOf n = S.names.lookup n := fun n => by show X.env.scope.names.lookup n = _; rw [c.nm]
  simp only [hk, hn, Bool.and_true]
theorem lam_ok (c : Cok T F k S G W X) {scope : Scope} (h : lamB S scope = true) : LamN X.N X.env.scope scope := by
  unfold lamB at h
  simp only [Bool.and_eq_true, decide_eq_true_eq, List.all_eq_true, Bool.or_eq_true, Bool.not_eq_true', decide_eq_false_iff_not] at h
  obtain ⟨⟨⟨h1, h2⟩, h3⟩, h4⟩ := h
  refine ⟨h1, h2, h3, fun y hy => (h4 y hy).1.1, fun y hy e => ?_, fun y hy e => ?_⟩
  · rw [c.hN]; exact (h4 y hy).1.2.resolve_left fun z => z e
  · rw [c.nm]; exact (h4 y hy).2.resolve_left fun z => z e
theorem Cok.lam (c : Cok T F k S G W X) {scope : Scope} (hl : S.lam = true) (h : lamB S scope = true) (e1 : Env) (outer : List Env) (s : Shared) (H : Hp) (E : XK) (f c' : Addr) :
    Cok T F k (lamS S scope) G (fun c d _ H => E c d H) (lamC X (X.A.deeper e1) outer s H E scope f c') := by
  have L := lam_ok c h
  have r1 : RoomG 1 (lamC X (X.A.deeper e1) outer s H E scope f c').A := ((c.lamF hl).room.deeper e1).deeper _
  have z := r1.calm (X := lamC X (X.A.deeper e1) outer s H E scope f c') rfl
  refine ⟨c.hN, c.nd, rfl, L.kind, fun _ => z, z.un, fun h => (by cases h), fun h => (by cases h), c.hK, c.hP, c.gls, c.blt, fun x f h => (c.fns x f h).mono rfl rfl rfl rfl rfl fun q r => ?_, Passing.of_takes (L2N.takes_of rfl rfl rfl rfl), fun x h => (by cases h)⟩
  have r : RoomG (q + 2) X.A := by unfold dp at r; rw [if_pos hl] at r; exact r
  exact (r.deeper e1).deeper _
theorem blk_ok (c : Cok T F k S G W X) {scope : Scope} {own : List Nat} (hb : blkC S scope own = true) : BlkOk X.N X.env.scope scope (ownN S own) := by
  unfold blkC at hb
  simp only [Bool.and_eq_true, decide_eq_true_eq, List.all_eq_true, Bool.or_eq_true, Bool.not_eq_true', decide_eq_false_iff_not, Bool.or_eq_false_iff] at hb
  obtain ⟨⟨⟨⟨h1, h2⟩, h3⟩, h4⟩, h5⟩ := hb
  refine ⟨h1, h2, fun p hp => ?_, fun y hy hf => ?_, fun y hy hl => ?_⟩
  · obtain ⟨i, hi, rfl⟩ := List.mem_map.mp hp
    rw [c.hN]
    have := List.getElem?_eq_getElem (h3 i hi)
    show S.N[i]? = some ((S.N[i]?).getD Str.empty)
    rw [this]; rfl
  · rw [c.nm]
    rcases h4 y hy with q | q
    · exact absurd hf q
    · exact q
  · rcases h5 y hy with q | q
    · exact absurd hl (by rcases hl with hl | hl <;> simp [hl] at q)
    · rw [c.hN]; exact q
theorem ownN_snd (own : List Nat) : (ownN S own).map (·.2) = own := by
  unfold ownN
  rw [List.map_map]
  exact List.map_id _

/-- what the look tells, at n steps -/
structure Snd (T : List Fn) (F k n : Nat) : Prop where
  e : ∀ {S : Sc} {G : Gb} {W : WX} {X : Cx} {x : Ex} {e : Expr}, Cok T F k S G W X → kE n S x e = true → PE X e (tE G W (ev F (orcs T F k) x))
  t : ∀ {S : Sc} {G : Gb} {W : WX} {X : Cx} {x : Ex} {e : Expr}, Cok T F k S G W X → kT n S x e = true → PT X e (tT G W (tst (ev F (orcs T F k) x)))
  va : ∀ {S : Sc} {G : Gb} {W : WX} {X : Cx} {x : Ex} {es : List Expr} {pos : Pos}, Cok T F k S G W X → kVa n S x es = true → PE X (.BoolOp .And es pos) (tE G W (ev F (orcs T F k) x))
  vo : ∀ {S : Sc} {G : Gb} {W : WX} {X : Cx} {x : Ex} {es : List Expr} {pos : Pos}, Cok T F k S G W X → kVo n S x es = true → PE X (.BoolOp .Or es pos) (tE G W (ev F (orcs T F k) x))
  ta : ∀ {S : Sc} {G : Gb} {W : WX} {X : Cx} {x : Ex} {es : List Expr} {pos : Pos}, Cok T F k S G W X → kTa n S x es = true → PW X (.BoolOp .And es pos) (tT G W (tst (ev F (orcs T F k) x)))
  to : ∀ {S : Sc} {G : Gb} {W : WX} {X : Cx} {x : Ex} {es : List Expr} {pos : Pos}, Cok T F k S G W X → kTo n S x es = true → PW X (.BoolOp .Or es pos) (tT G W (tst (ev F (orcs T F k) x)))
  es : ∀ {S : Sc} {G : Gb} {W : WX} {X : Cx} {xs : List Ex} {es : List Expr}, Cok T F k S G W X → kEs n S xs es = true → PA X es (tA G W (evs F (orcs T F k) xs)) ∧ plains es = true ∧ PJ X es (xs.map fun x => tE G W (ev F (orcs T F k) x)) ∧ xs.length = es.length
  l : ∀ {S : Sc} {G : Gb} {W : WX} {X : Cx} {x : Lx} {e : Expr}, Cok T F k S G W X → kL n S x e = true → PE X e (tL G W (evL F (orcs T F k) x))
  s : ∀ {S : Sc} {G : Gb} {W : WX} {X : Cx} {x : Sx} {tg e : Expr}, Cok T F k S G W X → kS n S x tg e = true → PI X tg e (tI G W (evS F (orcs T F k) x))
  i : ∀ {S : Sc} {G : Gb} {W : WX} {X : Cx} {xs : List Ex} {es : List Expr}, Cok T F k S G W X → kI n S xs es = true → PTs X es (tT G W (evI F (orcs T F k) xs))
  sh : ∀ {S : Sc} {G : Gb} {W : WX} {X : Cx} {x : Sx} {tg e : Expr}, Cok T F k S G W X → isRng x = true → kS n S x tg e = true → L2H.PIH X tg e (tI G W (evS F (orcs T F k) x))
  o : ∀ {S : Sc} {G : Gb} {W : WX} {X : Cx} {x : Option Ex} {e : Option Expr}, Cok T F k S G W X → kO n S x e = true → PO X e (tO G W (evO F (orcs T F k) x))
theorem evs_len (F : Nat) (C : List Orc) : ∀ (xs : List Ex) (σ : Sg) (h : Hq) (vs : List Val) (h' : Hq), evs F C xs σ h = .ok vs h' → vs.length = xs.length
  | [], σ, h, vs, h', e => by simp only [evs] at e; cases e; rfl
  | x :: xs, σ, h, vs, h', e => by
    simp only [evs] at e
    cases e1 : ev F C x σ h with
    | no => rw [e1] at e; cases e
    | er a b => rw [e1] at e; cases e
    | ok v h1 =>
      rw [e1] at e
      simp only [R.bind_ok] at e
      cases e2 : evs F C xs σ h1 with
      | no => rw [e2] at e; cases e
      | er a b => rw [e2] at e; cases e
      | ok ws h2 =>
        rw [e2] at e
        cases e
        rw [List.length_cons, List.length_cons, evs_len F C xs _ _ _ _ e2]
theorem kLit_ok {x : D} {c : Const} {j : Nat} {pos : Pos} (h : kLit x c = true) : PE X (.Constant c j pos) (tE G W fun _ h => .ok (.d x) h) := by
  unfold kLit at h
  split at h
  · exact ip_lit pe_non rfl
  · rw [of_decide_eq_true h]; exact ip_lit pe_bl rfl
  · rw [of_decide_eq_true h]; exact ip_lit pe_int rfl
  · rw [of_decide_eq_true h]; exact ip_lit pe_str rfl
  · cases h
theorem prm_ok (c : Cok T F k S G W X) {p : Prm} {e : Expr} {es : List Expr} {px pos : Pos} {ms : Sg → Hq → R (List Val)} (hc : (!S.hot || cool p) = true) (hg : glOk S (nmP p) = true) (ha : PA X (e :: es) (tA G W ms)) (hp : plains (e :: es) = true) :
    PE X (.Call (.Name (nmP p) px) (e :: es) [] pos) (tE G W fun σ h => (ms σ h).bind fun vs h1 => prmV p vs h1) := by
  have hg := c.gl hg
  simp only [plains, Bool.and_eq_true] at hp
  have st := star_cons hp.1 es X.env
  have bk := back_plain pos X.env hp.2
  have cm : cool p = false → Calm X := fun q => c.calm (by simp only [q, Bool.or_false, Bool.not_eq_true'] at hc; exact hc)
  have z : X.mg (nmP p) = none := c.blt _ (by cases p <;> decide)
  cases p
  · exact ip_prmB cm c.hK rfl hg z (by decide +kernel) ha (by decide) (by decide) st bk
  · exact ip_prmB cm c.hK rfl hg z (by decide +kernel) ha (by decide) (by decide) st bk
  · exact ip_prmT cm c.hK rfl hg z (by decide +kernel) ha (by decide) (by decide) st bk
  · exact ip_prmT cm c.hK rfl hg z (by decide +kernel) ha (by decide) (by decide) st bk
  · exact ip_prmB cm c.hK rfl hg z (by decide +kernel) ha (by decide) (by decide) st bk
  · exact ip_prmB cm c.hK rfl hg z (by decide +kernel) ha (by decide) (by decide) st bk
  · exact ip_prmB cm c.hK rfl hg z (by decide +kernel) ha (by decide) (by decide) st bk
  · exact ip_prmB cm c.hK rfl hg z (by decide +kernel) ha (by decide) (by decide) st bk
  · exact ip_prmB cm c.hK rfl hg z (by decide +kernel) ha (by decide) (by decide) st bk
  · exact ip_prmB cm c.hK rfl hg z (by decide +kernel) ha (by decide) (by decide) st bk
  · exact ip_prmB cm c.hK rfl hg z (by decide +kernel) ha (by decide) (by decide) st bk
  · exact ip_prmB cm c.hK rfl hg z (by decide +kernel) ha (by decide) (by decide) st bk
theorem call_ok' (c : Cok T F k S G W X) {f : Nat} {x : Str} {es : List Expr} {px pos : Pos} {xs : List Ex} (hd : S.defs.lookup x = some f) (hg : glOk S x = true) (hb : dbg x = true) (ha : PA X es (tA G W (evs F (orcs T F k) xs))) (hp : plains es = true) (hl : xs.length = es.length) :
    PE X (.Call (.Name x px) es [] pos) (tE G W (ev F (orcs T F k) (.call f xs))) := by
  obtain ⟨a, fd, ps, fn, hm, hfa, hk, hT, hF⟩ := c.fns x f hd
  cases k with
  | zero => exact ie_nev.cong fun σ h => by simp only [ev, orcs]
  | succ j =>
    obtain ⟨hB, q, hr, hG⟩ := hF j rfl
    have hr := hr.mono (Nat.le_add_right q _)
    have key : ∀ {t : TA}, (∀ τ H Q, tA G W (evs F (orcs T F (j + 1)) xs) τ H Q → t τ H Q) → ∀ τ H Q, tE G W (ev F (orcs T F (j + 1)) (.call f xs)) τ H Q → tCallS (spFn G F (orcs T F j) fn) (WE W) t τ H Q := fun {t} ht τ H Q h => by
      refine call_imp ht τ H Q ?_
      have e : (ev F (orcs T F (j + 1)) (.call f xs)) = fun σ h => (evs F (orcs T F (j + 1)) xs σ h).bind fun vs h1 => callR F (orcs T F j) fn vs h1 := by
        funext σ h
        have e2 : orcs T F (j + 1) = (fun f vs h => match T[f]? with
          | some fn => callR F (orcs T F j) fn vs h
          | none => .no) :: orcs T F j := rfl
        rw [e2]
        simp only [ev, hT]
      rw [← e]; exact h
    cases es with
    | nil =>
      cases xs with
      | cons _ _ => cases hl
      | nil =>
        refine (pe_callG0 hG hr (c.gl hg) hm hk hB c.pas (dbg1 hb)).imp (key fun τ H Q ⟨Av, s, σ, hH, rp, sr, p⟩ => ?_)
        subst hH
        simp only [evs] at p
        exact p s [] rfl rp (Stp.refl _) .nil
    | cons e es =>
      simp only [plains, Bool.and_eq_true] at hp
      exact (pe_callG hG hr (c.gl hg) hm hk hB c.pas ha (dbg1 hb) (star_cons hp.1 es X.env) (back_plain pos X.env hp.2)).imp (key fun _ _ _ h => h)
end
end Ip

set_option linter.all false
set_option Elab.async false
set_option autoImplicit false
set_option maxRecDepth 100000
/-! The look is right: the steps. -/
namespace Ip
open PySem L2 PyProof.Rows
section
variable {T : List Fn} {F k : Nat} {S : Sc} {G : Gb} {W : WX} {X : Cx}
theorem _root_.L2.PA.cong {a : List Expr} {m m' : Sg → Hq → R (List Val)} (h : PA X a (tA G W m)) (e : ∀ σ h, m σ h = m' σ h) : PA X a (tA G W m') := by
  have : m = m' := by funext σ h; exact e σ h
  rw [← this]; exact h
theorem _root_.L2.PO.cong {a : Option Expr} {m m' : Sg → Hq → R (Option Int)} (h : PO X a (tO G W m)) (e : ∀ σ h, m σ h = m' σ h) : PO X a (tO G W m') := by
  have : m = m' := by funext σ h; exact e σ h
  rw [← this]; exact h
theorem _root_.L2.PI.cong {tg a : Expr} {m m' : Sg → Hq → R Sv} (h : PI X tg a (tI G W m)) (e : ∀ σ h, m σ h = m' σ h) : PI X tg a (tI G W m') := by
  have : m = m' := by funext σ h; exact e σ h
  rw [← this]; exact h
theorem _root_.L2.PTs.cong {a : List Expr} {m m' : Sg → Hq → R Bool} (h : PTs X a (tT G W m)) (e : ∀ σ h, m σ h = m' σ h) : PTs X a (tT G W m') := by
  have : m = m' := by funext σ h; exact e σ h
  rw [← this]; exact h
theorem _root_.L2.PE.lcong {a : Expr} {m m' : Sg → Hq → R (List Val)} (h : PE X a (tL G W m)) (e : ∀ σ h, m σ h = m' σ h) : PE X a (tL G W m') := by
  have : m = m' := by funext σ h; exact e σ h
  rw [← this]; exact h
theorem snd_e {n : Nat} (ih : Snd T F k n) {x : Ex} {e : Expr} (c : Cok T F k S G W X) (h : kE (n + 1) S x e = true) : PE X e (tE G W (ev F (orcs T F k) x)) := by
  have hu : X.A.units + 100 < cLine := c.un
  rw [kE.eq_def] at h
  simp only at h
  split at h
  · exact (ip_frz (ih.e c h)).cong fun σ h => by simp only [ev]
  · exact ie_nev.cong fun σ h => by simp only [ev]
  · exact (ip_ofL (ih.l c h)).cong fun σ h => by simp only [ev]
  · exact (ip_new (ih.l c h)).cong fun σ h => by simp only [ev]
  · exact (kLit_ok h).cong fun σ h => by simp only [ev]
  · simp only [Bool.and_eq_true] at h
    exact (ip_var (pe_var (c.slot h.1.1) (c.vis h.1.2) (dbg1 h.2) (dbg2 h.2))).cong fun σ h => by simp only [ev] <;> rfl
  · simp only [Bool.and_eq_true, decide_eq_true_eq] at h
    obtain ⟨a, fd, ps, fn, hm, hfa, _⟩ := c.fns _ _ h.1.1
    exact (ip_fnv (pe_glob (v := .ref a) (c.gl h.1.2) hm rfl (dbg1 h.2)) hfa).cong fun σ h => by simp only [ev]
  · simp only [Bool.and_eq_true, decide_eq_true_eq] at h
    rw [h.1.1]
    exact (ip_binA _ c.hK (ih.e c h.1.2) (ih.e c h.2)).cong fun σ h => by simp only [ev]
  · exact (ip_neg (ih.e c h)).cong fun σ h => by simp only [ev] <;> rfl
  · exact (ip_not c.hK (ih.e c h)).cong fun σ h => by simp only [ev]
  · simp only [Bool.and_eq_true, decide_eq_true_eq] at h
    rw [h.1.1.1]
    exact (ip_cmp _ c.gx hu (ih.e c h.1.1.2) (ih.e c h.1.2) (behind_of h.2 _)).cong fun σ h => by simp only [ev]
  · simp only [Bool.and_eq_true, decide_eq_true_eq] at h
    rw [h.1.1.1.1.1, h.1.1.1.1.2]
    exact (ip_chn _ _ c.gx hu (ih.e c h.1.1.1.2) (ih.e c h.1.1.2) (ih.e c h.1.2) (behind_of h.2 _)).cong fun σ h => by simp only [ev]
  · exact ih.va c h
  · exact ih.vo c h
  · simp only [Bool.and_eq_true, decide_eq_true_eq] at h
    exact (ip_ife (ih.t c h.1.1) (ih.e c h.1.2) (ih.e c h.2)).cong fun σ h => by simp only [ev]
  · simp only [Bool.and_eq_true, decide_eq_true_eq] at h
    refine (ip_tup (ih.es c h.1).1 fun σ h0 vs h' e => ?_).cong fun σ h => by simp only [ev]
    have := evs_len _ _ _ _ _ _ _ e
    have := h.2
    omega
  · simp only [Bool.and_eq_true, decide_eq_true_eq] at h
    exact (ip_slc c.hK (ih.e c h.1.1) (ih.o c h.1.2) (ih.o c h.2)).cong fun σ h => by simp only [ev]
  · simp only [Bool.and_eq_true, decide_eq_true_eq] at h
    exact (ip_ix c.gx hu (ih.e c h.1.2) (ih.e c h.2) (plainIx_of h.1.1)).cong fun σ h => by simp only [ev]
  · simp only [Bool.and_eq_true, decide_eq_true_eq] at h
    obtain ⟨h1, h2, _, h3⟩ := ih.es c h.2
    exact call_ok' c h.1.1.1 h.1.1.2 h.1.2 h1 h2 h3
  · simp only [Bool.and_eq_true, decide_eq_true_eq] at h
    obtain ⟨h1, h2, _, h3⟩ := ih.es c h.2
    have hg := h.1.1.2
    rw [h.1.1.1] at hg ⊢
    exact (prm_ok c h.1.2 hg h1 h2).cong fun σ h => by simp only [ev]
  · simp only [Bool.and_eq_true, decide_eq_true_eq] at h
    rw [h.1.1.1.1.1]
    exact (ip_app c.hK (ih.e c h.1.2) (ih.e c h.2) (base_of h.1.1.1.1.2 _ _ _) (star_cons h.1.1.2 [] X.env) h.1.1.1.2).cong fun σ h => by simp only [ev]
  · simp only [Bool.and_eq_true, decide_eq_true_eq] at h
    rw [h.1]
    exact (ip_fmt (ih.e c h.2)).cong fun σ h => by simp only [ev] <;> rfl
  · simp only [Bool.and_eq_true, decide_eq_true_eq] at h
    rw [h.1]
    exact (pe_joined1 (ip_fmt (ih.e c h.2))).cong fun σ h => by simp only [ev] <;> rfl
  · exact (ip_fst (ih.es c h).2.2.1).cong fun σ h => by simp only [ev]
  · simp only [Bool.and_eq_true, decide_eq_true_eq] at h
    have hg := c.gl h.1.1.2
    rw [h.1.1.1] at hg ⊢
    exact (ip_tupO c.hK hg (c.blt _ (by decide)) (ih.e c h.2) (star_cons h.1.2 [] _)).cong fun σ h => by simp only [ev]
  · simp only [Bool.and_eq_true, decide_eq_true_eq] at h
    rw [h.1.1.1]
    exact (ip_pop c.hK (ih.e c h.2) (base_of h.1.1.2 _ _ _) h.1.2).cong fun σ h => by simp only [ev]
  · simp only [Bool.and_eq_true, decide_eq_true_eq, Bool.not_eq_true'] at h
    obtain ⟨⟨⟨⟨⟨⟨⟨h1, h2⟩, h3⟩, h4⟩, h5⟩, h6⟩, h7⟩, h8⟩ := h
    obtain ⟨⟨cc, P, TB, hcode, hmT, hu2⟩, room, td⟩ := c.lamF h1
    obtain ⟨g, hm, hk, tk⟩ := td _ _ h3
    exact (pe_told (c.gl h4) hm hk tk room TB hcode hmT hu2 h6 (lam_ok c h7) c.pas (fun e1 outer s H E f c' => ih.e (c.lam h1 h7 e1 outer s H E f c') h8) (dbg1 h5)).cong fun σ h => by simp only [ev]
  · simp only [Bool.and_eq_true, decide_eq_true_eq] at h
    rw [h.1.1.1.1.1]
    exact (ip_ext c.hK (ih.e c h.1.2) (ih.l c h.2) (base_of h.1.1.1.1.2 _ _ _) (star_cons h.1.1.2 [] X.env) h.1.1.1.2).cong fun σ h => by simp only [ev]
  · simp only [Bool.and_eq_true, decide_eq_true_eq] at h
    rw [h.1.1.1.1.1]
    exact (ip_tix c.hK (ih.e c h.1.2) (ih.e c h.2) (base_of h.1.1.1.1.2 _ _ _) (star_cons h.1.1.2 [] X.env) h.1.1.1.2).cong fun σ h => by simp only [ev]
  · simp only [Bool.and_eq_true, decide_eq_true_eq] at h
    refine (ip_tupX (ih.es c h.1).1 fun σ h0 vs h' e => ?_).cong fun σ h => by simp only [ev]
    have := evs_len _ _ _ _ _ _ _ e
    have := h.2
    omega
  · simp only [Bool.and_eq_true] at h
    exact (ip_repX c.hK (ih.e c h.1) (ih.e c h.2)).cong fun σ h => by simp only [ev]
  · simp only [Bool.and_eq_true, decide_eq_true_eq] at h
    have hg := c.gl h.1.1.2
    rw [h.1.1.1] at hg ⊢
    exact (ip_tupL c.hK hg (c.blt _ (by decide)) (ih.e c h.2) (star_cons h.1.2 [] _)).cong fun σ h => by simp only [ev] <;> rfl
  · simp only [Bool.and_eq_true, decide_eq_true_eq] at h
    have hg := c.gl h.1.1.1.1.2
    rw [h.1.1.1.1.1] at hg ⊢
    exact (ip_dvm hg (c.blt _ (by decide)) (ih.e c h.1.2) (ih.e c h.2) ((star_cons h.1.1.1.2 _ _).trans (by rw [star_cons h.1.1.2]; rfl)) (star_cons h.1.1.2 [] _)).cong fun σ h => by simp only [ev]
  · simp only [Bool.and_eq_true, decide_eq_true_eq, Bool.not_eq_true'] at h
    obtain ⟨⟨⟨⟨⟨⟨h1, h2⟩, h3⟩, h4⟩, h5⟩, h6⟩, h7⟩ := h
    have hg := c.gl h2
    have hg2 := c.gl h4
    rw [h1] at hg ⊢
    rw [h3] at hg2 ⊢
    exact (ip_lset c.hK hg (c.blt _ (by decide)) hg2 (c.blt _ (by decide)) (ih.e c h7) (c.calm h5).calm (star_cons h6 [] _)).cong fun σ h => by simp only [ev]
  · rename_i t _
    exact (ip_dnew c.gx t).cong fun σ h => by simp only [ev]
  · simp only [Bool.and_eq_true] at h
    obtain ⟨⟨h1, h2⟩, h3⟩ := h
    rw [h1]
    exact (ip_ddsp c.gx hu (ih.e c h2) (ih.e c h3)).cong fun σ h => by simp only [ev]
  · simp only [Bool.and_eq_true, decide_eq_true_eq] at h
    obtain ⟨t, ht⟩ := c.gls _ _ h.1.1
    rename_i i _ _
    exact (ip_lit (x := .int i) (pe_glob (v := .int _) (c.gl h.1.2) ht ⟨t, rfl⟩ (dbg1 h.2)) rfl).cong fun σ h => by simp only [ev]
  · cases h
theorem snd_t {n : Nat} (ih : Snd T F k n) {x : Ex} {e : Expr} (c : Cok T F k S G W X) (h : kT (n + 1) S x e = true) : PT X e (tT G W (tst (ev F (orcs T F k) x))) := by
  have hu : X.A.units + 100 < cLine := c.un
  rw [kT.eq_def] at h
  simp only at h
  split at h
  · exact (ip_notT (ih.t c h)).cong fun σ h => by simp only [tst, ev]
  · simp only [Bool.and_eq_true, decide_eq_true_eq] at h
    rw [h.1.1.1]
    exact (ip_cmpT' _ c.gx hu (ih.e c h.1.1.2) (ih.e c h.1.2) (behind_of h.2 _)).cong fun σ h => by simp only [tst, ev]
  · simp only [Bool.and_eq_true, decide_eq_true_eq] at h
    rw [h.1.1.1.1.1, h.1.1.1.1.2]
    exact (ip_chnT _ _ c.gx hu (ih.e c h.1.1.1.2) (ih.e c h.1.1.2) (ih.e c h.1.2) (behind_of h.2 _)).cong fun σ h => by simp only [tst, ev]
  · exact (ih.ta c h).pt
  · exact (ih.to c h).pt
  · simp only [Bool.and_eq_true, decide_eq_true_eq] at h
    exact (ip_ifeT (ih.t c h.1.1) (ih.t c h.1.2) (ih.t c h.2)).cong fun σ h => by simp only [tst, ev]
  · simp only [Bool.and_eq_true] at h
    exact ip_tst c.hK (ih.e c h.2) (isTrue_plain h.1 _)
theorem snd_va {n : Nat} (ih : Snd T F k n) {x : Ex} {es : List Expr} {pos : Pos} (c : Cok T F k S G W X) (h : kVa (n + 1) S x es = true) : PE X (.BoolOp .And es pos) (tE G W (ev F (orcs T F k) x)) := by
  rw [kVa.eq_def] at h
  simp only at h
  split at h
  · simp only [Bool.and_eq_true] at h
    exact (ip_and c.hK (ih.e c h.1) (ih.va c h.2)).cong fun σ h => by simp only [ev]
  · exact ip_and1 (ih.e c h)
  · cases h
theorem snd_vo {n : Nat} (ih : Snd T F k n) {x : Ex} {es : List Expr} {pos : Pos} (c : Cok T F k S G W X) (h : kVo (n + 1) S x es = true) : PE X (.BoolOp .Or es pos) (tE G W (ev F (orcs T F k) x)) := by
  rw [kVo.eq_def] at h
  simp only at h
  split at h
  · simp only [Bool.and_eq_true] at h
    exact (ip_or c.hK (ih.e c h.1) (ih.vo c h.2)).cong fun σ h => by simp only [ev]
  · exact ip_and1 (ih.e c h)
  · cases h
theorem snd_ta {n : Nat} (ih : Snd T F k n) {x : Ex} {es : List Expr} {pos : Pos} (c : Cok T F k S G W X) (h : kTa (n + 1) S x es = true) : PW X (.BoolOp .And es pos) (tT G W (tst (ev F (orcs T F k) x))) := by
  rw [kTa.eq_def] at h
  simp only at h
  split at h
  · simp only [Bool.and_eq_true] at h
    exact (ip_andT (ih.t c h.1) (ih.ta c h.2)).cong fun σ h => by simp only [tst, ev]
  · exact ip_andT1 (ih.t c h)
  · cases h
theorem snd_to {n : Nat} (ih : Snd T F k n) {x : Ex} {es : List Expr} {pos : Pos} (c : Cok T F k S G W X) (h : kTo (n + 1) S x es = true) : PW X (.BoolOp .Or es pos) (tT G W (tst (ev F (orcs T F k) x))) := by
  rw [kTo.eq_def] at h
  simp only at h
  split at h
  · simp only [Bool.and_eq_true] at h
    exact (ip_orT (ih.t c h.1) (ih.to c h.2)).cong fun σ h => by simp only [tst, ev]
  · exact ip_orT1 (ih.t c h)
  · cases h
theorem snd_es {n : Nat} (ih : Snd T F k n) {xs : List Ex} {es : List Expr} (c : Cok T F k S G W X) (h : kEs (n + 1) S xs es = true) :
    PA X es (tA G W (evs F (orcs T F k) xs)) ∧ plains es = true ∧ PJ X es (xs.map fun x => tE G W (ev F (orcs T F k) x)) ∧ xs.length = es.length := by
  rw [kEs.eq_def] at h
  simp only at h
  split at h
  · refine ⟨ia_nil.cong fun σ h => by simp only [evs], rfl, .nil, rfl⟩
  · simp only [Bool.and_eq_true] at h
    obtain ⟨h1, h2, h3, h4⟩ := ih.es c h.2
    refine ⟨(ia_cons (ih.e c h.1.2) h1 (star_cons h.1.1 _ _)).cong fun σ h => by simp only [evs], ?_, .cons (ih.e c h.1.2) h3, by rw [List.length_cons, List.length_cons, h4]⟩
    simp only [plains, Bool.and_eq_true]
    exact ⟨h.1.1, h2⟩
  · cases h
theorem snd_o {n : Nat} (ih : Snd T F k n) {x : Option Ex} {e : Option Expr} (c : Cok T F k S G W X) (h : kO (n + 1) S x e = true) : PO X e (tO G W (evO F (orcs T F k) x)) := by
  rw [kO.eq_def] at h
  simp only at h
  split at h
  · exact io_none.cong fun σ h => by simp only [evO]
  · exact (io_some (ih.e c h)).cong fun σ h => by simp only [evO] <;> rfl
  · cases h
theorem snd_i {n : Nat} (ih : Snd T F k n) {xs : List Ex} {es : List Expr} (c : Cok T F k S G W X) (h : kI (n + 1) S xs es = true) : PTs X es (tT G W (evI F (orcs T F k) xs)) := by
  rw [kI.eq_def] at h
  simp only at h
  split at h
  · exact it_nil.cong fun σ h => by simp only [evI]
  · exact (it_one (ih.t c h)).cong fun σ h => by simp only [evI]
  · cases h
theorem snd_s {n : Nat} (ih : Snd T F k n) {x : Sx} {tg e : Expr} (c : Cok T F k S G W X) (h : kS (n + 1) S x tg e = true) : PI X tg e (tI G W (evS F (orcs T F k) x)) := by
  rw [kS.eq_def] at h
  simp only at h
  split at h
  · exact (ii_val c.hK (ih.e c h)).cong fun σ h => by simp only [evS]
  · simp only [Bool.and_eq_true, decide_eq_true_eq] at h
    have hg := c.gl h.1.1.2
    rw [h.1.1.1] at hg ⊢
    exact (ii_rng hg (c.blt _ (by decide)) (ih.e c h.2) (star_cons h.1.2 [] _)).cong fun σ h => by simp only [evS] <;> rfl
  · simp only [Bool.and_eq_true, decide_eq_true_eq] at h
    have hg := c.gl h.1.1.1.1.2
    rw [h.1.1.1.1.1] at hg ⊢
    exact (ii_rng2 hg (c.blt _ (by decide)) (ih.e c h.1.2) (ih.e c h.2) ((star_cons h.1.1.1.2 _ _).trans (by rw [star_cons h.1.1.2]; rfl)) (star_cons h.1.1.2 [] _)).cong fun σ h => by simp only [evS] <;> rfl
  · simp only [Bool.and_eq_true, decide_eq_true_eq] at h
    have hg := c.gl h.1.1.1.1.2
    rw [h.1.1.1.1.1] at hg ⊢
    exact (ii_zip c.hK hg (c.blt _ (by decide)) (ih.e c h.1.2) (ih.e c h.2) ((star_cons h.1.1.1.2 _ _).trans (by rw [star_cons h.1.1.2]; rfl)) (star_cons h.1.1.2 [] _)).cong fun σ h => by simp only [evS] <;> rfl
  · cases h
theorem _root_.L2H.PIH.cong {tg a : Expr} {m m' : Sg → Hq → R Sv} (h : L2H.PIH X tg a (tI G W m)) (e : ∀ σ h, m σ h = m' σ h) : L2H.PIH X tg a (tI G W m') := by
  have : m = m' := by funext σ h; exact e σ h
  rw [← this]; exact h
theorem snd_sh {n : Nat} (ih : Snd T F k n) {x : Sx} {tg e : Expr} (c : Cok T F k S G W X) (hr : isRng x = true) (h : kS (n + 1) S x tg e = true) : L2H.PIH X tg e (tI G W (evS F (orcs T F k) x)) := by
  rw [kS.eq_def] at h
  simp only at h
  split at h
  · cases hr
  · simp only [Bool.and_eq_true, decide_eq_true_eq] at h
    have hg := c.gl h.1.1.2
    rw [h.1.1.1] at hg ⊢
    exact (ii_rngH hg (c.blt _ (by decide)) (ih.e c h.2) (star_cons h.1.2 [] _)).cong fun σ h => by simp only [evS] <;> rfl
  · cases hr
  · cases hr
  · cases h
theorem snd_l {n : Nat} (ih : Snd T F k n) {x : Lx} {e : Expr} (c : Cok T F k S G W X) (h : kL (n + 1) S x e = true) : PE X e (tL G W (evL F (orcs T F k) x)) := by
  rw [kL.eq_def] at h
  simp only at h
  split at h
  · exact (il_dsp (ih.es c h).1).imp fun τ H Q h => by simpa only [evL] using h
  · simp only [Bool.and_eq_true, decide_eq_true_eq] at h
    have hg := c.gl h.1.1.2
    rw [h.1.1.1] at hg ⊢
    exact (il_lst c.hK hg (c.blt _ (by decide)) (ih.e c h.2) (star_cons h.1.2 [] _)).lcong fun σ h => by simp only [evL] <;> rfl
  · simp only [Bool.and_eq_true] at h
    exact (il_cat c.hK (ih.e c h.1) (ih.e c h.2)).lcong fun σ h => by simp only [evL]
  · simp only [Bool.and_eq_true] at h
    exact (il_rep (ih.l c h.1) (ih.e c h.2)).lcong fun σ h => by simp only [evL]
  · rename_i own t s ifs x elt tg iter ifs' kk scope pos
    simp only [Bool.and_eq_true, decide_eq_true_eq, List.all_eq_true, Bool.or_eq_true, Bool.not_eq_true'] at h
    obtain ⟨⟨⟨⟨⟨⟨⟨⟨hh, h0⟩, h1⟩, h2⟩, h3⟩, h4⟩, h5⟩, h6⟩, h7⟩ := h
    subst h0
    have hN : X.N.Nodup := by rw [c.hN]; exact c.nd
    have key : PE X (.ListComp elt [⟨tg, iter, ifs', 0⟩] scope pos) (tL G W (cmpM t ((ownN S own).map (·.2)) (evS F (orcs T F k) s) (evI F (orcs T F k) ifs) (ev F (orcs T F k) x))) := by
      cases hc : S.hot with
      | false =>
        exact il_cmp (t := t) (own := ownN S own) (c.calm hc).calm hN (ih.s c h2) (blk_ok c h3) (fun i hi => by rw [ownN_snd]; exact h4 i hi) (fun s H C cl fp => kG_ok (c.blk hc h3 s H C cl fp) h5)
          (fun s H C cl fp => ih.i (c.blk hc h3 s H C cl fp) h6) (fun s H C cl fp => ih.e (c.blk hc h3 s H C cl fp) h7) (folded_of h1 _)
      | true =>
        rw [hc] at hh
        exact (pe_lcH (own := ownN S own) (c.hotc hc) hN (ih.sh c (hh.resolve_left (by decide)) h2) (blk_ok c h3) (fun s H C cl fp p hp => kG_ok (t := t) (c.blkH h3 s H C cl fp p hp) h5)
          (fun s H C cl fp p hp => ih.i (c.blkH h3 s H C cl fp p hp) h6) (fun s H C cl fp p hp => ih.e (c.blkH h3 s H C cl fp p hp) h7) (folded_of h1 _)).imp (cmp_imp fun i hi => by rw [ownN_snd]; exact h4 i hi)
    refine key.imp fun τ H Q h => ?_
    rw [ownN_snd]
    have e : evL F (orcs T F k) (.cmp own t s ifs x) = cmpM t own (evS F (orcs T F k) s) (evI F (orcs T F k) ifs) (ev F (orcs T F k) x) := by
      funext σ h
      simp only [evL] <;> rfl
    rw [← e]; exact h
  · cases h
theorem snd (T : List Fn) (F k : Nat) : ∀ n, Snd T F k n
  | 0 => ⟨fun _ h => by simp [kE] at h, fun _ h => by simp [kT] at h, fun _ h => by simp [kVa] at h, fun _ h => by simp [kVo] at h, fun _ h => by simp [kTa] at h, fun _ h => by simp [kTo] at h, fun _ h => by simp [kEs] at h, fun _ h => by simp [kL] at h, fun _ h => by simp [kS] at h, fun _ h => by simp [kI] at h, fun _ _ h => by simp [kS] at h, fun _ h => by simp [kO] at h⟩
  | n + 1 => ⟨snd_e (snd T F k n), snd_t (snd T F k n), snd_va (snd T F k n), snd_vo (snd T F k n), snd_ta (snd T F k n), snd_to (snd T F k n), snd_es (snd T F k n), snd_l (snd T F k n), snd_s (snd T F k n), snd_i (snd T F k n), snd_sh (snd T F k n), snd_o (snd T F k n)⟩
end
end Ip

set_option linter.all false
set_option Elab.async false
set_option autoImplicit false
set_option maxRecDepth 100000
/-! The look at a text: statements. -/
namespace Ip
open PySem L2 PyProof.Rows

/-- does a comprehension's value go into the name in its own way -/
def swpC (S : Sc) (y : Str) (py : Pos) : Expr → Bool
  | .ListComp elt gs scope pos => (S.names.lookup y == some .local) && (py.line == pos.line) && !(scope.names.any fun (n, k) => n == y && (k == .local || k == .cell))
  | _ => false
def isLC : Expr → Bool
  | .ListComp .. => true
  | _ => false
def madeL : Ex → Bool
  | .ofL _ => true
  | .new _ => true
  | _ => false
def isTup : Expr → Bool
  | .Tuple .. => true
  | _ => false

mutual
def kSt (m : Nat) : Nat → Sc → St → Stmt → Bool
  | 0, _, _, _ => false
  | n + 1, S, s, st => match s, st with
    | .nev, _ => true
    | .set i e, .Assign [.Name x px] v _ => stoOk S i x && kE m S e v && (noComp v || (isLC v && (!swpC S x px v || madeL e)))
    | .par i j a b, .Assign [.Tuple [.Name x px, .Name y py] _ _] (.Tuple [ea, eb] _ _) _ => !S.hot && slotOk S i x && slotOk S j y && decide (S.names.lookup x = some .local) && decide (S.names.lookup y = some .local) && !decide (i = j) && !(x == y) && (py.line == px.line) &&
        plainE ea && plainE eb && !(foldedForSure 8 ea && foldedForSure 8 eb) && !(constantsAlone 8 ea && constantsAlone 8 eb) && kE m S a ea && kE m S b eb
    | .asg t e, .Assign [tg] v _ => isTup tg && notTup v && kG S t tg && kE m S e v
    | .six o i e, .Assign [.Subscript eo ei _] v _ => plainE ei && kE m S o eo && kE m S i ei && kE m S e v
    | .exp e, .Expr v _ => noComp v && kE m S e v
    | .pas, .Expr (.Constant (.str _) _ _) _ => true
    | .pas, .Pass _ => true
    | .iff c a b, .If ec as bs _ => kT m S c ec && kSts m n S a as && kSts m n S b bs
    | .for_ t s b, .For tg iter body [] _ => !S.hot && plainE iter && kS m S s tg iter && kG S t tg && kSts m n S b body
    | .whl c b, .While ec body [] _ => kT m S c ec && kSts m n S b body
    | .ret e, .Return (some v) _ => kE m S e v
    | .retN, .Return none _ => true
    | .brk, .Break _ => true
    | .cnt, .Continue _ => true
    | .rse c, .Raise (some (.Call (.Name x _) [.Constant (.str _) _ _] [] _)) none _ => !S.hot && decide (S.cls.lookup x = some c) && glOk S x && dbg x
    | _, _ => false
def kSts (m : Nat) : Nat → Sc → List St → List Stmt → Bool
  | 0, _, _, _ => false
  | n + 1, S, ss, sts => match ss, sts with
    | [], [] => true
    | s :: ss, st :: sts => kSt m n S s st && kSts m n S ss sts
    | _, _ => false
end
/-- where a statement of the text stands -/
structure Sok (T : List Fn) (F k : Nat) (S : Sc) (G : Gb) (W : WX) (X : Cx) : Prop extends Cok T F k S G W X where
  own : PassesOwn (model X.prog X.w) X.A X.env X.xe
  tk : L2N.Takes X W
  cl : ∀ x c, S.cls.lookup x = some c → ClsF X G x c

section
variable {T : List Fn} {F k : Nat} {S : Sc} {G : Gb} {W : WX} {X : Cx} {pos : Pos}
theorem _root_.L2.PS.cong {a : Stmt} {m m' : Sg → Hq → RF} (h : PS X a (tS G W m)) (e : ∀ σ h, m σ h = m' σ h) : PS X a (tS G W m') := by
  have : m = m' := by funext σ h; exact e σ h
  rw [← this]; exact h
theorem _root_.L2.PSs.cong {a : List Stmt} {m m' : Sg → Hq → RF} (h : PSs X a (tS G W m)) (e : ∀ σ h, m σ h = m' σ h) : PSs X a (tS G W m') := by
  have : m = m' := by funext σ h; exact e σ h
  rw [← this]; exact h
theorem swp_ok (c : Cok T F k S G W X) {y : Str} {py : Pos} {v : Expr} (h : isLC v = true) (l : Nat) : swapsWith v (some (.Name y py)) l X.env = pure (swpC S y py v) := by
  cases v <;> first | (cases h; done) | skip
  rename_i elt gs scope p
  have hb : X.env.blockKind = .function := by
    unfold Env.blockKind
    rw [c.kind]; rfl
  have hk : (X.env.kindOf y == some NameKind.local) = (S.names.lookup y == some .local) := by
    show (X.env.scope.names.lookup y == some NameKind.local) = _
    rw [c.nm]
  show (pure (X.env.blockKind == .function && X.env.kindOf y == some .local && py.line == p.line && !(scope.names.any fun (n, k) => n == y && (k == .local || k == .cell))) : Sem Bool) = _
  rw [hb, hk]
  rfl
theorem setLc_ok (c : Cok T F k S G W X) {n i : Nat} {y : Str} {py : Pos} {l : Lx} {v : Expr} (hv : isLC v = true) (hs : stoOk S i y = true) (hw : swpC S y py v = true) (h : kL n S l v = true) :
    ∃ te, PS X (.Assign [.Name y py] v pos) (tAsg te (gName i)) ∧ ∀ τ H Q, tL G W (evL F (orcs T F k) l) τ H Q → te τ H Q := by
  cases n with
  | zero => simp [kL] at h
  | succ n =>
  have ih := snd T F k n
  have hsw := swp_ok c (y := y) (py := py) hv pos.line
  rw [hw] at hsw
  rw [kL.eq_def] at h
  simp only at h
  split at h
  · cases hv
  · cases hv
  · cases hv
  · cases hv
  · rename_i own t s ifs x elt tg iter ifs' kk scope p
    simp only [Bool.and_eq_true, decide_eq_true_eq, List.all_eq_true, Bool.or_eq_true, Bool.not_eq_true'] at h
    obtain ⟨⟨⟨⟨⟨⟨⟨⟨hh, h0⟩, h1⟩, h2⟩, h3⟩, h4⟩, h5⟩, h6⟩, h7⟩ := h
    subst h0
    have hN : X.N.Nodup := by rw [c.hN]; exact c.nd
    have hl : X.env.scope.names.lookup y = some .local := by
      rw [c.nm]
      simp only [swpC, Bool.and_eq_true, beq_iff_eq] at hw
      exact hw.1.1
    simp only [stoOk, Bool.and_eq_true] at hs
    have key : PS X (.Assign [.Name y py] (.ListComp elt [⟨tg, iter, ifs', 0⟩] scope p) pos) (tAsg (tLc (tI G W (evS F (orcs T F k) s)) (tG G t) (tT G Ip.W0 (evI F (orcs T F k) ifs)) (tE G Ip.W0 (ev F (orcs T F k) x)) ((ownN S own).map (·.2))) (gName i)) := by
      cases hc : S.hot with
      | false =>
        exact ps_setLc (own := ownN S own) (c.calm hc).calm hN (c.slot hs.1) hl hsw (ih.s c h2) (blk_ok c h3) (fun s H C cl fp => kG_ok (t := t) (c.blk hc h3 s H C cl fp) h5)
          (fun s H C cl fp => ih.i (c.blk hc h3 s H C cl fp) h6) (fun s H C cl fp => ih.e (c.blk hc h3 s H C cl fp) h7) (folded_of h1 _)
      | true =>
        rw [hc] at hh
        exact ps_setLcH (own := ownN S own) (c.slot hs.1) hl hsw (c.hotc hc) hN (ih.sh c (hh.resolve_left (by decide)) h2) (blk_ok c h3) (fun s H C cl fp p hp => kG_ok (t := t) (c.blkH h3 s H C cl fp p hp) h5)
          (fun s H C cl fp p hp => ih.i (c.blkH h3 s H C cl fp p hp) h6) (fun s H C cl fp p hp => ih.e (c.blkH h3 s H C cl fp p hp) h7) (folded_of h1 _)
    refine ⟨_, key, fun τ H Q h => ?_⟩
    refine cmp_imp (fun i hi => by rw [ownN_snd]; exact h4 i hi) τ H Q ?_
    rw [ownN_snd]
    have e : evL F (orcs T F k) (.cmp own t s ifs x) = cmpM t own (evS F (orcs T F k) s) (evI F (orcs T F k) ifs) (ev F (orcs T F k) x) := by
      funext σ h
      simp only [evL] <;> rfl
    rw [← e]; exact h
  · cases h
theorem set_ok (c : Cok T F k S G W X) {m i : Nat} {x : Str} {px : Pos} {e : Ex} {v : Expr} (h1 : stoOk S i x = true) (h2 : kE m S e v = true) (h3 : (noComp v || (isLC v && (!swpC S x px v || madeL e))) = true) :
    PS X (.Assign [.Name x px] v pos) (tS G W (fun σ h => (ev F (orcs T F k) e σ h).thn σ fun v h1 => .ok (.nx (σ.set i (some v))) h1)) := by
  have hN : X.N.Nodup := by rw [c.hN]; exact c.nd
  have simple : swapsWith v (some (.Name x px)) pos.line X.env = pure false → PS X (.Assign [.Name x px] v pos) (tS G W (fun σ h => (ev F (orcs T F k) e σ h).thn σ fun v h1 => .ok (.nx (σ.set i (some v))) h1)) := fun hs => by
    refine (ps_asg ((snd T F k m).e c h2) (c.sto h1) hs (stores_no2 rfl _) rfl).imp (set_imp fun _ _ _ h => h)
  by_cases hv : noComp v = true
  · exact simple (swaps_no hv _ _ _)
  · simp only [Bool.not_eq_true] at hv
    rw [hv, Bool.false_or] at h3
    simp only [Bool.and_eq_true, Bool.or_eq_true, Bool.not_eq_true'] at h3
    obtain ⟨h3, h4⟩ := h3
    cases hw : swpC S x px v with
    | false => exact simple ((swp_ok c h3 _).trans (by rw [hw]))
    | true =>
      rw [hw] at h4
      replace h4 : madeL e = true := h4.resolve_left (by decide)
      cases m with
      | zero => simp [kE] at h2
      | succ m =>
      cases e <;> first | (cases h4; done) | skip
      · rename_i l
        have hl : kL m S l v = true := by
          rw [kE.eq_def] at h2
          exact h2
        obtain ⟨te, p, q⟩ := setLc_ok (pos := pos) c h3 h1 hw hl
        exact p.imp (set_imp fun τ H Q h => q τ H Q (ofL_imp τ H Q (by
          have e : ev F (orcs T F k) (.ofL l) = fun σ h => (evL F (orcs T F k) l σ h).bind fun vs h1 => (toDs vs h1).bind fun ds h2 => .ok (.d (.list ds)) h2 := by
            funext σ h; simp only [ev]
          rw [← e]; exact h)))
      · rename_i l
        have hl : kL m S l v = true := by
          rw [kE.eq_def] at h2
          exact h2
        obtain ⟨te, p, q⟩ := setLc_ok (pos := pos) c h3 h1 hw hl
        exact p.imp (set_imp fun τ H Q h => q τ H Q (new_imp τ H Q (by
          have e : ev F (orcs T F k) (.new l) = fun σ h => (evL F (orcs T F k) l σ h).bind fun vs h1 => .ok (.ref h1.length) (h1 ++ [.lst vs]) := by
            funext σ h; simp only [ev]
          rw [← e]; exact h)))

theorem snd_st (m : Nat) : ∀ (n : Nat), (∀ {s : St} {st : Stmt}, Sok T F k S G W X → kSt m n S s st = true → PS X st (tS G W (ex F (orcs T F k) s))) ∧ ∀ {ss : List St} {sts : List Stmt}, Sok T F k S G W X → kSts m n S ss sts = true → PSs X sts (tS G W (exs F (orcs T F k) ss))
  | 0 => ⟨fun _ h => by simp [kSt] at h, fun _ h => by simp [kSts] at h⟩
  | n + 1 => by
    have ih := snd_st m n
    have ie := snd T F k m
    refine ⟨fun {s st} so h => ?_, fun {ss sts} so h => ?_⟩
    · have c := so.toCok
      have hN : X.N.Nodup := by rw [c.hN]; exact c.nd
      rw [kSt.eq_def] at h
      simp only at h
      split at h
      · exact isn_nev.cong fun σ h => by simp only [ex]
      · simp only [Bool.and_eq_true] at h
        exact (set_ok c h.1.1 h.1.2 h.2).cong fun σ h => by simp only [ex]
      · simp only [Bool.and_eq_true, decide_eq_true_eq, Bool.not_eq_true', decide_eq_false_iff_not] at h
        obtain ⟨⟨⟨⟨⟨⟨⟨⟨⟨⟨⟨⟨⟨h0, h1⟩, h2⟩, h3⟩, h4⟩, h5⟩, h6⟩, h7⟩, h8⟩, h9⟩, h10⟩, h11⟩, h12⟩, h13⟩ := h
        have lx : ∀ {z : Str}, S.names.lookup z = some .local → X.env.scope.names.lookup z = some .local := fun q => by rw [c.nm]; exact q
        refine ((ps_par (ta := _) (c.calm h0).calm hN (c.slot h1) (c.slot h2) h5 (lx h3) (lx h4) (ia_cons (G := G) (W := W) (ie.e c h12) (ia_cons (ie.e c h13) ia_nil (star_cons h9 _ _)) (star_cons h8 _ _))
          (swapped2 (by unfold Env.blockKind; rw [c.kind]; rfl) (lx h3) (lx h4) h7 h6 h8 h9 h10 h11) rfl).imp (par_imp fun _ _ _ h => h)).cong fun σ h => by simp only [ex]
      · simp only [Bool.and_eq_true] at h
        obtain ⟨⟨⟨h1, h2⟩, h3⟩, h4⟩ := h
        refine (is_asg (ie.e c h4) (kG_ok c h3) (sole_other ?_ _ _) (stores_no h2 _) ?_).cong fun σ h => by simp only [ex] <;> rfl
        · rename_i tg _ _
          cases tg <;> first | (cases h1; done) | rfl
        · rename_i tg _ _
          cases tg <;> first | (cases h1; done) | rfl
      · simp only [Bool.and_eq_true] at h
        obtain ⟨⟨⟨h1, h2⟩, h3⟩, h4⟩ := h
        refine (is_six c.gx c.un (ie.e c h4) (ie.e c h2) (ie.e c h3) (sole_other rfl _ _) (stores_no2 rfl _) rfl ?_).cong fun σ h => by simp only [ex]
        rename_i ei _ _ _
        intro v
        cases ei <;> first | (cases h1; done) | rfl
      · simp only [Bool.and_eq_true] at h
        exact (is_exp (ie.e c h.2) (swaps_no h.1 _ _ _)).cong fun σ h => by simp only [ex]
      · exact is_doc.cong fun σ h => by simp only [ex]
      · exact is_pas.cong fun σ h => by simp only [ex]
      · simp only [Bool.and_eq_true] at h
        exact (is_iff (ie.t c h.1.1) (ih.2 so h.1.2) (ih.2 so h.2)).cong fun σ h => by simp only [ex]
      · simp only [Bool.and_eq_true, Bool.not_eq_true'] at h
        exact (is_for (F := F) so.own (c.calm h.1.1.1.1).calm (ie.s c h.1.1.2) (kG_ok c h.1.2) (ih.2 so h.2) (folded_of h.1.1.1.2 _)).cong fun σ h => by simp only [ex] <;> rfl
      · simp only [Bool.and_eq_true] at h
        exact (is_whl (F := F) so.own (ie.t c h.1) (ih.2 so h.2)).cong fun σ h => by simp only [ex]
      · exact (is_ret (ie.e c h)).cong fun σ h => by simp only [ex]
      · exact is_retN.cong fun σ h => by simp only [ex]
      · exact is_brk.cong fun σ h => by simp only [ex]
      · exact is_cnt.cong fun σ h => by simp only [ex]
      · simp only [Bool.and_eq_true, decide_eq_true_eq, Bool.not_eq_true'] at h
        exact (is_rse (c.calm h.1.1.1).calm so.tk (so.cl _ _ h.1.1.2) (c.gl h.1.2) (dbg1 h.2)).cong fun σ h => by simp only [ex]
      · cases h
    · rw [kSts.eq_def] at h
      simp only at h
      split at h
      · exact is_nil.cong fun σ h => by simp only [exs]
      · simp only [Bool.and_eq_true] at h
        exact (is_cons (ih.1 so h.1) (ih.2 so h.2)).cong fun σ h => by simp only [exs]
      · cases h
end
end Ip

set_option linter.all false
set_option Elab.async false
set_option autoImplicit false
set_option maxRecDepth 100000
/-! The def that tells how a call ended. -/
namespace Ip
open PySem PySem.Spec L2 PyProof.Rows LamX

/-- a look at the names of a def's scope -/
def scK (N P : List Str) (sc : Scope) : Bool :=
  decide (sc.kind = .function) && !sc.isCoroutine && !sc.isGenerator && decide N.Nodup && decide (N.take P.length = P) && P.all (fun x => decide (sc.names.lookup x = some .local) || decide (sc.names.lookup x = some .cell)) && sc.names.all (fun y => !decide (y.2 = .free))
theorem scK_ok {N P : List Str} {sc : Scope} (h : scK N P sc = true) : FnScope N P sc := by
  unfold scK at h
  simp only [Bool.and_eq_true, Bool.not_eq_true', decide_eq_true_eq, List.all_eq_true, Bool.or_eq_true, decide_eq_false_iff_not] at h
  exact ⟨h.1.1.1.1.1.1, h.1.1.1.1.1.2, h.1.1.1.1.2, h.1.1.1.2, h.1.1.2, h.1.2, h.2⟩
/-- such a def: its statement, its slots, the class that it catches, the classes that it asks for, the slot of the answers, what follows, the word and the answers of each class -/
structure TRow where
  x : Str
  st : Stmt
  N : List Str
  exc : Str
  cs : List Str
  kk : Nat
  rest : List St
  ws : List Str
  bs : List (List Bool)
def scT (t : TRow) : Sc := ⟨t.N, (defScope t.st).names, [], [], fun _ => true, true, false, none, []⟩
def isAll (S : Sc) (en : Str) : List Str → List Expr → Bool
  | [], [] => true
  | c :: cs, .Call (.Name f _) [.Name e _, .Name c' _] [] _ :: es => decide (f = "isinstance") && glOk S f && decide (e = en) && visOk S e && dbg e && decide (c' = c) && glOk S c && dbg c && isAll S en cs es
  | _, _ => false
def kFst (S : Sc) (en : Str) (kk : Nat) (cs : List Str) : Stmt → Bool
  | .Assign [.Name kn _] (.List es _) _ => stoOk S kk kn && isAll S en cs es
  | _ => false
def toldB (m n : Nat) (t : TRow) (a en : Str) : List Stmt → Bool
  | [.Try [.Return (some (.Tuple [.Constant (.str z) _ _, .Call (.Name a' _) [] [] _] _ _)) _] [.ExceptHandler (some (.Name e _)) (some n') (b0 :: suite) _] [] [] _] =>
      decide (z = "told") && decide (a' = a) && dbg a && visOk (scT t) a && decide (n' = en) && decide ((defScope t.st).names.lookup en = some .local) && glOk (scT t) e && dbg e && decide (e = t.exc) && kFst (scT t) en t.kk t.cs b0 && kSts m n (scT t) t.rest suite
  | _ => false
def toldC (m n : Nat) (t : TRow) : Bool := match t.N with
  | a :: en :: _ => t.bs.all (fun b => decide (b.length ≤ 1000)) && scK t.N [a] (defScope t.st) && toldB m n t a en (defBody t.st)
  | _ => false
/-- what isinstance says of a class's instances -/
def IsK (K : PySem.W.Frag) (mg : Str → Option Value) (D : Addr) : List Str → List Bool → Prop
  | [], [] => True
  | x :: xs, b :: bs => (∃ C : Addr, mg x = some (.ref C) ∧ PySem.W.kitOne K (.ref D) (.ref C) = some b) ∧ IsK K mg D xs bs
  | _, _ => False
/-- what stands of the classes -/
structure TellK (K : PySem.W.Frag) (mg : Str → Option Value) (ca : List Addr) (t : TRow) : Prop where
  ex : ∃ CS : Addr, mg t.exc = some (.ref CS) ∧ ∀ (c : Nat) (w : Str) (D : Addr), t.ws[c]? = some w → ca[c]? = some D → ExcC K D ∧ PySem.W.exmOne K (.ref D) (.ref CS) = some true ∧ IsK K mg D t.cs (t.bs.getD c [])
/-- what the suite makes of the answers -/
def Tells (F : Nat) (t : TRow) : Prop := ∀ (c : Nat) (w : Str) (C : List Orc) (h : Hq), t.ws[c]? = some w → exs F C t.rest ((List.replicate t.N.length none).set t.kk (some (.d (.list ((t.bs.getD c []).map .bool))))) h = .ok (.rt (.d (.tuple [.str w]))) h

section
variable {X : Cx} {G : Gb} {a D : Addr} {oe : Obj} {pn : List (Addr × Obj)}
theorem glS {S : Sc} {x : Str} (hn : X.env.scope.names = S.names) (h : glOk S x = true) : Gl X x := by
  unfold glOk at h
  show X.env.scope.names.lookup x = _
  rw [hn]; exact of_decide_eq_true h
theorem visS {S : Sc} {x : Str} (hn : X.env.scope.names = S.names) (h : visOk S x = true) : Vis X.env.scope x := by
  unfold visOk at h
  unfold Vis
  rw [hn]
  simp only [Bool.or_eq_true, decide_eq_true_eq] at h
  rcases h with (h | h) | h
  · exact .inl h
  · exact .inr (.inl h)
  · exact .inr (.inr h)
theorem is_all {S : Sc} {en : Str} {i : Nat} (hn : X.env.scope.names = S.names) (hi : X.N[i]? = some en) (hb : X.mg "isinstance" = none) (hC : ExcC X.K D) (hz : Zc (.ref D) none oe) (hf : ∃ vs, oe.data = .fields vs) :
    ∀ {cs : List Str} {es : List Expr} {bs : List Bool}, isAll S en cs es = true → IsK X.K X.mg D cs bs → PA (X.suite a ((a, oe) :: pn)) es (fun τ H Q => τ[i]? = some (some (.ref a)) ∧ Q (bs.map V.bl) H)
  | [], [], [], _, _ => pa_nil.imp fun τ H Q h => h.2
  | [], [], _ :: _, _, h => h.elim
  | c :: cs, [], _, h, _ => by simp [isAll] at h
  | [], _ :: _, _, h, _ => by simp [isAll] at h
  | c :: cs, e :: es, [], _, h => h.elim
  | c :: cs, e :: es, b :: bs, h, hk => by
    unfold isAll at h
    split at h
    · rename_i heq _; cases heq
    · rename_i c1 cs1 f p1 e1 p2 c' p3 p4 es1 heq1 heq2
      cases heq1; cases heq2
      simp only [Bool.and_eq_true, decide_eq_true_eq] at h
      obtain ⟨⟨⟨⟨⟨⟨⟨⟨h1, h2⟩, h3⟩, h4⟩, h5⟩, h6⟩, h7⟩, h8⟩, h9⟩ := h
      obtain ⟨⟨C, hm, hkt⟩, hk2⟩ := hk
      subst h1 h3 h6
      have pv : PE (X.suite a ((a, oe) :: pn)) (.Name e1 p2) (tVar i) := pe_var hi (visS (X := X.suite a ((a, oe) :: pn)) hn h4) (dbg1 h5) (dbg2 h5)
      have pc : PE (X.suite a ((a, oe) :: pn)) (.Name c' p3) (tC (.ref C)) := pe_glob (glS (X := X.suite a ((a, oe) :: pn)) hn h7) hm rfl (dbg1 h8)
      have p1 := pe_callB (X := X.suite a ((a, oe) :: pn)) (pos := p4) (p := p1) (call_isE (pn := pn) hC hz hf) (glS (X := X.suite a ((a, oe) :: pn)) hn h2) hb (by decide +kernel) (pa_cons pv (pa_cons pc pa_nil)) (by decide) (by decide) (by rfl) (by rfl)
      refine (pa_cons p1 (is_all hn hi hb hC hz hf h9 hk2) (by rfl)).imp fun τ H Q ⟨q1, q2⟩ => ?_
      exact ⟨.ref a, q1, .ref C, .ref C, b, rfl, fun u r => r, hkt, q1, q2⟩
    · cases h
end
end Ip

set_option linter.all false
set_option Elab.async false
set_option autoImplicit false
set_option maxRecDepth 100000
/-! The def that tells how a call ended: its promise. -/
namespace Ip
open PySem PySem.Spec L2 PyProof.Rows LamX
theorem tE_mono {G : Gb} {W : WX} {m : Sg → Hq → R Val} {τ : L2.St} {H : Hp} {Q Q' : VK} (h : tE G W m τ H Q) (q : ∀ v H, Q v H → Q' v H) : tE G W m τ H Q' := by
  obtain ⟨Av, s, σ, e, rp, sr, p⟩ := h
  exact ⟨Av, s, σ, e, rp, sr, p.mono q⟩
section
variable {X : Cx} {G : Gb} {a D : Addr} {oe : Obj} {pn : List (Addr × Obj)} {m n F : Nat} {t : TRow} {en : Str}
theorem suite_cok {S : Sc} {F : Nat} (hS : S.defs = []) (hh : S.hot = true) (hlm : S.lam = false) (hN : X.N = S.N) (hnd : S.N.Nodup) (hnm : X.env.scope.names = S.names) (hkd : X.env.scope.kind = .function) (hun : X.A.units + 100 < cLine) (hfn : ∀ x, X.fn x = true) (hb : ∀ x ∈ bltN, X.mg x = none) (hK : G.K = X.K) (hP : G.P = X.prog ∧ G.w = X.w) (hgl : S.gls = [])
    (hz : L2N.Zn (.ref D) none oe) (hf : ∃ vs, oe.data = .fields vs) : Cok [] F 0 S G Ip.W0 (X.suite a ((a, oe) :: pn)) := by
  refine ⟨hN, hnd, hnm, hkd, fun h => absurd (hh.symm.trans h) (by decide), hun, fun _ => ?_, fun h => absurd (hlm.symm.trans h) (by decide), hK, hP, fun x i h => (by rw [hgl] at h; cases h), hb, fun x f h => ?_, Passing.never, fun x _ => hfn x⟩
  · obtain ⟨vs, e⟩ := hf
    exact ⟨(a, oe), ⟨rfl, vs, e, hz.2.2 vs e⟩, List.mem_cons_self⟩
  · rw [hS] at h; cases h
theorem suite_ok {b0 : Stmt} {suite : List Stmt} (hN : X.N = t.N) (hnd : t.N.Nodup) (hnm : X.env.scope.names = (defScope t.st).names) (hkd : X.env.scope.kind = .function) (hun : X.A.units + 100 < cLine) (hfn : ∀ x, X.fn x = true) (hb : ∀ x ∈ bltN, X.mg x = none) (hK : G.K = X.K) (hP : G.P = X.prog ∧ G.w = X.w)
    (hz : L2N.Zn (.ref D) none oe) (hf : ∃ vs, oe.data = .fields vs) (hC : ExcC X.K D) (h1N : t.N[1]? = some en) (h1 : kFst (scT t) en t.kk t.cs b0 = true) (h2 : kSts m n (scT t) t.rest suite = true) {bs : List Bool} (hk : IsK X.K X.mg D t.cs bs) :
    PSs (X.suite a ((a, oe) :: pn)) (b0 :: suite) (fun E τ H => τ[1]? = some (some (.ref a)) ∧ bs.length ≤ sizeLine ∧ ∀ p, H p = none → tS G Ip.W0 (exs F (orcs [] F 0) t.rest) E (τ.set t.kk (some (.ref p))) (upd H p (.lst (bs.map V.bl)))) := by
  have c : Cok [] F 0 (scT t) G Ip.W0 (X.suite a ((a, oe) :: pn)) := suite_cok rfl rfl rfl hN hnd hnm hkd hun hfn hb hK hP rfl hz hf
  have so : Sok [] F 0 (scT t) G Ip.W0 (X.suite a ((a, oe) :: pn)) := ⟨c, fun e s h => h.elim, fun u s' x => by obtain ⟨_, _, _, _, _, _, _, _, _, _, _, _, _, _, _, _, z⟩ := x; exact z.elim, fun x c h => by cases h⟩
  unfold kFst at h1
  split at h1
  · rename_i kn px es p1 p2
    simp only [Bool.and_eq_true] at h1
    have pa := is_all (a := a) (pn := pn) hnm (by rw [hN]; exact h1N) (hb _ (by decide)) hC hz.zc hf h1.2 hk
    refine (pss_cons (ps_asg (pe_lst pa) (c.sto h1.1) (by rfl) (stores_no2 rfl _) rfl) ((snd_st m n).2 so h2)).imp fun E τ H ⟨q1, q2, q3⟩ => ?_
    exact ⟨q1, by rw [List.length_map]; exact q2, fun p hp => q3 p hp⟩
  · cases h1
end
theorem told_ok {P : Program} {w : World} {K : PySem.W.Frag} {mg : Str → Option Value} {base : Heap} {G : Gb} {g : Addr} {fd : FuncData} {m n F : Nat} {t : TRow} (hc : toldC m n t = true) (hb : ∀ x ∈ bltN, mg x = none) (fn : L2.Fun K t.x t.x t.st g fd)
    (bd : ∀ a r, t.N = a :: r → Binds K fd [a] []) (tk : TellK K mg G.ca t) (hK : G.K = K) (hP : G.P = P ∧ G.w = w) (tl : Tells F t) : ToldOk G P w K mg base g t.ws := by
  unfold toldC at hc
  split at hc
  case h_2 => cases hc
  rename_i a en r hN
  simp only [Bool.and_eq_true] at hc
  obtain ⟨⟨hbl, hsc⟩, hc⟩ := hc
  have Sg := scK_ok hsc
  unfold toldB at hc
  split at hc
  case h_2 => cases hc
  rename_i z j1 p1 a' p2 p3 kk p4 p5 e p6 n' b0 suite p7 p8 hbody0
  simp only [Bool.and_eq_true, decide_eq_true_eq] at hc
  obtain ⟨⟨⟨⟨⟨⟨⟨⟨⟨⟨h1, h2⟩, h3⟩, h4⟩, h5⟩, h6⟩, h7⟩, h8⟩, h9⟩, h10⟩, h11⟩ := hc
  subst h1 h2 h5
  obtain ⟨CS, hme, tk⟩ := tk.ex
  rw [← h9] at hme
  obtain ⟨oc, od, kV, doc, pm, an, cdv, ct, osl, rfl, lk, hcd⟩ := fn.ex
  have hbd := bd _ _ hN
  intro X pins τ H s body scope f c' fdl binds Av s3 σ mm Q E hP hw hK2 hmg hbase hr I L lo hco hH rp sr hbody p
  subst hP hw hK2 hmg hbase hH
  have hl : ∀ f : Addr, (L2.start t.N [V.ref f])[0]? = some (some (V.ref f)) := fun f => rfl
  refine LamX.run_ofS (CX := L2N.CX X.prog X.w) (N := t.N) (ps := [a']) (us := [.ref f]) (vs := [.ref f]) (k := 2) lk hcd Sg hr.rm I.env0 (hbd s [.ref f] I.kIn rfl) (.cons rfl .nil) rfl fun _ => ?_
  rw [hbody0]
  have hr2 := hr.deeper (envOfC t.x (defScope t.st) s.heap.objs.size g cdv)
  generalize hZ : cxOf (L2N.CX X.prog X.w) X.prog X.w X.K X.mg X.base t.N t.x (defScope t.st) g cdv X.A X.stack s s3.H E = Z
  have hln : Z.env.kindOf n' = some .local := by subst hZ; exact h6
  have tkz : L2N.Takes Z (fun _ _ _ _ => False) := fun u s' x => by obtain ⟨_, _, _, _, _, _, _, _, _, _, _, _, _, _, _, _, z⟩ := x; exact z.elim
  have try_ := L2N.ps_try_as (X := Z) (i := 1) (n := n') (x := e) (c := .ref CS) (Wout := fun _ _ _ _ => False) (np := p6) (pos := p8) (pos' := p7) (b₀ := b0) (suite := suite)
    (body := [.Return (some (.Tuple [.Constant (.str "told") j1 p1, .Call (.Name a' p2) [] [] p3] kk p4)) p5])
    (tb := fun Wt D τz Hz => ∃ Ech : XK, (∀ cls d σ' H', Ech cls d H' → Wt cls d σ' H') ∧ τz[0]? = some (some (.ref f)) ∧ Hz c' = some (CodeO c' (X.env.qual ++ "<lambda>")) ∧
      tE G (fun c d _ H => Ech c d H) mm τ Hz (fun v H1 => ∀ q, H1 q = none → D.rt (.ref q) (upd H1 q (.tup [.str "told", v]))))
    (ts := fun ax cls d D τz Hz => τz.length = t.N.length → ∃ (c : Nat) (w : Str) (C : Addr), t.ws[c]? = some w ∧ G.ca[c]? = some C ∧ cls = .ref C ∧ d = none ∧ τz[1]? = some (some (.ref ax)) ∧ (t.bs.getD c []).length ≤ sizeLine ∧ ∀ p, Hz p = none → tS G Ip.W0 (exs F (orcs [] F 0) t.rest) D (τz.set t.kk (some (.ref p))) (upd Hz p (.lst ((t.bs.getD c []).map V.bl))))
    (by subst hZ; rfl) (by subst hZ; rfl) (by subst hZ; exact Sg.nd) (by subst hZ; show t.N[1]? = _; rw [hN]; rfl) hln ⟨by subst hZ; exact glS (S := scT t) rfl h7, dbg1 h8, .inl (by subst hZ; exact hme)⟩ tkz ?_ ?_
  · refine ⟨_, pss_one try_, ?_⟩
    -- the reading
    refine ⟨fun cls d H' => ∃ (s' : S3) (c : Nat) (w : Str) (C : Addr), s'.H = H' ∧ RepH G Av s' ∧ t.ws[c]? = some w ∧ G.ca[c]? = some C ∧ cls = .ref C ∧ d = none ∧ ∀ (s4 : S3) (y : V), s4.h = s'.h → RepH G Av s4 → Stp s' s4 → VR G Av s4 (.d (.tuple [.str w])) y → Q y s4.H, ?_, hl f, hco, ⟨Av, s3, σ, rfl, rp, sr, ?_⟩⟩
    · rintro cls d σ' H' ⟨s', c, w, C, rfl, rp', hw, hC, rfl, rfl, hq⟩
      obtain ⟨hx, hxm, hk⟩ := tk c w C hw hC
      refine ⟨true, by subst hZ; exact hxm, fun _ ax hax hlen => ⟨c, w, C, hw, hC, rfl, rfl, ?_, ?_, fun p hp => ?_⟩, fun h => by cases h⟩
      · rw [List.length_set] at hlen
        rw [List.getElem?_set_self (by rw [hlen, hN]; simp)]
      · rw [List.getD_eq_getElem?_getD]
        cases eb : t.bs[c]? with
        | none => exact Nat.zero_le _
        | some b =>
          have := of_decide_eq_true (List.all_eq_true.mp hbl b (List.mem_of_getElem? eb))
          rw [sizeLine_eq]
          show b.length ≤ _
          omega
      · have hlen : σ'.length = t.N.length := by rw [List.length_set] at hlen; exact hlen
        obtain ⟨rp4, st4⟩ := rp'.upd_new (o := .lst ((t.bs.getD c []).map V.bl)) hp
        have nb : ¬ Bad Av ⟨s'.r, s'.h, upd s'.H p (.lst ((t.bs.getD c []).map V.bl))⟩ p := fun z => by
          rcases z with z | ⟨n, z, _⟩
          · exact rp'.av p z hp
          · exact rp'.trk p (List.mem_of_getElem? z) hp
        have bls : ∀ (bs : List Bool) (B : Addr → Prop) (H : Hp), DRs G.K H B (bs.map V.bl) (bs.map PyData.bool) := fun bs B H => by
          induction bs with
          | nil => exact .nil
          | cons b bs ih => exact .cons (.bl b) ih
        refine ⟨Av, ⟨s'.r, s'.h, upd s'.H p (.lst ((t.bs.getD c []).map V.bl))⟩, (List.replicate t.N.length none).set t.kk (some (.d (.list ((t.bs.getD c []).map .bool)))), rfl, rp4, ⟨by simp [hlen], fun i v ei => ?_⟩, ?_⟩
        · by_cases hi : t.kk = i
          · subst hi
            by_cases hlt : t.kk < t.N.length
            · rw [List.getElem?_set_self (by simpa using hlt)] at ei
              cases ei
              exact ⟨.ref p, by rw [List.getElem?_set_self (by simpa [hlen] using hlt)], .d (.lst (.inl ⟨.inl upd_same, nb⟩) (bls _ _ _))⟩
            · rw [List.getElem?_eq_none (by simp; omega)] at ei; cases ei
          · rw [List.getElem?_set_ne hi, List.getElem?_replicate] at ei
            split at ei <;> cases ei
        · show PoS G Ip.W0 Av _ (exs F (orcs [] F 0) t.rest _ s'.h) _
          rw [tl c w _ s'.h hw]
          intro s5 y e5 rp5 st5 v5
          exact hq s5 y e5 rp5 (st4.trans st5 rp4.nd rp4.len) v5
    · revert p
      cases hm : mm σ s3.h with
      | no => exact fun p => p
      | er x h =>
        intro p s' c dx e' rp' st' xr
        obtain ⟨C, hC, rfl, hdx⟩ := xr
        have p : Post G E Av s3 (fun v y s' => VR G Av s' v y) (match t.ws[x.cls]?, x.arg with
          | some w, none => .ok (.d (.tuple [.str w])) h
          | _, _ => .no) Q := p
        cases hw : t.ws[x.cls]? with
        | none => rw [hw] at p; exact p.elim
        | some w =>
          cases ha : x.arg with
          | some _ => rw [hw, ha] at p; exact p.elim
          | none =>
            rw [hw, ha] at p
            exact ⟨s', x.cls, w, C, rfl, rp', hw, hC, rfl, hdx ha, fun s4 y e4 rp4 st4 v4 => p s4 y (e4.trans e') rp4 (st'.trans st4 rp'.nd rp'.len) v4⟩
      | ok v h =>
        intro p s' y e' rp' st' q' q hq
        have p : Post G E Av s3 (fun v y s' => VR G Av s' v y) ((toD v h).bind fun x h1 => .ok (.d (.tuple [.str "told", x])) h1) Q := p
        rw [← e'] at p
        cases e3 : toD v s'.h with
        | er x h => exact absurd e3 (toD_no_er _ _ _ _)
        | no => rw [e3] at p; exact p.elim
        | ok x h2 =>
          rw [e3] at p
          obtain ⟨rp4, st4, d4⟩ := toD_ok rp' q' e3
          obtain ⟨rp5, st5⟩ := rp4.upd_new (o := .tup [.str "told", y]) hq
          have d5 : DRs G.K _ (Bad Av ⟨s'.r, h2, upd s'.H q (.tup [.str "told", y])⟩) [.str "told", y] [.str "told", x] := .cons (.str _) (.cons (st5.dr rp5.nd d4) .nil)
          exact p ⟨s'.r, h2, upd s'.H q (.tup [.str "told", y])⟩ (.ref q) rfl rp5 ((st'.trans st4 rp'.nd rp'.len).trans st5 rp4.nd rp4.len) (.d (.tup (SqT.of upd_same) d5))
  · intro Wt pn xe tkw _
    subst hZ
    refine ⟨fun pins' s' τz Hz D J ⟨Ech, hW, q1, q2, q3⟩ => ?_⟩
    have pc := pe_lamrun (i := 0) (k := 1) (p1 := p2) (p2 := p3) I L lo tkw hW hr2 (fun e1 outer s H => hbody e1 outer s H Ech) (show t.N[0]? = some a' by rw [hN]; rfl) (visS (X := cxOf (L2N.CX X.prog X.w) X.prog X.w X.K X.mg X.base t.N t.x (defScope t.st) g cdv X.A X.stack s s3.H E) (S := scT t) rfl h4) (dbg1 h3) (dbg2 h3)
    refine (pss_one (ps_ret (pe_tup (pa_cons pe_str (pa_cons pc pa_nil (by rfl)) (by rfl))))).run pins' s' τz Hz D J ⟨q1, q2, tE_mono q3 fun v H1 hq => ⟨by show 2 ≤ sizeLine; decide, hq⟩⟩
  · intro ax oe cls d pn hz hf
    refine ⟨fun pins' s' τz Hz D J h => ?_⟩
    obtain ⟨c, w, C, hw, hC, rfl, rfl, q1, q2, q3⟩ := h (by have := J.len; subst hZ; exact this)
    obtain ⟨hx, _, hk⟩ := tk c w C hw hC
    subst hZ
    exact (suite_ok (X := cxOf (L2N.CX X.prog X.w) X.prog X.w X.K X.mg X.base t.N t.x (defScope t.st) g cdv X.A X.stack s s3.H E) (G := G) (F := F) (t := t) (en := n') rfl Sg.nd rfl Sg.kind (by have := hr2.rm.un; show (X.A.deeper (envOfC t.x (defScope t.st) s.heap.objs.size g cdv)).units + 100 < cLine; omega) (fun _ => rfl) hb hK hP hz hf hx (by rw [hN]; rfl) h10 h11 hk).run pins' s' τz Hz D J ⟨q1, q2, q3⟩
end Ip

set_option linter.all false
set_option Elab.async false
set_option autoImplicit false
set_option maxRecDepth 100000
/-! The table of a law's defs; the end of a law. -/
namespace Ip
open PySem L2 PyProof.Rows

/-- a def of the text: its name, how the evaluator has it, the statement, its slots, its parameters -/
structure Row where
  x : Str
  fn : Fn
  st : Stmt
  N : List Str
  ps : List Str
/-- what a law's texts ask beside the defs: the def that tells, the defs that hold lambdas -/
structure Ext where
  tl : Option TRow
  ls : List Str
  gl : List (Str × Int)
def scOf (x : Ext) (defs cls : List (Str × Nat)) (r : Row) : Sc := ⟨r.N, (defScope r.st).names, defs, cls, fun _ => true, false, decide (r.x ∈ x.ls), x.tl.map fun t => (t.x, t.ws), x.gl⟩
def lamQ (x : Str) : Str := x ++ ".<locals>." ++ "<lambda>"
def rowOk (x : Ext) (m n : Nat) (defs cls : List (Str × Nat)) (r : Row) : Bool :=
  scK r.N r.ps (defScope r.st) && decide (r.fn.ns = r.N.length) && decide (r.fn.ps = r.ps.length) && kSts m n (scOf x defs cls r) r.fn.body (defBody r.st)
def defsOk (rows : List Row) (defs : List (Str × Nat)) : Bool := defs.all fun p => decide ((rows[p.2]?).map (·.x) = some p.1)
def fnsOf (rows : List Row) : List Fn := rows.map (·.fn)

structure RowF (K : PySem.W.Frag) (mg : Str → Option Value) (r : Row) (a : Addr) : Prop where
  mg : mg r.x = some (.ref a)
  ex : ∃ fd, L2.Fun K r.x r.x r.st a fd ∧ Binds K fd r.ps []
def Facts (K : PySem.W.Frag) (mg : Str → Option Value) : List Row → List Addr → Prop
  | [], [] => True
  | r :: rs, a :: as => RowF K mg r a ∧ Facts K mg rs as
  | _, _ => False
theorem Facts.get {K : PySem.W.Frag} {mg : Str → Option Value} : ∀ {rows : List Row} {as : List Addr} {f : Nat} {r : Row}, Facts K mg rows as → rows[f]? = some r → ∃ a, as[f]? = some a ∧ RowF K mg r a
  | [], _, _, _, _, e => by simp at e
  | r :: rs, a :: as, 0, _, h, e => by
    have e : some r = some _ := e
    cases e
    exact ⟨a, rfl, h.1⟩
  | r :: rs, a :: as, f + 1, _, h, e => Facts.get (rows := rs) (f := f) h.2 e
  | _ :: _, [], _, _, h, _ => h.elim
/-- a class of the text whose instances may be raised -/
structure ClsK (K : PySem.W.Frag) (mg : Str → Option Value) (x : Str) (C : Addr) : Prop where
  mg : mg x = some (.ref C)
  ex : ∃ (B newId initId : String) (bmB : List Value), ExcBaseFacts B newId initId bmB ∧ PySem.W.excIn K C bmB newId = true
  kp : PySem.W.keepIn K (.ref C) = true
  sub : PySem.W.subIn K (.ref C) (.type "BaseException") = some true
  ty : PySem.W.typeIn K (.ref C) = some (.type "type")
def ClsFs (K : PySem.W.Frag) (mg : Str → Option Value) (cls : List (Str × Nat)) (ca : List Addr) : Prop := ∀ x c, cls.lookup x = some c → ∃ C, ca[c]? = some C ∧ ClsK K mg x C

section
variable {P : Program} {w : World} {K : PySem.W.Frag} {mg : Str → Option Value} {base : Heap}
theorem lookup_mem {α : Type} : ∀ {l : List (Str × α)} {x : Str} {v : α}, l.lookup x = some v → (x, v) ∈ l
  | [], _, _, h => by simp at h
  | (y, u) :: l, x, v, h => by
    rw [List.lookup_cons] at h
    split at h
    · rename_i e
      cases h
      rw [eq_of_beq e]
      exact List.mem_cons_self
    · exact List.mem_cons_of_mem _ (lookup_mem h)
/-- the tables of the defs with lambdas -/
def TabsK (K : PySem.W.Frag) (mg : Str → Option Value) (base : Heap) (tb : List (Addr × Str)) (ls : List Str) : Prop := ∀ x ∈ ls, ∀ (a : Addr) (st : Stmt) (fd : FuncData), mg x = some (.ref a) → L2.Fun K x x st a fd →
  ∃ c P, fd.code = .ref c ∧ LamX.TabB base mg c P ∧ (P, lamQ x) ∈ tb ∧ ∀ p ∈ tb, p.1 = P → p.2 = lamQ x
/-- EVERY DEF OF THE TABLE does what the evaluator says -/
theorem tab_ok {x : Ext} {m n F : Nat} {rows : List Row} {defs cls : List (Str × Nat)} {fa ca : List Addr} {tb : List (Addr × Str)} (hr : ∀ r ∈ rows, rowOk x m n defs cls r = true) (hd : defsOk rows defs = true) (hb : ∀ x ∈ bltN, mg x = none) (hF : Facts K mg rows fa) (hc : ClsFs K mg cls ca)
    (hls : TabsK K mg base tb x.ls) (htl : ∀ t, x.tl = some t → ∃ g, mg t.x = some (.ref g) ∧ PySem.W.keepIn K (.ref g) = true ∧ ToldOk ⟨K, fa, ca, tb, P, w⟩ P w K mg base g t.ws) (hgl : ∀ y i, x.gl.lookup y = some i → ∃ t, mg y = some (.int i t)) :
    ∀ (j f : Nat) (r : Row) (a : Addr) (fd : FuncData), rows[f]? = some r → fa[f]? = some a → L2.Fun K r.x r.x r.st a fd → FnG P w K mg base (3 * j + 4) a fd r.ps (spFn ⟨K, fa, ca, tb, P, w⟩ F (orcs (fnsOf rows) F j) r.fn)
  | j, f, r, a, fd, er, ea, fn => by
    have hrow := hr r (List.mem_of_getElem? er)
    unfold rowOk at hrow
    simp only [Bool.and_eq_true, decide_eq_true_eq] at hrow
    obtain ⟨⟨⟨h1, h2⟩, h3⟩, h4⟩ := hrow
    obtain ⟨oc, od, kV, doc, pm, an, cdv, ct, osl, rfl, lk, hcd⟩ := fn.ex
    have S := scK_ok h1
    refine fnG_of (k := 3 * j + 3) lk hcd S (fun vs H Q E h => by rw [sp_len h, h3]) fun A outer s H vs Q E hroom hsp => ?_
    refine ⟨_, ?_, sp_body h2 hsp⟩
    have key := fun so => (snd_st (T := fnsOf rows) (F := F) (k := j) (S := scOf x defs cls r) (G := ⟨K, fa, ca, tb, P, w⟩) (W := fun c d _ H => E c d H) (X := cxOf (L2N.CX P w) P w K mg base r.N r.x (defScope r.st) a cdv A outer s H E) m n).2 so h4
    have zc := hroom.calm (X := cxOf (L2N.CX P w) P w K mg base r.N r.x (defScope r.st) a cdv A outer s H E) rfl
    refine key ⟨⟨rfl, S.nd, rfl, S.kind, fun _ => zc, zc.un, fun h => (by cases h), fun hl => ?_, rfl, ⟨rfl, rfl⟩, hgl, hb, fun x g hx => ?_, ?_, fun _ _ => rfl⟩, passes_of rfl, L2N.takes_of rfl rfl rfl rfl, fun x c hx => ?_⟩
    · have hl : decide (r.x ∈ x.ls) = true := hl
      obtain ⟨a', ea', rf⟩ := hF.get er
      rw [ea] at ea'
      cases ea'
      obtain ⟨c, Q, e1, e2, e3, e4⟩ := hls r.x (of_decide_eq_true hl) a r.st _ rf.mg fn
      refine ⟨⟨c, Q, e2, e1, e3, e4⟩, hroom.mono (by omega), fun y ws hy => ?_⟩
      have hy : x.tl.map (fun t => (t.x, t.ws)) = some (y, ws) := hy
      cases ht : x.tl with
      | none => rw [ht] at hy; cases hy
      | some t =>
        rw [ht] at hy
        cases hy
        exact htl t ht
    · have hm := lookup_mem hx
      unfold defsOk at hd
      have := List.all_eq_true.mp hd _ hm
      have := of_decide_eq_true this
      cases e : rows[g]? with
      | none => rw [e] at this; cases this
      | some r' =>
        rw [e] at this
        have hx' : r'.x = x := Option.some.inj this
        obtain ⟨a', ea', rf⟩ := hF.get e
        obtain ⟨fd', fn', bd'⟩ := rf.ex
        refine ⟨a', fd', r'.ps, r'.fn, by rw [← hx']; exact rf.mg, ea', fn'.kp, by unfold fnsOf; rw [List.getElem?_map, e]; rfl, fun j' hj => ⟨bd', 3 * j' + 4, hroom.mono (by rw [hj]; unfold dp; split <;> omega), ?_⟩⟩
        subst hj
        exact tab_ok hr hd hb hF hc hls htl hgl j' g r' a' fd' e ea' fn'
    · exact Passing.of_takes (L2N.takes_of rfl rfl rfl rfl)
    · obtain ⟨C, hC, ck⟩ := hc x c hx
      obtain ⟨B, newId, initId, bmB, e1, e2⟩ := ck.ex
      exact ⟨C, B, newId, initId, bmB, hC, ck.mg, e1, e2, ck.kp, raises_own ck.sub ck.ty⟩
end

/-! ### the end of a law -/
/-- what stands at the law's beginning: the script's object; the tables of code objects, all empty -/
structure Beg (cs : List (Addr × Addr)) (H : Hp) : Prop where
  tab : ∀ p ∈ cs, H p.2 = some (.tbl #[])
/-- the law's own def, called with the script: by what the evaluator says of it -/
theorem callG_law {P : Program} {w : World} {K : PySem.W.Frag} {mg mb : Str → Option Value} {k : Nat} {fa a : Addr} {cs : List (Addr × Addr)} {fd : FuncData} {x : Str} {sp : Sp} {s₁ : Shared} {vs : List Value} {ns : List Int}
    (KX : K.In s₁.heap) (hns : s₁.heap.Ns mainGlobals mg) (hb : s₁.heap.Ns builtinsNs mb) (hbb : ∀ x : Str, x ≠ "__name__" → mb x = bootBuiltins x) (hlim : s₁.heap.NoLimit) (hg : s₁.gens = #[])
    (hT : ∀ p ∈ cs, s₁.heap.get? p.2 = some { cls := .none, data := .fields #[] }) (nT : ∀ p ∈ cs, K.lookup p.2 = none) (C : ∀ p ∈ cs, PySem.W.CodeHd s₁.heap p.1 p.2)
    (hbm : ∃ (bm : Addr) (ob : Obj), mg "__builtins__" = some (.ref bm) ∧ bm ≠ builtinsNs ∧ s₁.heap.get? bm = some ob ∧ ob.cls = .type "module" ∧ ob.dict = some builtinsNs ∧ ob.data = .plain)
    (ha : s₁.heap.get? a = some { cls := .type "list", data := .seq vs.toArray }) (hi : IntsAre vs ns) (hl : ns.length ≤ sizeLine) (hr : RoomG k callerA)
    (F : ∀ base : Heap, K.In base → base.Ns mainGlobals mg → (∀ p ∈ cs, LamX.TabB base mg p.1 p.2) → FnG P w K mg base k fa fd [x] sp) (hbind : ∀ (s : Shared) (u : Value), BindsTo s fd ⟨[u], []⟩ [(x, u)])
    (hsp : ∀ H : Hp, Beg cs H → SqL K H a (ns.map V.int) → sp [.ref a] H (fun v _ => v = .bl true) fun _ _ _ => False) :
    codeAny (model P w) callerA (.call (.ref fa) ⟨[.ref a], []⟩) (fun r s' => r = .ok (.ret (.bool true)) ∧ OldK s₁.heap s'.heap ∧ s'.os = s₁.os ∧ AllBare s'.gens) s₁ := by
  have rv := vals_ints hi
  have isT : ∀ b ∈ cs.map (·.2), s₁.heap.get? b = some { cls := .none, data := .fields #[] } := fun b hb => by
    obtain ⟨p, hp, rfl⟩ := List.mem_map.mp hb
    exact hT p hp
  have mem2 : ∀ p ∈ cs, p.2 ∈ cs.map (·.2) := fun p hp => List.mem_map.mpr ⟨p, hp, rfl⟩
  have aT : a ∉ cs.map (·.2) := fun z => by
    have q := isT a z
    rw [ha] at q
    cases q
  obtain ⟨H, hH, hS, hok, hO, hK⟩ : ∃ H : Hp, Beg cs H ∧ SqL K H a (ns.map V.int) ∧ HOk P w H s₁.heap ∧ (∀ b, H b = none ∨ b ∈ cs.map (·.2) ∨ (b = a ∧ ∃ o xs, H b = some (.frz o (.lst xs)))) ∧ (H a ≠ none → K.lookup a = none) := by
    have okT : ∀ (H : Hp) b, b ∈ cs.map (·.2) → ObjOk P w H s₁.heap b (.tbl #[]) := fun H b hb => isT b hb
    cases hk : K.lookup a with
    | some o =>
      have e := KX a o hk
      rw [ha] at e
      cases e
      refine ⟨fun b => if b ∈ cs.map (·.2) then some (.tbl #[]) else none, ⟨fun p hp => if_pos (mem2 p hp)⟩, .inr ⟨_, vs.toArray, _, hk, rfl, rfl, rfl, by rw [List.size_toArray, hi.length]; exact hl, by simpa using rv⟩, fun b u z => ?_, fun b => ?_, fun z => absurd (if_neg aT) z⟩
      · by_cases h : b ∈ cs.map (·.2)
        · cases (if_pos h).symm.trans z; exact okT _ b h
        · cases (if_neg h).symm.trans z
      · by_cases h : b ∈ cs.map (·.2)
        · exact .inr (.inl h)
        · exact .inl (if_neg h)
    | none =>
      refine ⟨fun b => if b = a then some (.frz { cls := .type "list", data := .seq vs.toArray } (.lst (ns.map V.int))) else if b ∈ cs.map (·.2) then some (.tbl #[]) else none,
        ⟨fun p hp => (if_neg fun z : p.2 = a => aT (z ▸ mem2 p hp)).trans (if_pos (mem2 p hp))⟩, .inl (.inr ⟨_, if_pos rfl⟩), fun b u z => ?_, fun b => ?_, fun _ => rfl⟩
      · by_cases h : b = a
        · subst h
          cases (if_pos rfl).symm.trans z
          exact ⟨ha, by rw [List.length_map]; exact hl, vs, _, rv, ha⟩
        · have z := (if_neg h).symm.trans z
          by_cases h2 : b ∈ cs.map (·.2)
          · cases (if_pos h2).symm.trans z; exact okT _ b h2
          · cases (if_neg h2).symm.trans z
      · by_cases h : b = a
        · exact .inr (.inr ⟨h, _, _, if_pos h⟩)
        · by_cases h2 : b ∈ cs.map (·.2)
          · exact .inr (.inl h2)
          · exact .inl ((if_neg h).trans (if_neg h2))
  have free : ∀ {b : Addr} {o : Obj}, s₁.heap.get? b = some o → (∀ vs, o.data ≠ .seq vs 0) → o.data ≠ .fields #[] → H b = none := fun {b o} e h1 h2 => by
    rcases hO b with z | z | ⟨rfl, _⟩
    · exact z
    · rw [isT b z] at e; cases e; exact absurd rfl h2
    · rw [ha] at e; cases e; exact absurd rfl (h1 _)
  have nsK : ∀ {b : Addr} {m : Str → Option Value}, s₁.heap.Ns b m → (hidT s₁.heap H).Ns b m := fun {b m} ⟨o, es, ep, e, d, r⟩ => ⟨o, es, ep, hidT_get e (free e (fun vs z => by rw [d] at z; cases z) fun z => by rw [d] at z; cases z), d, r⟩
  have hKb : K.In (hidT s₁.heap H) := fun b o e => hidT_get (KX b o e) (by
    rcases hO b with z | z | ⟨rfl, x, xs, z⟩
    · exact z
    · obtain ⟨p, hp, rfl⟩ := List.mem_map.mp z
      rw [nT p hp] at e; cases e
    · rw [hK (by rw [z]; exact fun q => by cases q)] at e; cases e)
  have hM : L2.Mod K mg (hidT s₁.heap H) := ⟨hKb, nsK hns, ⟨mb, nsK hb, hbb⟩, let ⟨mc, h1, h2⟩ := hlim; ⟨mc, nsK h1, h2⟩⟩
  have TB : ∀ p ∈ cs, LamX.TabB (hidT s₁.heap H) mg p.1 p.2 := fun p hp => by
    refine ⟨?_, ?_, fun z => ?_⟩
    · obtain ⟨o, us, file, tf, flags, tg, inF, text, tt, e1, r1, r2, r3, rest⟩ := C p hp
      exact ⟨o, us, file, tf, flags, tg, inF, text, tt, hidT_get e1 (free e1 (fun vs z => by rw [r2] at z; cases z) fun z => by rw [r2] at z; cases z; simp at r3), r1, r2, r3, rest⟩
    · obtain ⟨bm, ob, b1, b2, b3, b4, b5, b6⟩ := hbm
      refine ⟨bm, ob, b1, b2, fun q => ?_, fun q => ?_, hidT_get b3 (free b3 (fun vs z => by rw [b6] at z; cases z) fun z => by rw [b6] at z; cases z), b4, b5, b6⟩
      · obtain ⟨o, es, ep, e, hd, _⟩ := hns
        rw [q, e] at b3; cases b3
        rw [hd] at b6; cases b6
      · rw [q, hT p hp] at b3; cases b3; cases b6
    · obtain ⟨o, es, ep, e, hd, _⟩ := hns
      rw [z, hT p hp] at e; cases e; cases hd
  have e0 : Env0 P w K mg (hidT s₁.heap H) callerA [] s₁ H := ⟨rfl, hM, fun b o e => of_hidT e, Nat.le_of_eq (hidT_size _ _), trivial, fun b hb => (by cases hb), hok, .of_eq hg⟩
  refine codeAny_mono ((F _ hKb (nsK hns) TB).run callerA [] s₁ H ⟨[.ref a], []⟩ [.ref a] [.ref a] _ _ hr e0 (hbind s₁ (.ref a)) (.cons rfl .nil) (hsp H hH hS)) fun r s' h => ?_
  cases r with
  | error e => obtain ⟨_, _, _, _, _, _, _, _, _, _, _, _, q⟩ := h; exact q.elim
  | ok fl =>
    cases fl with
    | next => exact False.elim h
    | brk => exact False.elim h
    | cont => exact False.elim h
    | ret u =>
      obtain ⟨v, H', os, bare, un, hok', r', rfl⟩ := h
      obtain rfl : u = Value.bool true := r'
      have key : ∀ b o, b ∉ cs.map (·.2) → s₁.heap.get? b = some o → s'.heap.get? b = some o := fun b o nb e => by
        rcases hO b with z | z | ⟨rfl, x, xs, z⟩
        · exact un.keep b o e z (fun z => by cases z) (by simp)
        · exact absurd z nb
        · obtain ⟨e1, _⟩ := hok b _ z
          obtain ⟨e2, _⟩ := hok' b _ (un.frzs b x _ z)
          rw [e] at e1; cases e1
          exact e2
      have grown : ∀ p ∈ cs, ∃ more : Array Value, s'.heap.get? p.2 = some { cls := .none, data := .fields more } := fun p hp =>
        let ⟨more, z⟩ := un.tbls p.2 #[] (hH.tab p hp)
        ⟨_, hok' p.2 _ z⟩
      refine ⟨rfl, ⟨fun b o e => ?_, fun b o e => ?_⟩, os, bare⟩
      · by_cases hb : b ∈ cs.map (·.2)
        · obtain ⟨p, hp, rfl⟩ := List.mem_map.mp hb
          obtain ⟨more, hm⟩ := grown p hp
          rw [hT p hp] at e
          cases e
          exact .inr (.inl ⟨((C p hp).tab (hT p hp)).isCodeTable, rfl, #[], more, rfl, by rw [Array.empty_append]; exact hm⟩)
        · exact .inl (key b o hb e)
      · by_cases hb : b ∈ cs.map (·.2)
        · obtain ⟨p, hp, rfl⟩ := List.mem_map.mp hb
          obtain ⟨more, hm⟩ := grown p hp
          exact ⟨_, hm⟩
        · exact ⟨o, key b o hb e⟩
/-- what is known at the law's call, and what its def then does -/
def AtLaw (q : Program) (l : PySem.W.OpenLaw) (w : World) (K : PySem.W.Frag) (n : Nat) (x : Str) (mg : Str → Option Value) (fa : Addr) : Prop :=
  ∃ (fd : FuncData) (cs : List (Addr × Addr)) (k : Nat) (sp : Sp), RoomG k callerA ∧ (∀ p ∈ cs, K.lookup p.2 = none) ∧ (∀ p ∈ cs, ∃ y d, (recsOf q).find? (fun e => e.name == y) = some d ∧ PySem.W.tabIn K y = some p) ∧ (∀ (s : Shared) (u : Value), BindsTo s fd ⟨[u], []⟩ [(x, u)]) ∧
    (∀ (H : Hp) (a : Addr) (ns : List Int), ns.length ≤ n → Beg cs H → SqL K H a (ns.map V.int) → sp [.ref a] H (fun v _ => v = .bl true) fun _ _ _ => False) ∧
    ∀ base : Heap, K.In base → base.Ns mainGlobals mg → (∀ p ∈ cs, LamX.TabB base mg p.1 p.2) → FnG l.prog w K mg base k fa fd [x] sp
theorem walk_G {l : PySem.W.OpenLaw} {n : Nat} {q : Program} {loose : List Str} {XP : (Str → Option Value) → Heap → Prop} {YP : World → Heap → Prop} {d : DefRec} {K : Params → PySem.W.Frag} {x : Str}
    (hn : l.most = some n) (hn2 : n ≤ sizeLine) (hdf : d.params.defaults = []) (hY : ∀ (w : World) (h : Heap), YP w h → (K w.params).In h)
    (F : ∀ (w : World) (mg : Str → Option Value) (fa : Addr) (h : Heap), (K w.params).In h → h.Ns mainGlobals mg → mg d.name = some (.ref fa) → AtLaw q l w (K w.params) n x mg fa) :
    PySem.W.WalkO q loose XP YP l.row.toRowW d [] (fun f vs => PySem.call f vs) := by
  refine Att.attach_call hn hdf fun w s₀ s₁ mg mb fa o pm cd doc a vs ns hG hY' ho hd hcd hmg hobj hints hlen hg => ?_
  have KX := hY w _ hY'
  obtain ⟨fd, cs, k, sp, hr, nT, hC, hb, hsp, hF⟩ := F w mg fa _ KX hG.T.g hmg
  have tabs : ∀ p ∈ cs, PySem.W.CodeHd s₁.heap p.1 p.2 ∧ s₁.heap.get? p.2 = some { cls := .none, data := .fields #[] } := fun p hp => by
    obtain ⟨y, d, e1, e2⟩ := hC p hp
    exact PySem.W.tab_of hG.T KX e1 e2
  exact callG_law KX hG.T.g hG.T.b hG.T.builtins hG.T.nolimit hg (fun p hp => (tabs p hp).2) nT (fun p hp => (tabs p hp).1) hG.T.bmain hobj hints (Nat.le_trans hlen hn2) hr hF hb (fun H hO hS => hsp H a ns hlen hO hS)
end Ip

set_option linter.all false
set_option Elab.async false
set_option autoImplicit false
set_option maxRecDepth 100000
/-! What the top has written; a law by its evaluation. -/
namespace Ip
open PySem L2 PyProof.Rows

/-- a def as the top leaves it -/
def DefK (K : PySem.W.Frag) (x : Str) (st : Stmt) (ps : List Str) : Prop := ∃ (f : Addr) (fd : FuncData), PySem.W.nsIn K mainGlobals x = some (some (.ref f)) ∧ L2.Fun K x x st f fd ∧ Binds K fd ps []
theorem dk_mk {K : PySem.W.Frag} {x : Str} {st : Stmt} {ps : List Str} {f : Addr} {oc : Value} {od an : Option Addr} {osl : Array (Option Value)} {kV doc pm cdv ct : Value} (a : PySem.W.nsIn K mainGlobals x = some (some (.ref f)))
    (l : K.lookup f = some ⟨oc, od, .func (PySem.W.fnOf x x (defArgs st) (defBody st) (defScope st) .none kV doc pm an cdv ct), osl⟩) (c : PySem.W.codeIn K cdv x = true) (k : PySem.W.keepIn K (.ref f) = true)
    (b : ∀ (kV doc pm : Value) (an : Option Addr) (cdv ct : Value) (us : List Value), us.length = ps.length → bindArgs (PySem.W.fnOf x x (defArgs st) (defBody st) (defScope st) .none kV doc pm an cdv ct) ⟨us, []⟩ = pure (ps.zip us)) : DefK K x st ps :=
  ⟨f, _, a, fun_mk l c k, (fun_mk l c k).binds b⟩
/-- all of them -/
def DefsK (K : PySem.W.Frag) : List Row → Prop
  | [] => True
  | r :: rs => DefK K r.x r.st r.ps ∧ DefsK K rs
theorem facts_of {K : PySem.W.Frag} {h : Heap} {mg : Str → Option Value} (X : K.In h) (G : h.Ns mainGlobals mg) : ∀ {rows : List Row}, DefsK K rows → ∃ as, Facts K mg rows as
  | [], _ => ⟨[], trivial⟩
  | r :: rs, hd => by
    obtain ⟨f, fd, a, F, b⟩ := hd.1
    obtain ⟨as, q⟩ := facts_of X G hd.2
    exact ⟨f :: as, ⟨PySem.W.mg_of X G a, fd, F, b⟩, q⟩
/-- the built-ins stand -/
def BltK (K : PySem.W.Frag) : List Str → Prop
  | [] => True
  | x :: xs => PySem.W.nsIn K mainGlobals x = some none ∧ BltK K xs
theorem blt_of {K : PySem.W.Frag} {h : Heap} {mg : Str → Option Value} (X : K.In h) (G : h.Ns mainGlobals mg) : ∀ {xs : List Str}, BltK K xs → ∀ x ∈ xs, mg x = none
  | [], _, _, hx => by cases hx
  | y :: ys, hb, x, hx => by
    rcases List.mem_cons.mp hx with rfl | hx
    · exact PySem.W.mg_none_of X G hb.1
    · exact blt_of X G hb.2 x hx
/-- a class as the top leaves it -/
def CK (K : PySem.W.Frag) (x : Str) : Prop := ∃ C : Addr, PySem.W.nsIn K mainGlobals x = some (some (.ref C)) ∧ (∃ (B newId initId : String) (bmB : List Value), ExcBaseFacts B newId initId bmB ∧ PySem.W.excIn K C bmB newId = true) ∧ PySem.W.keepIn K (.ref C) = true ∧
  PySem.W.subIn K (.ref C) (.type "BaseException") = some true ∧ PySem.W.typeIn K (.ref C) = some (.type "type")
def CKs (K : PySem.W.Frag) : List Str → Prop
  | [] => True
  | x :: xs => CK K x ∧ CKs K xs
theorem cks_of {K : PySem.W.Frag} {h : Heap} {mg : Str → Option Value} (X : K.In h) (G : h.Ns mainGlobals mg) : ∀ {xs : List Str}, CKs K xs → ∃ ca : List Addr, ∀ (c : Nat) (x : Str), xs[c]? = some x → ∃ C, ca[c]? = some C ∧ ClsK K mg x C
  | [], _ => ⟨[], fun c x e => by simp at e⟩
  | y :: ys, hc => by
    obtain ⟨C, a, e, k, s, t⟩ := hc.1
    obtain ⟨ca, q⟩ := cks_of X G hc.2
    refine ⟨C :: ca, fun c x ex => ?_⟩
    cases c with
    | zero =>
      have ex : some y = some x := ex
      cases ex
      exact ⟨C, rfl, PySem.W.mg_of X G a, e, k, s, t⟩
    | succ c => exact q c x ex

/-- what is asked of the law's def -/
def spLaw (rows : List Row) (F J : Nat) (law : Fn) (K : PySem.W.Frag) (as ca : List Addr) (tb : List (Addr × Str)) (P : Program) (w : World) : Sp := spFn ⟨K, as, ca, tb, P, w⟩ F (orcs (fnsOf rows) F J) law
theorem ints_dr {K : PySem.W.Frag} {H : Hp} {B : Addr → Prop} : ∀ ns : List Int, DRs K H B (ns.map V.int) (ns.map PyData.int)
  | [] => .nil
  | n :: ns => .cons (.int n) (ints_dr ns)
theorem sp_law {rows : List Row} {F J : Nat} {law : Fn} {K : PySem.W.Frag} {as ca : List Addr} {tb : List (Addr × Str)} {P : Program} {w : World} {H : Hp} {a : Addr} {ns : List Int} (hp : law.ps = 1) (hS : SqL K H a (ns.map V.int)) (hT : LamX.Tabs tb H)
    (plain : ∃ h, run F (orcs (fnsOf rows) F J) law [.d (.list (ns.map .int))] [] = .ok (.d (.bool true)) h) : spLaw rows F J law K as ca tb P w [.ref a] H (fun v _ => v = .bl true) fun _ _ _ => False := by
  obtain ⟨h, e⟩ := plain
  refine ⟨fun _ => False, ⟨[], [], H⟩, [.d (.list (ns.map .int))], rfl, rep_nil (fun a z => z.elim) hT, .cons (.d (.lst ?_ (ints_dr ns))) .nil, hp.symm, ?_⟩
  · rcases hS with q | q
    · exact .inl ⟨q, fun z => (bad_nil.mp z).elim⟩
    · exact .inr (.inr q)
  · show Post _ _ _ _ _ (run F (orcs (fnsOf rows) F J) law [.d (.list (ns.map .int))] []) _
    rw [e]
    intro s' y _ _ _ q
    cases q with
    | d q => cases q; rfl
theorem tabs_beg {cs : List (Addr × Addr)} {tb : List (Addr × Str)} {H : Hp} (h : Beg cs H) (e : ∀ p ∈ tb, p.1 ∈ cs.map (·.2)) : LamX.Tabs tb H := fun p hp => by
  obtain ⟨q, hq, e2⟩ := List.mem_map.mp (e p hp)
  exact LamX.TabS.nil (e2 ▸ h.tab q hq)
/-! ### classes that are told of -/
theorem ck_mk {K : PySem.W.Frag} {x : Str} {C : Addr} (a : PySem.W.nsIn K mainGlobals x = some (some (.ref C))) (e : PySem.W.excIn K C [.type "ValueError", .type "Exception", .type "BaseException", .type "object"] "ValueError.__new__" = true) (k : PySem.W.keepIn K (.ref C) = true)
    (s : PySem.W.subIn K (.ref C) (.type "BaseException") = some true) (t : PySem.W.typeIn K (.ref C) = some (.type "type")) : CK K x := ⟨C, a, ⟨_, _, _, _, PySem.F.excBase_ValueError, e⟩, k, s, t⟩
def IsN (K : PySem.W.Frag) (C : Addr) : List Str → List Bool → Prop
  | [], [] => True
  | x :: xs, b :: bs => (∃ D : Addr, PySem.W.nsIn K mainGlobals x = some (some (.ref D)) ∧ PySem.W.kitOne K (.ref C) (.ref D) = some b) ∧ IsN K C xs bs
  | _, _ => False
def TellL (K : PySem.W.Frag) (CS : Addr) (cs : List Str) : List Str → List Str → List (List Bool) → Prop
  | [], _, _ => True
  | _ :: ws, y :: ys, b :: bs => (∃ C : Addr, PySem.W.nsIn K mainGlobals y = some (some (.ref C)) ∧ ExcC K C ∧ PySem.W.exmOne K (.ref C) (.ref CS) = some true ∧ IsN K C cs b) ∧ TellL K CS cs ws ys bs
  | _, _, _ => False
def TellN (K : PySem.W.Frag) (t : TRow) (xs : List Str) : Prop := ∃ CS : Addr, PySem.W.nsIn K mainGlobals t.exc = some (some (.ref CS)) ∧ TellL K CS t.cs t.ws xs t.bs
theorem isN_mk {K : PySem.W.Frag} {C D : Addr} {x : Str} {xs : List Str} {b : Bool} {bs : List Bool} (a : PySem.W.nsIn K mainGlobals x = some (some (.ref D))) (k : PySem.W.kitOne K (.ref C) (.ref D) = some b) (r : IsN K C xs bs) : IsN K C (x :: xs) (b :: bs) := ⟨⟨D, a, k⟩, r⟩
theorem tellL_mk {K : PySem.W.Frag} {CS C : Addr} {cs : List Str} {w y : Str} {ws ys : List Str} {b : List Bool} {bs : List (List Bool)} (a : PySem.W.nsIn K mainGlobals y = some (some (.ref C)))
    (hg : PySem.W.findIn K (.ref C) "__getattribute__" = some (some (.builtin "BaseException.__getattribute__"))) (hk : PySem.W.findIn K (.ref C) "__getattr__" = some none) (hs : PySem.W.subIn K (.ref C) (.type "BaseException") = some true) (hd : PySem.W.hasDictIn K C = true)
    (ha : PySem.W.findIn K (.ref C) "__class__" = some (some (.builtin "object.__class__"))) (hn : PySem.W.specialIn K (.builtin "object.__class__") "__get__" = some (some (.builtin "getset_descriptor.__get__"))) (ht : PySem.W.takesIn K (.builtin "object.__class__") = some true) (hm : PySem.W.mroIn K C (.type "object") = some true)
    (x1 : PySem.W.subIn K (.ref CS) (.type "BaseException") = some true) (x2 : PySem.W.hasDictIn K CS = true) (x3 : PySem.W.typeIn K (.ref CS) = some (.type "type")) (x4 : PySem.W.subIn K (.ref C) (.ref CS) = some true)
    (i : IsN K C cs b) (r : TellL K CS cs ws ys bs) : TellL K CS cs (w :: ws) (y :: ys) (b :: bs) := ⟨⟨C, a, ⟨hg, hk, hs, hd, ha, hn, ht, hm⟩, PySem.W.exm_ref x1 x2 x3 x4, i⟩, r⟩
theorem tellN_mk {K : PySem.W.Frag} {t : TRow} {xs : List Str} {CS : Addr} (a : PySem.W.nsIn K mainGlobals t.exc = some (some (.ref CS))) (l : TellL K CS t.cs t.ws xs t.bs) : TellN K t xs := ⟨CS, a, l⟩
theorem isK_of {K : PySem.W.Frag} {h : Heap} {mg : Str → Option Value} {C : Addr} (X : K.In h) (G : h.Ns mainGlobals mg) : ∀ {xs : List Str} {bs : List Bool}, IsN K C xs bs → IsK K mg C xs bs
  | [], [], _ => trivial
  | x :: xs, b :: bs, ⟨⟨D, a, k⟩, r⟩ => ⟨⟨D, PySem.W.mg_of X G a, k⟩, isK_of X G r⟩
  | [], _ :: _, h => h.elim
  | _ :: _, [], h => h.elim
theorem tellL_of {K : PySem.W.Frag} {h : Heap} {mg : Str → Option Value} {CS : Addr} {cs : List Str} (X : K.In h) (G : h.Ns mainGlobals mg) : ∀ {ws ys : List Str} {bs : List (List Bool)} {ca : List Addr}, TellL K CS cs ws ys bs → (∀ (c : Nat) (x : Str), ys[c]? = some x → ∃ C, ca[c]? = some C ∧ mg x = some (.ref C)) →
    ∀ (c : Nat) (w : Str) (D : Addr), ws[c]? = some w → ca[c]? = some D → ExcC K D ∧ PySem.W.exmOne K (.ref D) (.ref CS) = some true ∧ IsK K mg D cs (bs.getD c [])
  | [], _, _, _, _, _, c, w, D, hw, _ => by simp at hw
  | _ :: ws, y :: ys, b :: bs, ca, ⟨⟨C, a, e, x, i⟩, r⟩, hc, 0, w, D, hw, hD => by
    obtain ⟨C2, h1, h2⟩ := hc 0 y rfl
    rw [PySem.W.mg_of X G a] at h2
    cases h2
    rw [hD] at h1
    cases h1
    exact ⟨e, x, isK_of X G i⟩
  | _ :: ws, y :: ys, b :: bs, [], ⟨_, r⟩, hc, c + 1, w, D, hw, hD => by simp at hD
  | _ :: ws, y :: ys, b :: bs, _ :: ca, ⟨_, r⟩, hc, c + 1, w, D, hw, hD => tellL_of X G (bs := bs) (ca := ca) r (fun c x e => hc (c + 1) x e) c w D hw hD
  | _ :: _, [], _, _, h, _, _, _, _, _, _ => h.elim
  | _ :: _, _ :: _, [], _, h, _, _, _, _, _, _ => h.elim
/-! ### tables of the defs with lambdas -/
def LamsK (q : Program) (K : PySem.W.Frag) : List Str → List (Addr × Addr) → Prop
  | [], [] => True
  | y :: ys, p :: ps => (PySem.W.tabIn K y = some p ∧ K.lookup p.2 = none ∧ ∃ d, (recsOf q).find? (fun e => e.name == y) = some d) ∧ LamsK q K ys ps
  | _, _ => False
theorem lamsK_mk {q : Program} {K : PySem.W.Frag} {y : Str} {ys : List Str} {c P : Addr} {ps : List (Addr × Addr)} {d : DefRec} (t : PySem.W.tabIn K y = some (c, P)) (n : K.lookup P = none) (f : (recsOf q).find? (fun e => e.name == y) = some d) (r : LamsK q K ys ps) : LamsK q K (y :: ys) ((c, P) :: ps) := ⟨⟨t, n, d, f⟩, r⟩
theorem tabIn_mk {K : PySem.W.Frag} {x : Str} {f c P : Addr} {oc o1 : Value} {od o2 : Option Addr} {osl o3 : Array (Option Value)} {fd : FuncData} {vs : Array Value} (a : PySem.W.nsIn K mainGlobals x = some (some (.ref f))) (l : K.lookup f = some ⟨oc, od, .func fd, osl⟩) (hc : fd.code = .ref c)
    (l2 : K.lookup c = some ⟨o1, o2, .fields vs, o3⟩) (hv : (vs[11]? : Option Value) = some (.ref P)) : PySem.W.tabIn K x = some (c, P) := by
  unfold PySem.W.tabIn
  rw [a]; simp only; rw [l]; simp only; rw [hc]; simp only; rw [l2]; simp only; rw [hv]
theorem lamsK_nil {q : Program} {K : PySem.W.Frag} : LamsK q K [] [] := trivial
def tbOf : List Str → List (Addr × Addr) → List (Addr × Str)
  | y :: ys, p :: ps => (p.2, lamQ y) :: tbOf ys ps
  | _, _ => []
theorem tbOf_mem : ∀ {ys : List Str} {ps : List (Addr × Addr)} {e : Addr × Str}, e ∈ tbOf ys ps → e.1 ∈ ps.map (·.2)
  | [], _, _, h => by simp [tbOf] at h
  | _ :: _, [], _, h => by simp [tbOf] at h
  | y :: ys, p :: ps, e, h => by
    rcases List.mem_cons.mp h with rfl | h
    · exact List.mem_cons_self
    · exact List.mem_cons_of_mem _ (tbOf_mem h)
theorem lams_mem {q : Program} {K : PySem.W.Frag} : ∀ {ys : List Str} {ps : List (Addr × Addr)}, LamsK q K ys ps → ∀ p ∈ ps, K.lookup p.2 = none ∧ ∃ y d, (recsOf q).find? (fun e => e.name == y) = some d ∧ PySem.W.tabIn K y = some p
  | [], [], _, p, hp => by cases hp
  | y :: ys, p :: ps, ⟨⟨t, n, d, f⟩, r⟩, p', hp => by
    rcases List.mem_cons.mp hp with rfl | hp
    · exact ⟨n, y, d, f, t⟩
    · exact lams_mem r p' hp
  | [], _ :: _, h, _, _ => h.elim
  | _ :: _, [], h, _, _ => h.elim
theorem lams_at {q : Program} {K : PySem.W.Frag} : ∀ {ys : List Str} {ps : List (Addr × Addr)}, LamsK q K ys ps → (ps.map (·.2)).Nodup → ∀ y ∈ ys, ∃ p ∈ ps, PySem.W.tabIn K y = some p ∧ (p.2, lamQ y) ∈ tbOf ys ps ∧ ∀ e ∈ tbOf ys ps, e.1 = p.2 → e.2 = lamQ y
  | [], [], _, _, y, hy => by cases hy
  | z :: ys, p :: ps, ⟨⟨t, _⟩, r⟩, nd, y, hy => by
    rw [List.map_cons, List.nodup_cons] at nd
    by_cases hz : y = z
    · subst hz
      refine ⟨p, List.mem_cons_self, t, List.mem_cons_self, fun e he h => ?_⟩
      rcases List.mem_cons.mp he with rfl | he
      · rfl
      · exact absurd (h ▸ tbOf_mem he) nd.1
    · obtain ⟨p', h1, h2, h3, h4⟩ := lams_at r nd.2 y ((List.mem_cons.mp hy).resolve_left hz)
      refine ⟨p', List.mem_cons_of_mem _ h1, h2, List.mem_cons_of_mem _ h3, fun e he h => ?_⟩
      rcases List.mem_cons.mp he with rfl | he
      · exact absurd (List.mem_map.mpr ⟨p', h1, h.symm⟩) nd.1
      · exact h4 e he h
  | [], _ :: _, h, _, _, _ => h.elim
  | _ :: _, [], h, _, _, _ => h.elim
theorem tabs_of {q : Program} {K : PySem.W.Frag} {h base : Heap} {mg : Str → Option Value} {ls : List Str} {cs : List (Addr × Addr)} (X : K.In h) (G : h.Ns mainGlobals mg) (L : LamsK q K ls cs) (nd : (cs.map (·.2)).Nodup) (hB : ∀ p ∈ cs, LamX.TabB base mg p.1 p.2) : TabsK K mg base (tbOf ls cs) ls := fun y hy a st fd hm F => by
  obtain ⟨⟨c, P⟩, h1, h2, h3, h4⟩ := lams_at L nd y hy
  refine ⟨c, P, ?_, hB _ h1, h3, h4⟩
  obtain ⟨oc, od, kV, doc, pm, an, cdv, ct, osl, rfl, lk, hcd⟩ := F.ex
  unfold PySem.W.tabIn at h2
  split at h2
  · rename_i f hf
    have e1 := PySem.W.mg_of X G hf
    rw [hm] at e1
    cases e1
    rw [lk] at h2
    simp only at h2
    split at h2
    · split at h2
      · split at h2
        · cases h2; first | rfl | assumption
        · cases h2
      · cases h2
    · cases h2
  · cases h2
/-- what the def that tells asks of the top -/
structure TellT (K : PySem.W.Frag) (m n F : Nat) (x : Ext) (xs : List Str) : Prop where
  ok : ∀ t, x.tl = some t → toldC m n t = true ∧ (∃ a r, t.N = a :: r ∧ DefK K t.x t.st [a]) ∧ TellN K t xs ∧ Tells F t
theorem tellT_none {K : PySem.W.Frag} {m n F : Nat} {ls xs : List Str} {gl : List (Str × Int)} : TellT K m n F ⟨none, ls, gl⟩ xs := ⟨fun t h => by cases h⟩
theorem tellT_some {K : PySem.W.Frag} {m n F : Nat} {ls xs : List Str} {t : TRow} {a : Str} {r : List Str} (h1 : toldC m n t = true) (h2 : t.N = a :: r) (h3 : DefK K t.x t.st [a]) (h4 : TellN K t xs) (h5 : Tells F t) {gl : List (Str × Int)} : TellT K m n F ⟨some t, ls, gl⟩ xs :=
  ⟨fun t' h => by cases h; exact ⟨h1, ⟨a, r, h2, h3⟩, h4, h5⟩⟩
/-- the ints that the top writes -/
def GlsK (K : PySem.W.Frag) : List (Str × Int) → Prop
  | [] => True
  | p :: ps => (∃ t, PySem.W.nsIn K mainGlobals p.1 = some (some (.int p.2 t))) ∧ GlsK K ps
theorem gls_mk {K : PySem.W.Frag} {x : Str} {i : Int} {t : Tok} {ps : List (Str × Int)} (a : PySem.W.nsIn K mainGlobals x = some (some (.int i t))) (r : GlsK K ps) : GlsK K ((x, i) :: ps) := ⟨⟨t, a⟩, r⟩
theorem gls_of {K : PySem.W.Frag} {h : Heap} {mg : Str → Option Value} (X : K.In h) (G : h.Ns mainGlobals mg) : ∀ {xs : List (Str × Int)}, GlsK K xs → ∀ y i, xs.lookup y = some i → ∃ t, mg y = some (.int i t)
  | [], _, y, i, e => by simp at e
  | (x, j) :: xs, ⟨⟨t, a⟩, r⟩, y, i, e => by
    rw [List.lookup_cons] at e
    split at e
    · rename_i hb
      cases e
      rw [eq_of_beq hb]
      exact ⟨t, PySem.W.mg_of X G a⟩
    · exact gls_of X G r y i e
/-- all that the top must have left, and the law's def does what the evaluator says -/
theorem all_mk {ex : Ext} {q : Program} {l : PySem.W.OpenLaw} {w : World} {K : PySem.W.Frag} {h : Heap} {mg : Str → Option Value} {fa : Addr} {rows : List Row} {defs cls : List (Str × Nat)} {m n F J f N : Nat} {r : Row} {x : Str} {xs : List Str} {cs : List (Addr × Addr)} (hr : ∀ r ∈ rows, rowOk ex m n defs cls r = true) (hd : defsOk rows defs = true)
    (hroom : RoomG (3 * J + 4) callerA) (hf : rows[f]? = some r) (hx : r.x = "law") (hps : r.ps = [x]) (hfp : r.fn.ps = 1) (hcl : cls.all (fun p => decide (xs[p.2]? = some p.1)) = true)
    (hbind : ∀ (kV doc pm : Value) (an : Option Addr) (cdv ct : Value) (s : Shared) (v : Value), BindsTo s (PySem.W.fnOf r.x r.x (defArgs r.st) (defBody r.st) (defScope r.st) .none kV doc pm an cdv ct) ⟨[v], []⟩ [(x, v)])
    (plain : ∀ ns : List Int, ns.length ≤ N → ∃ h, run F (orcs (fnsOf rows) F J) r.fn [.d (.list (ns.map .int))] [] = .ok (.d (.bool true)) h)
    (X : K.In h) (G : h.Ns mainGlobals mg) (hfa : mg "law" = some (.ref fa)) (dk : DefsK K rows) (bk : BltK K bltN) (ck : CKs K xs) (lk : LamsK q K ex.ls cs) (nd : (cs.map (·.2)).Nodup) (tt : TellT K m n F ex xs) (gk : GlsK K ex.gl) : AtLaw q l w K N x mg fa := by
  obtain ⟨as, hF⟩ := facts_of X G dk
  obtain ⟨ca, hC⟩ := cks_of X G ck
  obtain ⟨a, ea, rf⟩ := hF.get hf
  obtain ⟨fd, fn, bd⟩ := rf.ex
  have e : fa = a := by
    have := rf.mg
    rw [hx, hfa] at this
    cases this; rfl
  subst e
  refine ⟨fd, cs, 3 * J + 4, spLaw rows F J r.fn K as ca (tbOf ex.ls cs) l.prog w, hroom, fun p hp => (lams_mem lk p hp).1, fun p hp => (lams_mem lk p hp).2, ?_, fun H a ns hl hB hS => sp_law hfp hS (tabs_beg hB fun p hp => tbOf_mem hp) (plain ns hl), fun base KB GB TB => ?_⟩
  · obtain ⟨oc, od, kV, doc, pm, an, cdv, ct, osl, rfl, lk, hcd⟩ := fn.ex
    exact hbind kV doc pm an cdv ct
  · have hcls : ClsFs K mg cls ca := fun y c hy => by
      have := List.all_eq_true.mp hcl _ (lookup_mem hy)
      exact hC c y (of_decide_eq_true this)
    have t := tab_ok (x := ex) (P := l.prog) (w := w) (base := base) (F := F) (tb := tbOf ex.ls cs) hr hd (blt_of X G bk) hF hcls (tabs_of X G lk nd TB) (fun t ht => by
      obtain ⟨h1, ⟨a0, r0, h2, f0, fd0, a1, F0, b0⟩, ⟨CS, aS, h4⟩, h5⟩ := tt.ok t ht
      refine ⟨f0, PySem.W.mg_of X G a1, F0.kp, told_ok (F := F) h1 (blt_of X G bk) F0 (fun a r e => ?_) ⟨CS, PySem.W.mg_of X G aS, tellL_of X G h4 fun c y e => ?_⟩ rfl ⟨rfl, rfl⟩ h5⟩
      · rw [h2] at e; cases e; exact b0
      · obtain ⟨C, e1, e2⟩ := hC c y e
        exact ⟨C, e1, e2.mg⟩) (gls_of X G gk) J f r fa fd hf ea fn
    rw [hps] at t
    exact t
end Ip

set_option linter.all false
set_option Elab.async false
set_option autoImplicit false
set_option maxRecDepth 100000
/-! Running the evaluator in a proof. -/
namespace Ip
open PySem

section
variable {h : Hq} {σ : Sg} {W j : Nat} {C : List Orc} {T : List Fn}
@[simp] theorem peek_d (x : D) : peek h (.d x) = some x := rfl
@[simp] theorem binV_d (o : Bop) (x y : D) : binV o (.d x) (.d y) h = match binD o x y with
    | some c => .ok (.d c) h
    | none => .no := rfl
@[simp] theorem cmpV_d (o : Cop) (x y : D) : cmpV o (.d x) (.d y) h = match cmpD o x y with
    | some c => .ok c h
    | none => .no := rfl
@[simp] theorem binA_i (o : Bop) (i k : Int) : binA o (.d (.int i)) (.d (.int k)) h = binV o (.d (.int i)) (.d (.int k)) h := by
  unfold binA
  cases e : binV o (.d (.int i)) (.d (.int k)) h with
  | ok _ _ => rfl
  | er _ _ => rfl
  | no => cases o <;> rfl
@[simp] theorem binA_s (o : Bop) (i k : Str) : binA o (.d (.str i)) (.d (.str k)) h = binV o (.d (.str i)) (.d (.str k)) h := by
  unfold binA
  cases e : binV o (.d (.str i)) (.d (.str k)) h with
  | ok _ _ => rfl
  | er _ _ => rfl
  | no => cases o <;> rfl
@[simp] theorem binD_add (i k : Int) : binD .add (.int i) (.int k) = some (.int (i + k)) := rfl
@[simp] theorem binD_sub (i k : Int) : binD .sub (.int i) (.int k) = some (.int (i - k)) := rfl
@[simp] theorem binD_mul (i k : Int) : binD .mul (.int i) (.int k) = if okMul i k then some (.int (i * k)) else none := rfl
@[simp] theorem binD_fdiv (i k : Int) : binD .fdiv (.int i) (.int k) = if okDiv k then some (.int (i.fdiv k)) else none := rfl
@[simp] theorem binD_mod (i k : Int) : binD .mod (.int i) (.int k) = if k = 0 then none else some (.int (i.fmod k)) := rfl
@[simp] theorem cmpD_lt (i k : Int) : cmpD .lt (.int i) (.int k) = some (decide (i < k)) := rfl
@[simp] theorem cmpD_le (i k : Int) : cmpD .le (.int i) (.int k) = some (decide (i ≤ k)) := rfl
@[simp] theorem cmpD_gt (i k : Int) : cmpD .gt (.int i) (.int k) = some (decide (k < i)) := rfl
@[simp] theorem cmpD_ge (i k : Int) : cmpD .ge (.int i) (.int k) = some (decide (k ≤ i)) := rfl
@[simp] theorem cmpD_eqi (i k : Int) : cmpD .eq (.int i) (.int k) = some (decide (i = k)) := rfl
@[simp] theorem cmpD_nei (i k : Int) : cmpD .ne (.int i) (.int k) = some (!decide (i = k)) := rfl
@[simp] theorem cmpD_eqs (i k : Str) : cmpD .eq (.str i) (.str k) = some (decide (i = k)) := rfl
@[simp] theorem cmpD_nes (i k : Str) : cmpD .ne (.str i) (.str k) = some (!decide (i = k)) := rfl
@[simp] theorem tru_b (b : Bool) : tru (.d (.bool b)) h = .ok b h := rfl
@[simp] theorem tru_i (i : Int) : tru (.d (.int i)) h = .ok (i != 0) h := rfl
@[simp] theorem intV_i (i : Int) : intV (.d (.int i)) = some i := rfl
@[simp] theorem prmV_1 (p : Prm) (x : D) : prmV p [.d x] h = match prmD p [x] with
    | some c => .ok (.d c) h
    | none => .no := rfl
@[simp] theorem prmV_2 (p : Prm) (x y : D) : prmV p [.d x, .d y] h = match prmD p [x, y] with
    | some c => .ok (.d c) h
    | none => .no := rfl
@[simp] theorem prm_abs (i : Int) : prmD .abs [.int i] = some (.int (if i < 0 then -i else i)) := rfl
@[simp] theorem prm_int (i : Int) : prmD .int [.int i] = some (.int i) := rfl
@[simp] theorem prm_intb (b : Bool) : prmD .int [.bool b] = some (.int (if b then 1 else 0)) := rfl
@[simp] theorem prm_lenl (xs : List D) : prmD .len [.list xs] = some (.int xs.length) := rfl
@[simp] theorem prm_lent (xs : List D) : prmD .len [.tuple xs] = some (.int xs.length) := rfl
@[simp] theorem prm_max2 (i k : Int) : prmD .max2 [.int i, .int k] = some (.int (if k > i then k else i)) := rfl
@[simp] theorem prm_min2 (i k : Int) : prmD .min2 [.int i, .int k] = some (.int (if k < i then k else i)) := rfl
@[simp] theorem toD_d (x : D) : toD (.d x) h = .ok x h := rfl
@[simp] theorem toDs_nil : toDs [] h = .ok [] h := rfl
@[simp] theorem toDs_cons (v : Val) (vs : List Val) : toDs (v :: vs) h = (toD v h).bind fun x h1 => (toDs vs h1).bind fun xs h2 => .ok (x :: xs) h2 := rfl
theorem toDs_map (xs : List D) : toDs (xs.map .d) h = .ok xs h := by
  induction xs with
  | nil => rfl
  | cons x xs ih => simp only [List.map_cons, toDs_cons, toD_d, R.bind_ok, ih]
/-- a text's items by a known place -/
theorem ixV_at {x : Val} {vs : List Val} {v : Val} {i : Int} (e : els h x = some vs) (q : atD vs i = some v) : ixV x (.d (.int i)) h = .ok v h := by
  have hd : dct h x = none := by
    cases x with
    | d _ => rfl
    | fn _ => rfl
    | ref n =>
      unfold els at e
      simp only at e
      unfold dct
      simp only
      split at e <;> rename_i e1 <;> first | (rw [e1]; done) | (cases e; done) | skip
      all_goals first | rfl | (simp only [e1]) | skip
  unfold ixV ixW
  simp only [hd, e, q]
@[simp] theorem ixV_t (xs : List D) (i : Int) : ixV (.d (.tuple xs)) (.d (.int i)) h = match atD (xs.map .d) i with
    | some v => .ok v h
    | none => .no := rfl
@[simp] theorem ixV_l (xs : List D) (i : Int) : ixV (.d (.list xs)) (.d (.int i)) h = match atD (xs.map .d) i with
    | some v => .ok v h
    | none => .no := rfl
@[simp] theorem atD_0 (v : Val) (vs : List Val) : atD (v :: vs) 0 = some v := by
  unfold atD ixn
  simp
@[simp] theorem atD_1 (v w : Val) (vs : List Val) : atD (v :: w :: vs) 1 = some w := by
  have : (1 : Int) < ((v :: w :: vs).length : Nat) := by simp only [List.length_cons]; omega
  unfold atD ixn
  rw [if_pos (by decide), if_pos this]
  rfl
theorem atD_nat {vs : List Val} {n : Nat} (hn : n < vs.length) : atD vs (n : Int) = some vs[n] := by
  unfold atD ixn
  rw [if_pos (by omega), if_pos (by omega)]
  simp [hn]
/-- a loop's test, a loop's body, a comprehension's item -/
def cnd (W : Nat) (C : List Orc) (c : Ex) (σ : Sg) (h : Hq) : R Bool := tst (ev W C c) σ h
def bdy (W : Nat) (C : List Orc) (b : List St) (σ : Sg) (h : Hq) : RF := exs W C b σ h
def itm (W : Nat) (C : List Orc) (own : List Nat) (t : Tgt) (ifs : List Ex) (e : Ex) (σ : Sg) (v : Val) (h : Hq) : R (List Val) := match bindT h t v (wipe σ own) with
  | none => .no
  | some σ' => ((evI W C ifs σ' h).bind fun k h2 => if k then (ev W C e σ' h2).bind fun x h3 => .ok [x] h3 else .ok [] h2).quiet
@[simp] theorem e_lit (x : D) : ev W C (.lit x) σ h = .ok (.d x) h := by simp only [ev] <;> rfl
@[simp] theorem e_var (i : Nat) : ev W C (.var i) σ h = match σ[i]? with
    | some (some v) => .ok v h
    | _ => .no := by simp only [ev] <;> rfl
@[simp] theorem e_fnv (f : Nat) : ev W C (.fnv f) σ h = .ok (.fn f) h := by simp only [ev] <;> rfl
@[simp] theorem e_bin (o : Bop) (a b : Ex) : ev W C (.bin o a b) σ h = (ev W C a σ h).bind fun x h1 => (ev W C b σ h1).bind fun y h2 => binA o x y h2 := by simp only [ev] <;> rfl
@[simp] theorem e_neg (a : Ex) : ev W C (.neg a) σ h = (ev W C a σ h).bind fun x h1 => match intV x with
    | some i => .ok (.d (.int (-i))) h1
    | none => .no := by simp only [ev] <;> rfl
@[simp] theorem e_cmp (o : Cop) (a b : Ex) : ev W C (.cmp o a b) σ h = (ev W C a σ h).bind fun x h1 => (ev W C b σ h1).bind fun y h2 => (cmpV o x y h2).bind fun c h3 => .ok (.d (.bool c)) h3 := by simp only [ev] <;> rfl
@[simp] theorem e_chn (o o' : Cop) (a b c : Ex) : ev W C (.chn o o' a b c) σ h = (ev W C a σ h).bind fun x h1 => (ev W C b σ h1).bind fun y h2 => (cmpV o x y h2).bind fun k h3 =>
      if k then (ev W C c σ h3).bind fun z h4 => (cmpV o' y z h4).bind fun k' h5 => .ok (.d (.bool k')) h5 else .ok (.d (.bool false)) h3 := by simp only [ev] <;> rfl
@[simp] theorem e_and (a b : Ex) : ev W C (.and_ a b) σ h = (ev W C a σ h).bind fun x h1 => (tru x h1).bind fun k h2 => if k then ev W C b σ h2 else .ok x h2 := by simp only [ev] <;> rfl
@[simp] theorem e_or (a b : Ex) : ev W C (.or_ a b) σ h = (ev W C a σ h).bind fun x h1 => (tru x h1).bind fun k h2 => if k then .ok x h2 else ev W C b σ h2 := by simp only [ev] <;> rfl
@[simp] theorem e_not (a : Ex) : ev W C (.not_ a) σ h = (ev W C a σ h).bind fun x h1 => (tru x h1).bind fun k h2 => .ok (.d (.bool (!k))) h2 := by simp only [ev] <;> rfl
@[simp] theorem e_ife (c a b : Ex) : ev W C (.ife c a b) σ h = (ev W C c σ h).bind fun x h1 => (tru x h1).bind fun k h2 => if k then ev W C a σ h2 else ev W C b σ h2 := by simp only [ev] <;> rfl
@[simp] theorem e_tup (xs : List Ex) : ev W C (.tup xs) σ h = (evs W C xs σ h).bind fun vs h1 => (toDs vs h1).bind fun ds h2 => .ok (.d (.tuple ds)) h2 := by simp only [ev] <;> rfl
@[simp] theorem e_ofL (l : Lx) : ev W C (.ofL l) σ h = (evL W C l σ h).bind fun vs h1 => (toDs vs h1).bind fun ds h2 => .ok (.d (.list ds)) h2 := by simp only [ev] <;> rfl
@[simp] theorem e_new (l : Lx) : ev W C (.new l) σ h = (evL W C l σ h).bind fun vs h1 => .ok (.ref h1.length) (h1 ++ [.lst vs]) := by simp only [ev] <;> rfl
@[simp] theorem e_ix (a b : Ex) : ev W C (.ix a b) σ h = (ev W C a σ h).bind fun x h1 => (ev W C b σ h1).bind fun y h2 => ixV x y h2 := by simp only [ev] <;> rfl
@[simp] theorem e_slc (a : Ex) (lo hi : Option Ex) : ev W C (.slc a lo hi) σ h = (ev W C a σ h).bind fun x h1 => (evO W C lo σ h1).bind fun l h2 => (evO W C hi σ h2).bind fun u h3 => slcV x l u h3 := by simp only [ev] <;> rfl
@[simp] theorem e_prm (p : Prm) (xs : List Ex) : ev W C (.prm p xs) σ h = (evs W C xs σ h).bind fun vs h1 => prmV p vs h1 := by simp only [ev] <;> rfl
@[simp] theorem e_app (o a : Ex) : ev W C (.app o a) σ h = (ev W C o σ h).bind fun x h1 => (lstV x h1).bind fun _ h1 => (ev W C a σ h1).bind fun y h2 => appV x y h2 := by simp only [ev] <;> rfl
@[simp] theorem e_fmt (a : Ex) : ev W C (.fmt a) σ h = (ev W C a σ h).bind fun x h1 => match partS x with
    | some s => .ok (.d (.str s)) h1
    | none => .no := by simp only [ev] <;> rfl
@[simp] theorem e_fst (xs : List Ex) : ev W C (.fst xs) σ h = (evJ W C xs Str.empty σ h).bind fun s h1 => .ok (.d (.str s)) h1 := by simp only [ev] <;> rfl
@[simp] theorem e_frz (a : Ex) : ev W C (.frz a) σ h = (ev W C a σ h).bind fun x h1 => (toD x h1).bind fun d h2 => .ok (.d d) h2 := by simp only [ev] <;> rfl
@[simp] theorem e_tupO (a : Ex) : ev W C (.tupO a) σ h = (ev W C a σ h).bind fun x h1 => tupV x h1 := by simp only [ev] <;> rfl
@[simp] theorem e_pop (o : Ex) : ev W C (.pop o) σ h = (ev W C o σ h).bind fun x h1 => popV x h1 := by simp only [ev] <;> rfl
@[simp] theorem el_lst (a : Ex) : evL W C (.lst a) σ h = (ev W C a σ h).bind fun x h1 => match els h1 x with
    | some vs => .ok vs h1
    | none => .no := by simp only [evL] <;> rfl
@[simp] theorem e_told (ws : List Str) (a : Ex) : ev W C (.told ws a) σ h = toldV ws (ev W C a σ h) := by simp only [ev] <;> rfl
@[simp] theorem e_ext (o : Ex) (l : Lx) : ev W C (.ext o l) σ h = (ev W C o σ h).bind fun x h1 => (lstV x h1).bind fun _ h1 => (evL W C l σ h1).bind fun vs h2 => extV x vs h2 := by simp only [ev] <;> rfl
@[simp] theorem e_tix (o a : Ex) : ev W C (.tix o a) σ h = (ev W C o σ h).bind fun x h1 => (txV x h1).bind fun ds h1 => (ev W C a σ h1).bind fun y h2 => tixV ds y h2 := by simp only [ev] <;> rfl
@[simp] theorem e_tupX (xs : List Ex) : ev W C (.tupX xs) σ h = (evs W C xs σ h).bind fun vs h1 => (toDs vs h1).bind fun ds h2 => .ok (.ref h2.length) (h2 ++ [.tx ds]) := by simp only [ev] <;> rfl
@[simp] theorem e_repX (a b : Ex) : ev W C (.repX a b) σ h = (ev W C a σ h).bind fun x h1 => (txV x h1).bind fun ds h1 => (ev W C b σ h1).bind fun y h2 => repX x ds y h2 := by simp only [ev] <;> rfl
@[simp] theorem e_tupL (a : Ex) : ev W C (.tupL a) σ h = (ev W C a σ h).bind fun x h1 => match elsL h1 x with
    | some vs => (toDs vs h1).bind fun ds h2 => .ok (.ref h2.length) (h2 ++ [.tx ds])
    | none => .no := by simp only [ev] <;> rfl
@[simp] theorem e_dvm (a b : Ex) : ev W C (.dvm a b) σ h = (ev W C a σ h).bind fun x h1 => (ev W C b σ h1).bind fun y h2 => dvmV x y h2 := by simp only [ev] <;> rfl
@[simp] theorem e_lset (a : Ex) : ev W C (.lset a) σ h = (ev W C a σ h).bind fun x h1 => lsetV x h1 := by simp only [ev] <;> rfl
@[simp] theorem e_dnew (t : Bool) : ev W C (.dnew t) σ h = .ok (.ref h.length) (h ++ [.dct (if t then .t [] else .k [])]) := by simp only [ev] <;> rfl
@[simp] theorem e_ddsp (t : Bool) (k v : Ex) : ev W C (.ddsp t k v) σ h = (ev W C k σ h).bind fun x h1 => (ev W C v σ h1).bind fun y h2 => dspV t x y h2 := by simp only [ev] <;> rfl
@[simp] theorem el_cat (a b : Ex) : evL W C (.cat a b) σ h = (ev W C a σ h).bind fun x h1 => (ev W C b σ h1).bind fun y h2 => catL x y h2 := by simp only [evL] <;> rfl
@[simp] theorem el_rep (l : Lx) (b : Ex) : evL W C (.rep l b) σ h = (evL W C l σ h).bind fun vs h1 => (ev W C b σ h1).bind fun y h2 => repL vs y h2 := by simp only [evL] <;> rfl
@[simp] theorem es_nil : evs W C [] σ h = .ok [] h := by simp only [evs] <;> rfl
@[simp] theorem es_cons (e : Ex) (es : List Ex) : evs W C (e :: es) σ h = (ev W C e σ h).bind fun v h1 => (evs W C es σ h1).bind fun vs h2 => .ok (v :: vs) h2 := by simp only [evs] <;> rfl
@[simp] theorem eo_none : evO W C none σ h = .ok none h := by simp only [evO] <;> rfl
@[simp] theorem eo_some (e : Ex) : evO W C (some e) σ h = (ev W C e σ h).bind fun x h1 => match intV x with
    | some i => .ok (some i) h1
    | none => .no := by simp only [evO] <;> rfl
@[simp] theorem ei_nil : evI W C [] σ h = .ok true h := by simp only [evI] <;> rfl
@[simp] theorem ei_cons (e : Ex) (es : List Ex) : evI W C (e :: es) σ h = (ev W C e σ h).bind fun x h1 => (tru x h1).bind fun k h2 => if k then evI W C es σ h2 else .ok false h2 := by simp only [evI] <;> rfl
@[simp] theorem ej_nil (acc : Str) : evJ W C [] acc σ h = .ok acc h := by simp only [evJ] <;> rfl
@[simp] theorem ej_cons (e : Ex) (es : List Ex) (acc : Str) : evJ W C (e :: es) acc σ h = (ev W C e σ h).bind fun v h1 => match v with
    | .d (.str y) => if fits (acc ++ y).length then evJ W C es (acc ++ y) σ h1 else .no
    | _ => .no := by simp only [evJ] <;> rfl
@[simp] theorem el_dsp (xs : List Ex) : evL W C (.dsp xs) σ h = (evs W C xs σ h).bind fun vs h1 => if fits vs.length then .ok vs h1 else .no := by simp only [evL] <;> rfl
@[simp] theorem el_cmp (own : List Nat) (t : Tgt) (s : Sx) (ifs : List Ex) (e : Ex) : evL W C (.cmp own t s ifs e) σ h = (evS W C s σ h).bind fun sv h1 => match sv with
    | .data vs => if fits vs.length then cmpL (itm W C own t ifs e σ) vs h1 else .no
    | .obj _ => .no := by simp only [evL] <;> rfl
@[simp] theorem ex_val (a : Ex) : evS W C (.val a) σ h = (ev W C a σ h).bind fun x h1 => srcV x h1 := by simp only [evS] <;> rfl
@[simp] theorem ex_rng (a : Ex) : evS W C (.rng a) σ h = (ev W C a σ h).bind fun x h1 => match intV x with
    | some i => if okRng i then .ok (.data (rangeL 0 i.toNat)) h1 else .no
    | none => .no := by simp only [evS] <;> rfl
@[simp] theorem ex_rng2 (a b : Ex) : evS W C (.rng2 a b) σ h = (ev W C a σ h).bind fun x h1 => (ev W C b σ h1).bind fun y h2 => match intV x, intV y with
    | some i, some j => if okRng i && okRng j then .ok (.data (rangeL i (j - i).toNat)) h2 else .no
    | _, _ => .no := by simp only [evS] <;> rfl
@[simp] theorem ex_zip (a b : Ex) : evS W C (.zip a b) σ h = (ev W C a σ h).bind fun x h1 => (ev W C b σ h1).bind fun y h2 => match x, y with
    | .d (.list xs), .d (.list ys) => .ok (.data ((xs.zip ys).map fun p => .d (.tuple [p.1, p.2]))) h2
    | _, _ => .no := by simp only [evS] <;> rfl
@[simp] theorem x_set (i : Nat) (e : Ex) : ex W C (.set i e) σ h = (ev W C e σ h).thn σ fun v h1 => .ok (.nx (σ.set i (some v))) h1 := by simp only [ex] <;> rfl
@[simp] theorem x_asg (t : Tgt) (e : Ex) : ex W C (.asg t e) σ h = (ev W C e σ h).thn σ fun v h1 => match bindT h1 t v σ with
    | some σ' => .ok (.nx σ') h1
    | none => .no := by simp only [ex] <;> rfl
@[simp] theorem x_par (i j : Nat) (a b : Ex) : ex W C (.par i j a b) σ h = (ev W C a σ h).thn σ fun v h1 => (ev W C b σ h1).thn σ fun w h2 => .ok (.nx ((σ.set i (some v)).set j (some w))) h2 := by simp only [ex] <;> rfl
@[simp] theorem x_six (o i e : Ex) : ex W C (.six o i e) σ h = (ev W C e σ h).thn σ fun v h1 => (ev W C o σ h1).thn σ fun x h2 => (ev W C i σ h2).thn σ fun y h3 => (setV x y v h3).thn σ fun _ h4 => .ok (.nx σ) h4 := by simp only [ex] <;> rfl
@[simp] theorem x_exp (e : Ex) : ex W C (.exp e) σ h = (ev W C e σ h).thn σ fun _ h1 => .ok (.nx σ) h1 := by simp only [ex] <;> rfl
@[simp] theorem x_iff (c : Ex) (a b : List St) : ex W C (.iff c a b) σ h = (cnd W C c σ h).thn σ fun k h2 => if k then exs W C a σ h2 else exs W C b σ h2 := by simp only [ex] <;> rfl
@[simp] theorem x_for (t : Tgt) (s : Sx) (b : List St) : ex W C (.for_ t s b) σ h = (evS W C s σ h).thn σ fun sv h1 => match sv with
    | .data vs => forL (turnV t (bdy W C b)) vs σ h1
    | .obj n => forO (turnV t (bdy W C b)) n W 0 σ h1 := by simp only [ex] <;> rfl
@[simp] theorem x_whl (c : Ex) (b : List St) : ex W C (.whl c b) σ h = whlN (cnd W C c) (bdy W C b) W σ h := by simp only [ex] <;> rfl
@[simp] theorem x_ret (e : Ex) : ex W C (.ret e) σ h = (ev W C e σ h).thn σ fun v h1 => .ok (.rt v) h1 := by simp only [ex] <;> rfl
@[simp] theorem x_retN : ex W C .retN σ h = .ok (.rt (.d .none)) h := by simp only [ex] <;> rfl
@[simp] theorem x_brk : ex W C .brk σ h = .ok (.bk σ) h := by simp only [ex] <;> rfl
@[simp] theorem x_cnt : ex W C .cnt σ h = .ok (.ct σ) h := by simp only [ex] <;> rfl
@[simp] theorem x_pas : ex W C .pas σ h = .ok (.nx σ) h := by simp only [ex] <;> rfl
@[simp] theorem x_rse (c : Nat) : ex W C (.rse c) σ h = .er ⟨c, none⟩ σ h := by simp only [ex] <;> rfl
@[simp] theorem xs_nil : exs W C [] σ h = .ok (.nx σ) h := by simp only [exs] <;> rfl
@[simp] theorem xs_cons (s : St) (ss : List St) : exs W C (s :: ss) σ h = (ex W C s σ h).thn fun σ' h1 => exs W C ss σ' h1 := by simp only [exs] <;> rfl
@[simp] theorem thn_rt (v : Val) (h : Hq) (f : Sg → Hq → RF) : (RF.ok (.rt v) h).thn f = .ok (.rt v) h := rfl
@[simp] theorem thn_bk (f : Sg → Hq → RF) : (RF.ok (.bk σ) h).thn f = .ok (.bk σ) h := rfl
@[simp] theorem thn_ct (f : Sg → Hq → RF) : (RF.ok (.ct σ) h).thn f = .ok (.ct σ) h := rfl
@[simp] theorem thn_er (e : Exc) (f : Sg → Hq → RF) : (RF.er e σ h).thn f = .er e σ h := rfl
@[simp] theorem turn_rt (v : Val) (h : Hq) (f : Sg → Hq → RF) : (RF.ok (.rt v) h).turn f = .ok (.rt v) h := rfl
@[simp] theorem turn_er (e : Exc) (f : Sg → Hq → RF) : (RF.er e σ h).turn f = .er e σ h := rfl
@[simp] theorem forL_nil (f : Val → Sg → Hq → RF) : forL f [] σ h = .ok (.nx σ) h := rfl
theorem forL_cons (f : Val → Sg → Hq → RF) (v : Val) (vs : List Val) : forL f (v :: vs) σ h = (f v σ h).turn fun σ' h1 => forL f vs σ' h1 := rfl
@[simp] theorem cmpL_nil (f : Val → Hq → R (List Val)) : cmpL f [] h = .ok [] h := rfl
theorem cmpL_cons (f : Val → Hq → R (List Val)) (v : Val) (vs : List Val) : cmpL f (v :: vs) h = (f v h).bind fun ws h1 => (cmpL f vs h1).bind fun us h2 => .ok (ws ++ us) h2 := rfl
@[simp] theorem bindT_nm (i : Nat) (v : Val) : bindT h (.nm i) v σ = some (σ.set i (some v)) := rfl
/-- a call by the table -/
@[simp] theorem ev_call (f : Nat) (xs : List Ex) (σ : Sg) (h : Hq) : ev W (orcs T W (j + 1)) (.call f xs) σ h = (evs W (orcs T W (j + 1)) xs σ h).bind fun vs h1 => match T[f]? with
    | some fn => callR W (orcs T W j) fn vs h1
    | none => .no := by
  have e2 : orcs T W (j + 1) = (fun f vs h => match T[f]? with
    | some fn => callR W (orcs T W j) fn vs h
    | none => .no) :: orcs T W j := rfl
  rw [e2]
  simp only [ev]
/-- a pure def over data -/
theorem call_p {fn : Fn} {ds : List D} {x : D} {v : Val} {h1 h2 : Hq} (hp : fn.pure = true) (hl : ds.length = fn.ps) (e : run W C fn (ds.map .d) [] = .ok v h1) (e2 : toD v h1 = .ok x h2) : callR W C fn (ds.map .d) h = .ok (.d x) h := by
  have ha : allDat (ds.map Val.d) = true := by
    clear e hl
    induction ds with
    | nil => rfl
    | cons d ds ih => exact ih
  unfold callR
  rw [if_pos (by rw [List.length_map]; exact hl), if_pos hp, pks_map]
  simp only [e, e2, ha, Bool.or_true, if_true]
theorem call_pd {fn : Fn} {ds : List D} {x : D} {h1 : Hq} (hp : fn.pure = true) (hl : ds.length = fn.ps) (e : run W C fn (ds.map .d) [] = .ok (.d x) h1) : callR W C fn (ds.map .d) h = .ok (.d x) h := call_p hp hl e rfl
/-- a def over this run's objects -/
theorem call_s {fn : Fn} {vs : List Val} {x : D} {v : Val} {h1 h2 : Hq} (hp : fn.pure = false) (hl : vs.length = fn.ps) (e : run W C fn vs h = .ok v h1) (e2 : toD v h1 = .ok x h2) (hc : closed h.length (h2.take h.length) = true) : callR W C fn vs h = .ok (.d x) (h2.take h.length) := by
  unfold callR
  rw [if_pos hl, if_neg (by rw [hp]; decide)]
  simp only [e, e2, hc, if_true]
end

/-! ### how long a text is -/
mutual
def sz : D → Nat
  | .none => 4
  | .bool _ => 5
  | .int _ => 2000
  | .str x => (reprText x).length
  | .list xs => 2 + szAll xs
  | .tuple xs => 4 + szAll xs
  | .dict _ => 0
def szAll : List D → Nat
  | [] => 0
  | x :: xs => sz x + 2 + szAll xs
end
theorem textFrom_le : ∀ (ts : List Str) (k : Nat) (acc : Str) (m : Nat), (ts.map fun t => t.length + 2).sum ≤ m → (textFrom k acc ts).length ≤ acc.length + m
  | [], k, acc, m, _ => by show acc.length ≤ _; omega
  | t :: r, k, acc, m, h => by
    simp only [List.map_cons, List.sum_cons] at h
    have e : (acc ++ (if k > 0 then ", " else "" : String) ++ t).length = acc.length + (if k > 0 then 2 else 0) + t.length := by
      rw [strLen_append, strLen_append]
      congr 2
      split <;> rfl
    have := textFrom_le r (k + 1) (acc ++ (if k > 0 then ", " else "" : String) ++ t) (m - (t.length + 2)) (by omega)
    show (textFrom (k + 1) (acc ++ (if k > 0 then ", " else "" : String) ++ t) r).length ≤ _
    have e2 : (if k > 0 then 2 else 0 : Nat) ≤ 2 := by split <;> omega
    generalize (textFrom (k + 1) (acc ++ (if k > 0 then ", " else "" : String) ++ t) r).length = z at this ⊢
    omega
theorem piled_is (ts : List Str) : piled ts = (ts.map fun t => t.length + 2).sum := by
  induction ts with
  | nil => rfl
  | cons t r ih => simp only [piled, List.map_cons, List.sum_cons] at ih ⊢; try omega
mutual
theorem shown_le : ∀ x : D, x.showable = true → x.hasDict = false → x.shown.length ≤ sz x
  | .none, _, _ => by decide
  | .bool b, _, _ => by cases b <;> decide
  | .int i, h, _ => by
    have h : i.natAbs.log2 < 1920 := of_decide_eq_true h
    show (Str.ofString (toString i)).length ≤ 2000
    have e := int_text_length_le (k := 1920) (by decide) h
    rw [ofString_length]
    omega
  | .str x, _, _ => Nat.le_refl _
  | .list xs, h, d => by
    have := shownAll_le xs h d
    show (listText (PyData.shownAll xs)).length ≤ 2 + szAll xs
    unfold listText
    rw [strLen_append]
    have e := textFrom_le (PyData.shownAll xs) 0 "[" _ this
    have e1 : (("[" : String) : Str).length = 1 := rfl
    have e2 : (("]" : String) : Str).length = 1 := rfl
    omega
  | .tuple xs, h, d => by
    have := shownAll_le xs h d
    show (tupleText (PyData.shownAll xs)).length ≤ 4 + szAll xs
    unfold tupleText
    rw [strLen_append, strLen_append]
    have e1 : (("(" : String) : Str).length = 1 := rfl
    have e3 : ((if (PyData.shownAll xs).length == 1 then ",)" else ")" : String) : Str).length ≤ 2 := by split <;> decide
    have e4 : (Str.join ", " (PyData.shownAll xs)).length ≤ (List.map (fun t => t.length + 2) (PyData.shownAll xs)).sum := by
      by_cases hn : PyData.shownAll xs = []
      · rw [hn]; decide
      · have := join_length_add _ hn
        rw [piled_is] at this
        omega
    omega
  | .dict _, _, d => by cases d
theorem shownAll_le : ∀ xs : List D, PyData.showableAll xs = true → PyData.hasDictAll xs = false → ((PyData.shownAll xs).map fun t => t.length + 2).sum ≤ szAll xs
  | [], _, _ => Nat.le_refl _
  | x :: xs, h, d => by
    simp only [PyData.showableAll, Bool.and_eq_true] at h
    simp only [PyData.hasDictAll, Bool.or_eq_false_iff] at d
    have h1 := shown_le x h.1 d.1
    have h2 := shownAll_le xs h.2 d.2
    simp only [PyData.shownAll, List.map_cons, List.sum_cons, szAll]
    omega
end
/-- what repr([x]) may be asked of -/
structure OkR (x : D) : Prop where
  sh : x.showable = true
  nd : x.hasDict = false
  dp : x.depth ≤ 50
  sz : sz x ≤ 16000000
theorem repr_1 {x : D} (o : OkR x) : prmD .repr [.list [x]] = some (.str (PyData.list [x]).shown) := by
  have h1 : (PyData.list [x]).showable = true := by
    show (x.showable && true) = true
    rw [o.sh]; rfl
  have h2 : (PyData.list [x]).hasDict = false := by
    show (x.hasDict || false) = false
    rw [o.nd]; rfl
  have h3 : (PyData.list [x]).depth ≤ 60 := by
    show max x.depth 0 + 1 ≤ 60
    have := o.dp
    omega
  have h4 : fits (PyData.list [x]).shown.length = true := by
    have := shown_le _ h1 h2
    have e : sz (.list [x]) = 2 + (sz x + 2 + 0) := rfl
    have := o.sz
    exact decide_eq_true (by omega)
  show (if (PyData.list [x]).showable && !(PyData.list [x]).hasDict && decide ((PyData.list [x]).depth ≤ 60) && fits (PyData.list [x]).shown.length then _ else _) = _
  rw [h1, h2, decide_eq_true h3, h4]
  rfl
/-- the two are shown alike -/
def sameFn : Fn := ⟨2, 2, true, [.ret (.cmp .eq (.prm .repr [(.ofL (.dsp [(.var 0)]))]) (.prm .repr [(.ofL (.dsp [(.var 1)]))]))]⟩
theorem same_ok {W : Nat} {C : List Orc} {x : D} {h : Hq} (o : OkR x) : callR W C sameFn [.d x, .d x] h = .ok (.d (.bool true)) h := by
  refine call_pd (ds := [x, x]) rfl rfl (h1 := []) ?_
  simp [Ip.run, sameFn, fits, repr_1 o]
end Ip
/-! ### sizes, loops -/
namespace Ip
open PySem
def Sm (n : Nat) (x : Int) : Prop := x.natAbs < 2 ^ n
theorem Sm.mono {n m : Nat} {x : Int} (h : Sm n x) (hm : n ≤ m) : Sm m x := Nat.lt_of_lt_of_le h (Nat.pow_le_pow_right (by decide) hm)
theorem Sm.mul {n m : Nat} {x y : Int} (h : Sm n x) (k : Sm m y) : Sm (n + m) (x * y) := by
  unfold Sm at *
  rw [Int.natAbs_mul, Nat.pow_add]
  exact Nat.mul_lt_mul'' h k
theorem Sm.add {n : Nat} {x y : Int} (h : Sm n x) (k : Sm n y) : Sm (n + 1) (x + y) := by
  unfold Sm at *
  have := Int.natAbs_add_le x y
  rw [Nat.pow_succ]
  omega
theorem Sm.neg {n : Nat} {x : Int} (h : Sm n x) : Sm n (-x) := by unfold Sm at *; rw [Int.natAbs_neg]; exact h
theorem Sm.log {n : Nat} {x : Int} (h : Sm n x) : x.natAbs.log2 ≤ n := by
  by_cases h0 : x.natAbs = 0
  · rw [h0]; exact Nat.zero_le _
  · exact Nat.le_of_lt ((Nat.log2_lt h0).mpr h)
theorem Sm.le {n : Nat} {x y : Int} (h : Sm n x) (k : y.natAbs ≤ x.natAbs) : Sm n y := Nat.lt_of_le_of_lt k h
theorem okMul_sm {n m : Nat} {x y : Int} (h : Sm n x) (k : Sm m y) (hn : n + m < 900000) : okMul x y = true := by
  have := h.log
  have := k.log
  exact decide_eq_true (by omega)
theorem okDiv_sm {n : Nat} {x : Int} (h : Sm n x) (h0 : x ≠ 0) (hn : n < 8000) : okDiv x = true := by
  have := h.log
  unfold okDiv
  rw [decide_eq_true h0, decide_eq_true (by omega : x.natAbs.log2 < 8000)]
  rfl
theorem OkR.int {n : Nat} {x : Int} (h : Sm n x) (hn : n < 1920) : OkR (.int x) := by
  have := h.log
  exact ⟨decide_eq_true (by omega : x.natAbs.log2 < 1920), rfl, Nat.zero_le _, (by show 2000 ≤ 16000000; decide)⟩
/-- a walk that keeps P; a turn adds one -/
theorem forL_cnt {N : Nat} {f : Val → Sg → Hq → RF} {P : Nat → Sg → Hq → Prop} (mono : ∀ n σ h, P n σ h → P (n + 1) σ h) : ∀ (vs : List Val) (n : Nat) (σ : Sg) (h : Hq),
    (∀ v ∈ vs, ∀ n σ h, n < N → P n σ h → ∃ σ' h', P (n + 1) σ' h' ∧ (f v σ h = .ok (.nx σ') h' ∨ f v σ h = .ok (.ct σ') h' ∨ f v σ h = .ok (.bk σ') h')) → n + vs.length ≤ N → P n σ h → ∃ σ' h', P (n + vs.length) σ' h' ∧ forL f vs σ h = .ok (.nx σ') h'
  | [], n, σ, h, _, _, p => ⟨σ, h, p, rfl⟩
  | v :: vs, n, σ, h, st, hN, p => by
    rw [List.length_cons] at hN
    obtain ⟨σ1, h1, p1, e⟩ := st v List.mem_cons_self n σ h (by omega) p
    have up : ∀ k, P (n + 1 + k) σ1 h1 := fun k => by
      induction k with
      | zero => exact p1
      | succ k ih => exact mono _ _ _ ih
    obtain ⟨σ2, h2, p2, e2⟩ := forL_cnt mono vs (n + 1) σ1 h1 (fun v hv => st v (List.mem_cons_of_mem _ hv)) (by omega) p1
    have el : n + 1 + vs.length = n + (v :: vs).length := by rw [List.length_cons]; omega
    rw [forL_cons]
    rcases e with e | e | e
    · rw [e]; exact ⟨σ2, h2, el ▸ p2, e2⟩
    · rw [e]; exact ⟨σ2, h2, el ▸ p2, e2⟩
    · rw [e]; exact ⟨σ1, h1, el ▸ up vs.length, rfl⟩
/-- a comprehension: each item keeps P and gives one value of kind K -/
theorem cmpL_cnt {N : Nat} {f : Val → Hq → R (List Val)} {P : Nat → Hq → Prop} {K : Val → Prop} : ∀ (vs : List Val) (n : Nat) (h : Hq),
    (∀ v ∈ vs, ∀ n h, n < N → P n h → ∃ x h', P (n + 1) h' ∧ K x ∧ f v h = .ok [x] h') → n + vs.length ≤ N → P n h → ∃ xs h', P (n + vs.length) h' ∧ xs.length = vs.length ∧ (∀ x ∈ xs, K x) ∧ cmpL f vs h = .ok xs h'
  | [], n, h, _, _, p => ⟨[], h, p, rfl, fun x hx => (by cases hx), rfl⟩
  | v :: vs, n, h, st, hN, p => by
    rw [List.length_cons] at hN
    obtain ⟨x, h1, p1, k1, e⟩ := st v List.mem_cons_self n h (by omega) p
    obtain ⟨xs, h2, p2, l2, k2, e2⟩ := cmpL_cnt vs (n + 1) h1 (fun v hv => st v (List.mem_cons_of_mem _ hv)) (by omega) p1
    have el : n + 1 + vs.length = n + (v :: vs).length := by rw [List.length_cons]; omega
    refine ⟨x :: xs, h2, el ▸ p2, by rw [List.length_cons, List.length_cons, l2], fun y hy => ?_, ?_⟩
    · rcases List.mem_cons.mp hy with rfl | hy
      · exact k1
      · exact k2 y hy
    · rw [cmpL_cons, e]
      simp only [R.bind_ok, e2, List.cons_append, List.nil_append]
/-- a comprehension whose items do not touch the heap -/
theorem cmpL_map {f : Val → Hq → R (List Val)} {g : Val → Val} {h : Hq} : ∀ (vs : List Val), (∀ v ∈ vs, f v h = .ok [g v] h) → cmpL f vs h = .ok (vs.map g) h
  | [], _ => rfl
  | v :: vs, st => by
    rw [cmpL_cons, st v List.mem_cons_self]
    simp only [R.bind_ok, cmpL_map vs fun v hv => st v (List.mem_cons_of_mem _ hv), List.cons_append, List.nil_append, List.map_cons]
theorem rangeL_len : ∀ (n : Nat) (i : Int), (rangeL i n).length = n
  | 0, _ => rfl
  | n + 1, i => by unfold rangeL; rw [List.length_cons, rangeL_len n]
theorem rangeL_mem : ∀ {n : Nat} {i : Int} {v : Val}, v ∈ rangeL i n → ∃ k : Int, v = .d (.int k) ∧ i ≤ k ∧ k < i + n
  | 0, _, _, h => by cases h
  | n + 1, i, v, h => by
    unfold rangeL at h
    rcases List.mem_cons.mp h with rfl | h
    · exact ⟨i, rfl, Int.le_refl _, by omega⟩
    · obtain ⟨k, e, h1, h2⟩ := rangeL_mem h
      exact ⟨k, e, by omega, by omega⟩
end Ip
namespace Ip
open PySem
/-- a walk that is a fold -/
theorem forL_fold {α β : Type} {N : Nat} {f : Val → Sg → Hq → RF} {h : Hq} (val : α → Val) (st : β → Option Val → Sg) (g : β → α → β) (P : Nat → β → Prop) : ∀ (as : List α) (n : Nat) (b : β) (k : Option Val),
    (∀ a ∈ as, ∀ n b k, n < N → P n b → P (n + 1) (g b a) ∧ f (val a) (st b k) h = .ok (.nx (st (g b a) (some (val a)))) h) → n + as.length ≤ N → P n b → ∃ k', forL f (as.map val) (st b k) h = .ok (.nx (st (as.foldl g b) k')) h ∧ P (n + as.length) (as.foldl g b)
  | [], n, b, k, _, _, p => ⟨k, rfl, p⟩
  | a :: as, n, b, k, s, hN, p => by
    rw [List.length_cons] at hN
    obtain ⟨p1, e1⟩ := s a List.mem_cons_self n b k (by omega) p
    obtain ⟨k', e2, p2⟩ := forL_fold val st g P as (n + 1) (g b a) (some (val a)) (fun x hx => s x (List.mem_cons_of_mem _ hx)) (by omega) p1
    refine ⟨k', ?_, ?_⟩
    · rw [List.map_cons, forL_cons, e1]
      exact e2
    · have el : n + 1 + as.length = n + (a :: as).length := by rw [List.length_cons]; omega
      exact el ▸ p2
@[simp] theorem srcV_l (xs : List D) (h : Hq) : srcV (.d (.list xs)) h = .ok (.data (xs.map .d)) h := rfl
@[simp] theorem srcV_t (xs : List D) (h : Hq) : srcV (.d (.tuple xs)) h = .ok (.data (xs.map .d)) h := rfl
end Ip
namespace Ip
open PySem
theorem cutD_map {α β : Type} (f : α → β) (xs : List α) (l u : Option Int) : cutD (xs.map f) l u = (cutD xs l u).map f := by
  unfold cutD
  rw [List.length_map, ← List.map_drop, ← List.map_take]
@[simp] theorem slcV_l (xs : List D) (l u : Option Int) (h : Hq) : slcV (.d (.list xs)) l u h = .ok (.d (.list (cutD xs l u))) h := by
  show ((toDs (cutD (xs.map Val.d) l u) h).bind fun ds h1 => R.ok (Val.d (.list ds)) h1) = _
  rw [cutD_map, toDs_map]; rfl
@[simp] theorem cutD_1 {α : Type} (x : α) (xs : List α) : cutD (x :: xs) (some 1) none = xs := by
  unfold cutD cutIx
  have : min (1 : Int).toNat (x :: xs).length = 1 := by rw [List.length_cons]; show min 1 _ = 1; omega
  simp only [show ¬ ((1 : Int) < 0) by decide, if_false, this]
  simp
end Ip
namespace Ip
open PySem
@[simp] theorem toDs_comp {α : Type} (f : α → D) (xs : List α) (h : Hq) : toDs (xs.map (Val.d ∘ f)) h = .ok (xs.map f) h := by
  rw [← List.map_map, toDs_map]
@[simp] theorem toDs_map' (xs : List D) (h : Hq) : toDs (xs.map .d) h = .ok xs h := toDs_map xs
theorem fits_le {n : Nat} (h : n ≤ 16777216) : fits n = true := decide_eq_true h
/-- a number's text -/
def tx (i : Int) : Str := toString i
@[simp] theorem partS_i (i : Int) : partS (.d (.int i)) = if i.natAbs.log2 < 1920 then some (tx i) else none := rfl
@[simp] theorem partS_s (s : Str) : partS (.d (.str s)) = if fits s.length then some s else none := rfl
@[simp] theorem prm_str (i : Int) : prmD .str [.int i] = if i.natAbs.log2 < 1920 then some (.str (tx i)) else none := rfl
@[simp] theorem binD_cat (x y : Str) : binD .add (.str x) (.str y) = if fits (x.length + y.length) then some (.str (x ++ y)) else none := rfl
@[simp] theorem binD_pow (i k : Int) : binD .pow (.int i) (.int k) = if okPow i k then some (.int (i ^ k.toNat)) else none := rfl
theorem text_le {n : Nat} {i : Int} (h : Sm n i) (hn : n < 1920) : (tx i).length ≤ 2000 := by
  have e := int_text_length_le (k := 1920) (by decide) (show i.natAbs.log2 < 1920 by have := h.log; omega)
  show (Str.ofString (toString i)).length ≤ 2000
  rw [ofString_length]
  omega
end Ip
namespace Ip
open PySem
theorem pk_d (h : Hq) (n : Nat) (x : D) : pk h n (.d x) = some x := by cases n <;> rfl
theorem allO_map (h : Hq) (n : Nat) : ∀ xs : List D, allO (pk h n) (xs.map .d) = some xs
  | [] => rfl
  | x :: xs => by
    show (match pk h n (.d x), allO (pk h n) (xs.map .d) with | some a, some b => some (a :: b) | _, _ => none) = _
    rw [pk_d, allO_map h n xs]
/-- a list object of data -/
def obj (xs : List D) : IO := .lst (xs.map .d)
theorem peek_obj {h : Hq} {n : Nat} {xs : List D} (e : h[n]? = some (obj xs)) : peek h (.ref n) = some (.list xs) := by
  unfold peek pk
  simp only [e, obj, allO_map, Option.map_some]
theorem prmV_obj {h : Hq} {n : Nat} {xs : List D} (p : Prm) (e : h[n]? = some (obj xs)) : prmV p [.ref n] h = match prmD p [.list xs] with
    | some c => .ok (.d c) h
    | none => .no := by
  have e2 : pks h 3 [.ref n] = some [.list xs] := by
    show (match peek h (.ref n), some ([] : List D) with | some a, some b => some (a :: b) | _, _ => none) = _
    rw [peek_obj e]
  unfold prmV
  simp only [e2]
  try rfl
theorem appV_obj {h : Hq} {n : Nat} {xs : List D} (x : D) (e : h[n]? = some (obj xs)) (hl : xs.length < 16777216) : appV (.ref n) (.d x) h = .ok (.d .none) (h.set n (obj (xs ++ [x]))) := by
  unfold appV
  simp only [e, obj, List.length_map, hl, if_true, List.map_append, List.map_cons, List.map_nil]
theorem lstV_obj {h : Hq} {n : Nat} {xs : List D} (e : h[n]? = some (obj xs)) : lstV (.ref n) h = .ok () h := by
  unfold lstV
  simp only [e, obj]
theorem toD_obj {h : Hq} {n : Nat} {xs : List D} (e : h[n]? = some (obj xs)) : toD (.ref n) h = .ok (.list xs) (h.set n (.dead (.list xs))) := by
  unfold toD
  simp only [e, obj, dats_map]
end Ip
namespace Ip
open PySem
theorem okRng_of {i : Int} (h1 : 0 ≤ i) (h2 : i < 1000000000) : okRng i = true := by
  have h : Sm 30 i := by unfold Sm; omega
  have := h.log
  exact decide_eq_true (by omega)
end Ip

set_option linter.all false
set_option Elab.async false
set_option autoImplicit false
set_option maxRecDepth 100000
namespace K13
open PySem L2 PyProof.Rows Ip
/-! ### the text, as the evaluator has it -/
def topS (i : Nat) : Stmt := PySem.Challenge.pw_cellshapes_k13_whole_bars_in_boxes.main.body.getD i (.Pass ⟨0, 0, 0, 0⟩)
def toldWs : List Str := ["refused"]
/-- bars_fill -/
def b_bars_fill : List Ip.St :=
  [.iff (.or_ (.not_ (.chn .le .le (.lit (.int 1)) (.prm .len [(.var 0)]) (.lit (.int 6)))) (.or_ (.not_ (.prm .all [(.ofL (.cmp [2] (.nm 2) (.val (.var 0)) [] (.chn .le .le (.lit (.int 1)) (.var 2) (.lit (.int 1000000)))))])) (.not_ (.chn .le .le (.lit (.int 1)) (.var 1) (.lit (.int 1000000))))))
     [.rse 0]
     [],
   .ret (.prm .any [(.ofL (.cmp [2] (.nm 2) (.val (.var 0)) [] (.cmp .eq (.bin .mod (.var 2) (.var 1)) (.lit (.int 0)))))])]
def f_bars_fill : Fn := ⟨2, 3, true, b_bars_fill⟩
/-- colour_counts -/
def b_colour_counts : List Ip.St :=
  [.iff (.or_ (.not_ (.chn .le .le (.lit (.int 1)) (.prm .len [(.var 0)]) (.lit (.int 6)))) (.or_ (.not_ (.prm .all [(.ofL (.cmp [3] (.nm 3) (.val (.var 0)) [] (.chn .le .le (.lit (.int 1)) (.var 3) (.lit (.int 1000)))))])) (.not_ (.chn .le .le (.lit (.int 1)) (.var 1) (.lit (.int 1000))))))
     [.rse 0]
     [],
   .set 2 (.new (.cat (.ofL (.dsp [(.lit (.int 1))])) (.ofL (.rep (.dsp [(.lit (.int 0))]) (.bin .sub (.var 1) (.lit (.int 1))))))),
   .for_ (.nm 3) (.val (.var 0))
     [.set 4 (.new (.rep (.dsp [(.lit (.int 0))]) (.var 1))),
      .asg (.tp [7, 8]) (.dvm (.var 3) (.var 1)),
      .set 5 (.prm .sum [(.var 2)]),
      .for_ (.nm 6) (.rng (.var 1))
        [.six (.var 4) (.var 6) (.bin .add (.bin .mul (.var 7) (.var 5)) (.prm .sum [(.ofL (.cmp [9] (.nm 9) (.rng (.var 8)) [] (.ix (.var 2) (.bin .mod (.bin .sub (.var 6) (.var 9)) (.var 1)))))]))],
      .set 2 (.var 4)],
   .ret (.tupO (.var 2))]
def f_colour_counts : Fn := ⟨2, 10, true, b_colour_counts⟩
/-- _law_same -/
def b__law_same : List Ip.St :=
  [.ret (.cmp .eq (.prm .repr [(.ofL (.dsp [(.var 0)]))]) (.prm .repr [(.ofL (.dsp [(.var 1)]))]))]
def f__law_same : Fn := ⟨2, 2, true, b__law_same⟩
/-- _law_stream -/
def b__law_stream : List Ip.St :=
  [.set 1 (.new (.dsp [])),
   .for_ (.nm 2) (.val (.slc (.var 0) none (some (.lit (.int 63)))))
     [.set 3 (.prm .abs [(.prm .int [(.var 2)])]),
      .iff (.cmp .ge (.var 3) (.bin .pow (.lit (.int 10)) (.lit (.int 18))))
        [.for_ (.nm 4) (.rng (.lit (.int 60)))
           [.exp (.app (.var 1) (.bin .mod (.prm .int [(.var 3)]) (.lit (.int 1009)))),
            .set 3 (.bin .fdiv (.var 3) (.lit (.int 1009))),
            .iff (.cmp .eq (.var 3) (.lit (.int 0)))
              [.brk]
              []]]
        [.set 5 (.bin .mod (.prm .int [(.var 3)]) (.lit (.int 2147483647))),
         .for_ (.nm 4) (.rng (.lit (.int 10)))
           [.set 5 (.bin .mod (.prm .int [(.bin .add (.bin .add (.bin .mul (.var 5) (.lit (.int 48271))) (.bin .mul (.lit (.int 7)) (.var 4))) (.lit (.int 11)))]) (.lit (.int 2147483647))),
            .exp (.app (.var 1) (.bin .mod (.bin .mod (.prm .int [(.bin .add (.bin .mul (.var 5) (.lit (.int 69621))) (.var 4))]) (.lit (.int 2147483629))) (.lit (.int 1009))))]]],
   .iff (.cmp .eq (.prm .len [(.var 1)]) (.lit (.int 0)))
     [.exp (.app (.var 1) (.lit (.int 0)))]
     [],
   .ret (.var 1)]
def f__law_stream : Fn := ⟨1, 6, true, b__law_stream⟩
/-- _law_next -/
def b__law_next : List Ip.St :=
  [.six (.var 0) (.lit (.int 1)) (.bin .add (.ix (.var 0) (.lit (.int 1))) (.lit (.int 1))),
   .set 2 (.bin .fdiv (.ix (.var 0) (.lit (.int 1))) (.prm .len [(.ix (.var 0) (.lit (.int 0)))])),
   .ret (.bin .mod (.prm .int [(.bin .add (.bin .add (.ix (.ix (.var 0) (.lit (.int 0))) (.bin .mod (.ix (.var 0) (.lit (.int 1))) (.prm .len [(.ix (.var 0) (.lit (.int 0)))]))) (.bin .mul (.var 2) (.lit (.int 389)))) (.bin .mul (.bin .mul (.ix (.var 0) (.lit (.int 1))) (.var 2)) (.lit (.int 17))))]) (.var 1))]
def f__law_next : Fn := ⟨2, 3, false, b__law_next⟩
/-- _law_places -/
def b__law_places : List Ip.St :=
  [.set 1 (.new (.dsp [(.tup [])])),
   .for_ (.nm 2) (.val (.var 0))
     [.set 3 (.new (.dsp [])),
      .for_ (.nm 4) (.val (.var 1))
        [.exp (.ext (.var 3) (.cmp [5] (.nm 5) (.rng (.var 2)) [] (.bin .add (.var 4) (.tup [(.var 5)]))))],
      .set 1 (.var 3)],
   .ret (.var 1)]
def f__law_places : Fn := ⟨1, 6, true, b__law_places⟩
/-- _law_counts -/
def b__law_counts : List Ip.St :=
  [.set 2 (.new (.cat (.ofL (.dsp [(.lit (.int 1))])) (.ofL (.rep (.dsp [(.lit (.int 0))]) (.bin .sub (.var 1) (.lit (.int 1))))))),
   .for_ (.nm 3) (.val (.var 0))
     [.set 4 (.new (.rep (.dsp [(.lit (.int 0))]) (.var 1))),
      .for_ (.nm 5) (.rng (.var 1))
        [.set 6 (.bin .add (.bin .fdiv (.var 3) (.var 1)) (.prm .int [(.cmp .lt (.var 5) (.bin .mod (.prm .int [(.var 3)]) (.var 1)))])),
         .for_ (.nm 7) (.rng (.var 1))
           [.six (.var 4) (.bin .mod (.prm .int [(.bin .add (.var 7) (.var 5))]) (.var 1)) (.bin .add (.ix (.var 4) (.bin .mod (.prm .int [(.bin .add (.var 7) (.var 5))]) (.var 1))) (.bin .mul (.var 6) (.ix (.var 2) (.var 7))))]],
      .set 2 (.var 4)],
   .ret (.tupO (.var 2))]
def f__law_counts : Fn := ⟨2, 8, true, b__law_counts⟩
/-- _law_found -/
def b__law_found : List Ip.St :=
  [.set 2 (.call 5 [(.var 0)]),
   .set 3 (.dnew true),
   .for_ (.nm 4) (.rng (.prm .len [(.var 2)]))
     [.six (.var 3) (.ix (.var 2) (.var 4)) (.var 4)],
   .set 5 (.new (.dsp [(.repX (.tupX [(.lit (.int 0))]) (.prm .len [(.var 2)]))])),
   .set 6 (.ddsp true (.frz (.ix (.var 5) (.lit (.int 0)))) (.lit (.bool true))),
   .for_ (.nm 7) (.rng (.lit (.int 9000)))
     [.iff (.cmp .eq (.var 5) (.ofL (.dsp [])))
        [.ret (.lit (.bool false))]
        [],
      .set 8 (.pop (.var 5)),
      .iff (.cmp .nin (.lit (.int 0)) (.var 8))
        [.ret (.lit (.bool true))]
        [],
      .set 9 (.ix (.var 2) (.tix (.var 8) (.lit (.int 0)))),
      .for_ (.nm 10) (.rng (.prm .len [(.var 0)]))
        [.set 11 (.ofL (.cmp [4] (.nm 4) (.rng (.var 1)) [] (.bin .add (.bin .add (.slc (.var 9) none (some (.var 10))) (.tup [(.bin .add (.ix (.var 9) (.var 10)) (.var 4))])) (.slc (.var 9) (some (.bin .add (.var 10) (.lit (.int 1)))) none)))),
         .iff (.prm .all [(.ofL (.cmp [13] (.nm 13) (.val (.var 11)) [] (.and_ (.cmp .inn (.var 13) (.var 3)) (.cmp .eq (.ix (.var 8) (.ix (.var 3) (.var 13))) (.lit (.int 0))))))])
           [.set 12 (.new (.lst (.var 8))),
            .for_ (.nm 13) (.val (.var 11))
              [.six (.var 12) (.ix (.var 3) (.var 13)) (.lit (.int 1))],
            .iff (.cmp .nin (.tupO (.var 12)) (.var 6))
              [.six (.var 6) (.tupO (.var 12)) (.lit (.bool true)),
               .exp (.app (.var 5) (.tupL (.var 12)))]
              []]
           []]],
   .ret (.lit .none)]
def f__law_found : Fn := ⟨2, 14, true, b__law_found⟩
/-- law -/
def b_law : List Ip.St :=
  [.set 1 (.new (.dsp [(.call 3 [(.var 0)]), (.lit (.int 0))])),
   .for_ (.nm 2) (.rng (.lit (.int 5)))
     [.set 3 (.tupO (.ofL (.cmp [13] (.nm 13) (.rng (.bin .add (.lit (.int 1)) (.call 4 [(.var 1), (.lit (.int 3))]))) [] (.bin .add (.lit (.int 1)) (.call 4 [(.var 1), (.lit (.int 4))]))))),
      .set 4 (.bin .add (.lit (.int 1)) (.call 4 [(.var 1), (.lit (.int 4))])),
      .set 5 (.prm .any [(.ofL (.cmp [14] (.nm 14) (.val (.var 3)) [] (.cmp .eq (.bin .mod (.prm .int [(.var 14)]) (.var 4)) (.lit (.int 0)))))]),
      .set 6 (.new (.rep (.dsp [(.lit (.int 0))]) (.var 4))),
      .for_ (.nm 7) (.val (.call 5 [(.var 3)]))
        [.six (.var 6) (.bin .mod (.prm .int [(.prm .sum [(.var 7)])]) (.var 4)) (.bin .add (.ix (.var 6) (.bin .mod (.prm .int [(.prm .sum [(.var 7)])]) (.var 4))) (.lit (.int 1)))],
      .iff (.not_ (.call 2 [(.ofL (.dsp [(.told toldWs (.call 0 [(.var 3), (.var 4)])), (.told toldWs (.call 1 [(.var 3), (.var 4)]))])), (.ofL (.dsp [(.tup [(.lit (.str "told")), (.var 5)]), (.tup [(.lit (.str "told")), (.tupO (.var 6))])]))]))
        [.ret (.lit (.bool false))]
        [],
      .iff (.cmp .lt (.prm .len [(.call 5 [(.var 3)])]) (.lit (.int 26)))
        [.set 12 (.call 7 [(.var 3), (.var 4)]),
         .iff (.and_ (.cmp .notN (.var 12) (.lit .none)) (.cmp .ne (.var 12) (.var 5)))
           [.ret (.lit (.bool false))]
           []]
        [],
      .set 8 (.tupO (.ofL (.cmp [13] (.nm 13) (.rng (.bin .add (.lit (.int 1)) (.call 4 [(.var 1), (.lit (.int 6))]))) [] (.bin .add (.lit (.int 1)) (.call 4 [(.var 1), (.lit (.int 1000))]))))),
      .set 9 (.bin .add (.lit (.int 1)) (.call 4 [(.var 1), (.ix (.ofL (.dsp [(.lit (.int 12)), (.lit (.int 60))])) (.call 4 [(.var 1), (.lit (.int 2))]))])),
      .iff (.cmp .eq (.call 4 [(.var 1), (.lit (.int 2))]) (.lit (.int 0)))
        [.set 8 (.bin .add (.slc (.var 8) none (some (.neg (.lit (.int 1))))) (.tup [(.bin .mul (.var 9) (.bin .add (.lit (.int 1)) (.call 4 [(.var 1), (.lit (.int 16))])))]))]
        [],
      .set 10 (.call 6 [(.var 8), (.var 9)]),
      .iff (.not_ (.call 2 [(.ofL (.dsp [(.told toldWs (.call 1 [(.var 8), (.var 9)])), (.told toldWs (.call 0 [(.var 8), (.var 9)]))])), (.ofL (.dsp [(.tup [(.lit (.str "told")), (.var 10)]), (.tup [(.lit (.str "told")), (.cmp .eq (.lset (.var 10)) (.lit (.int 1)))])]))]))
        [.ret (.lit (.bool false))]
        [],
      .set 11 (.ofL (.dsp [(.told toldWs (.call 0 [(.tup []), (.lit (.int 1))])), (.told toldWs (.call 0 [(.bin .mul (.tup [(.lit (.int 1))]) (.lit (.int 7))), (.lit (.int 1))])), (.told toldWs (.call 0 [(.tup [(.lit (.int 0))]), (.lit (.int 1))])), (.told toldWs (.call 0 [(.tup [(.lit (.int 1))]), (.lit (.int 0))])), (.told toldWs (.call 0 [(.tup [(.bin .add (.bin .pow (.lit (.int 10)) (.lit (.int 6))) (.lit (.int 1)))]), (.lit (.int 1))])), (.told toldWs (.call 1 [(.tup []), (.lit (.int 1))]))])),
      .iff (.cmp .ne (.ofL (.cat (.var 11) (.ofL (.dsp [(.told toldWs (.call 1 [(.tup [(.lit (.int 1001))]), (.lit (.int 1))])), (.told toldWs (.call 1 [(.tup [(.lit (.int 1))]), (.lit (.int 1001))])), (.told toldWs (.call 1 [(.tup [(.lit (.int 1)), (.lit (.int 0))]), (.lit (.int 1))]))])))) (.ofL (.rep (.dsp [(.tup [(.lit (.str "refused"))])]) (.lit (.int 9)))))
        [.ret (.lit (.bool false))]
        []],
   .ret (.lit (.bool true))]
def f_law : Fn := ⟨1, 15, true, b_law⟩
def r_bars_fill : Row := ⟨"bars_fill", f_bars_fill, topS 9, ["sides", "long", "side"], ["sides", "long"]⟩
def r_colour_counts : Row := ⟨"colour_counts", f_colour_counts, topS 10, ["sides", "long", "line", "side", "fresh", "total", "at", "whole", "rest", "step"], ["sides", "long"]⟩
def r__law_same : Row := ⟨"_law_same", f__law_same, topS 12, ["told", "due"], ["told", "due"]⟩
def r__law_stream : Row := ⟨"_law_stream", f__law_stream, topS 13, ["script", "numbers", "cell", "rest", "k", "stirred"], ["script"]⟩
def r__law_next : Row := ⟨"_law_next", f__law_next, topS 14, ["state", "many", "turn"], ["state", "many"]⟩
def r__law_places : Row := ⟨"_law_places", f__law_places, topS 16, ["sides", "rows", "side", "longer", "row", "k"], ["sides"]⟩
def r__law_counts : Row := ⟨"_law_counts", f__law_counts, topS 17, ["sides", "long", "line", "side", "fresh", "k", "many", "rest"], ["sides", "long"]⟩
def r__law_found : Row := ⟨"_law_found", f__law_found, topS 18, ["sides", "long", "places", "index", "k", "line", "known", "turn", "used", "spot", "side", "bar", "fresh", "place"], ["sides", "long"]⟩
def r_law : Row := ⟨"law", f_law, topS 19, ["script", "state", "turn", "sides", "long", "fills", "counts", "place", "great", "wide", "due", "odd", "found", "k", "side"], ["script"]⟩
def rows : List Row := [r_bars_fill, r_colour_counts, r__law_same, r__law_stream, r__law_next, r__law_places, r__law_counts, r__law_found, r_law]
def defs : List (Str × Nat) := [("bars_fill", 0), ("colour_counts", 1), ("_law_same", 2), ("_law_stream", 3), ("_law_next", 4), ("_law_places", 5), ("_law_counts", 6), ("_law_found", 7), ("law", 8)]
def cls : List (Str × Nat) := [("NotAllowed", 0)]
def t_told : TRow := ⟨"_law_told", topS 15, ["call", "e", "kinds", "names", "k"], "ShapeError", ["NotAllowed", "TooLarge", "Missing", "BadForm", "Broken"], 2,
  [.set 3 (.ofL (.cmp [4] (.nm 4) (.rng (.lit (.int 5))) [(.ix (.var 2) (.var 4))] (.ix (.ofL (.dsp [(.lit (.str "refused")), (.lit (.str "large")), (.lit (.str "missing")), (.lit (.str "form")), (.lit (.str "broken"))])) (.var 4)))),
   .ret (.tup [(.ix (.ofL (.dsp [(.lit (.str "odd")), (.ix (.ofL (.cat (.var 3) (.ofL (.dsp [(.lit (.str ""))])))) (.lit (.int 0)))])) (.prm .int [(.cmp .eq (.prm .len [(.var 3)]) (.lit (.int 1)))]))])],
  toldWs, [[true, false, false, false, false]]⟩
def ext : Ext := ⟨(some t_told), ["law"], [("MAX_SIDE", 1000000)]⟩
theorem rows_ok : ∀ r ∈ rows, rowOk ext 60 60 defs cls r = true := by
  have h : rows.all (rowOk ext 60 60 defs cls) = true := by decide +kernel
  exact List.all_eq_true.mp h
theorem defs_ok : defsOk rows defs = true := by decide +kernel
theorem told_c : toldC 60 60 t_told = true := by decide +kernel
end K13

set_option linter.all false
set_option Elab.async false
set_option autoImplicit false
set_option maxRecDepth 100000
namespace K13
open PySem Ip
abbrev I (x : Int) : Option Val := some (.d (.int x))
section
variable {F j : Nat} {C : List Orc} {h : Hq}
@[simp] theorem t_0 : (fnsOf rows)[0]? = some f_bars_fill := rfl
@[simp] theorem t_1 : (fnsOf rows)[1]? = some f_colour_counts := rfl
@[simp] theorem t_2 : (fnsOf rows)[2]? = some sameFn := rfl
@[simp] theorem t_3 : (fnsOf rows)[3]? = some f__law_stream := rfl
@[simp] theorem t_4 : (fnsOf rows)[4]? = some f__law_next := rfl
@[simp] theorem t_5 : (fnsOf rows)[5]? = some f__law_places := rfl
@[simp] theorem t_6 : (fnsOf rows)[6]? = some f__law_counts := rfl
@[simp] theorem t_7 : (fnsOf rows)[7]? = some f__law_found := rfl
/-- the state: the numbers, how many were taken -/
def stt (ns : List Int) (i : Int) : Hq := [.lst [.d (.list (ns.map .int)), .d (.int i)]]
/-- numbers to draw from -/
structure Nm (ns : List Int) : Prop where
  ne : ns ≠ []
  len : ns.length ≤ 4000
  sm : ∀ x ∈ ns, Sm 40 x
theorem nx_go {ns : List Int} (hn : Nm ns) {i m : Int} (hi : 0 ≤ i) (hi2 : i < 1000000) (hm : 0 < m) :
    ∃ v : Int, 0 ≤ v ∧ v < m ∧ callR F C f__law_next [.ref 0, .d (.int m)] (stt ns i) = .ok (.d (.int v)) (stt ns (i + 1)) := by
  have hl : 0 < ns.length := List.length_pos_iff.mpr hn.ne
  have hl0 : (ns.length : Int) ≠ 0 := by omega
  have k0 : 0 ≤ (i + 1).fmod ns.length := by rw [Int.fmod_eq_emod_of_nonneg _ (by omega)]; exact Int.emod_nonneg _ hl0
  have k1 : (i + 1).fmod ns.length < ns.length := by rw [Int.fmod_eq_emod_of_nonneg _ (by omega)]; exact Int.emod_lt_of_pos _ (by omega)
  obtain ⟨k, hk⟩ := Int.eq_ofNat_of_zero_le k0
  have hkl : k < ns.length := by omega
  have at1 : atD ((ns.map PyData.int).map Val.d) ((i + 1).fmod ns.length) = some (.d (.int ns[k])) := by
    rw [hk, atD_nat (by simpa using hkl)]
    simp
  have d1 : okDiv (ns.length : Int) = true := okDiv_sm (n := 20) (show (ns.length : Int).natAbs < 2 ^ 20 by have := hn.len; omega) hl0 (by decide)
  have q0 : 0 ≤ (i + 1).fdiv ns.length := by rw [Int.fdiv_eq_ediv_of_nonneg _ (by omega)]; exact Int.ediv_nonneg (by omega) (by omega)
  have q1 : (i + 1).fdiv ns.length ≤ i + 1 := by rw [Int.fdiv_eq_ediv_of_nonneg _ (by omega)]; exact Int.ediv_le_self _ (by omega)
  have sq : Sm 40 ((i + 1).fdiv ns.length) := by unfold Sm; omega
  have si : Sm 40 (i + 1) := by unfold Sm; omega
  have s389 : Sm 10 389 := (show (389 : Int).natAbs < 2 ^ 10 by decide)
  have s17 : Sm 10 17 := (show (17 : Int).natAbs < 2 ^ 10 by decide)
  have m1 := okMul_sm sq s389 (by decide)
  have m2 := okMul_sm si sq (by decide)
  have m3 := okMul_sm (si.mul sq) s17 (by decide)
  have hm0 : ¬ m = 0 := by omega
  refine ⟨((ns[k] + (i + 1).fdiv ns.length * 389 + (i + 1) * (i + 1).fdiv ns.length * 17)).fmod m, ?_, ?_, ?_⟩
  · rw [Int.fmod_eq_emod_of_nonneg _ (by omega)]; exact Int.emod_nonneg _ hm0
  · rw [Int.fmod_eq_emod_of_nonneg _ (by omega)]; exact Int.emod_lt_of_pos _ hm
  · have e : Ip.run F C f__law_next [.ref 0, .d (.int m)] (stt ns i) = .ok (.d (.int (((ns[k] + (i + 1).fdiv ns.length * 389 + (i + 1) * (i + 1).fdiv ns.length * 17)).fmod m))) (stt ns (i + 1)) := by
      have at2 := at1
      simp only [List.map_map] at at2
      simp [Ip.run, f__law_next, b__law_next, stt, ixV, ixW, dct, els, setV, setW, ixn, hl0, hn.ne, d1, m1, m2, m3, hm0, at2]
    have := call_s (W := F) (C := C) (fn := f__law_next) (vs := [.ref 0, .d (.int m)]) (h := stt ns i) rfl rfl e rfl rfl
    exact this
theorem okPow6 : okPow 10 6 = true := by decide +kernel
/-- the numbers so far -/
abbrev hs (out : List Int) : Hq := [obj (out.map .int)]
theorem app_hs {out : List Int} {x : Int} (hl : out.length < 10000) : appV (.ref 0) (.d (.int x)) (hs out) = .ok (.d .none) (hs (out ++ [x])) := by
  have := appV_obj (h := hs out) (n := 0) (xs := out.map .int) (.int x) rfl (by rw [List.length_map]; omega)
  rw [this]
  simp
theorem lst_hs {out : List Int} : lstV (.ref 0) (hs out) = .ok () (hs out) := lstV_obj (h := hs out) (n := 0) rfl
def Ok9 (out : List Int) : Prop := ∀ x ∈ out, 0 ≤ x ∧ x < 1009
theorem Ok9.add {out : List Int} (h : Ok9 out) {x : Int} (a : 0 ≤ x) (b : x < 1009) : Ok9 (out ++ [x]) := fun y hy => by
  rcases List.mem_append.mp hy with q | q
  · exact h y q
  · rw [List.mem_singleton.mp q]; exact ⟨a, b⟩
theorem fm {a m : Int} (hm : 0 < m) : 0 ≤ a.fmod m ∧ a.fmod m < m := by
  rw [Int.fmod_eq_emod_of_nonneg _ (by omega)]
  exact ⟨Int.emod_nonneg _ (by omega), Int.emod_lt_of_pos _ hm⟩
def body1 : List Ip.St := [.exp (.app (.var 1) (.bin .mod (.prm .int [(.var 3)]) (.lit (.int 1009)))),
            .set 3 (.bin .fdiv (.var 3) (.lit (.int 1009))),
            .iff (.cmp .eq (.var 3) (.lit (.int 0)))
              [.brk]
              []]
def body2 : List Ip.St := [.set 5 (.bin .mod (.prm .int [(.bin .add (.bin .add (.bin .mul (.var 5) (.lit (.int 48271))) (.bin .mul (.lit (.int 7)) (.var 4))) (.lit (.int 11)))]) (.lit (.int 2147483647))),
            .exp (.app (.var 1) (.bin .mod (.bin .mod (.prm .int [(.bin .add (.bin .mul (.var 5) (.lit (.int 69621))) (.var 4))]) (.lit (.int 2147483629))) (.lit (.int 1009))))]
theorem loop1 {s0 c2 c4 c5 : Option Val} {r : Int} {out : List Int} (ho : Ok9 out) (hl : out.length < 9000) :
    ∃ σ' out', σ'.length = 6 ∧ (∃ c2 c3 c4 c5, σ' = [s0, some (.ref 0), c2, c3, c4, c5]) ∧ Ok9 out' ∧ out'.length ≤ out.length + 60 ∧ forL (turnV (.nm 4) (bdy F C body1)) (rangeL 0 60) [s0, some (.ref 0), c2, I r, c4, c5] (hs out) = .ok (.nx σ') (hs out') := by
  have key := forL_cnt (N := 60) (f := turnV (.nm 4) (bdy F C body1)) (P := fun n σ h => ∃ out' c2 r c4 c5, σ = [s0, some (.ref 0), c2, I r, c4, c5] ∧ h = hs out' ∧ Ok9 out' ∧ out'.length ≤ out.length + n)
    (fun n σ h ⟨o, a, b, c, d, e1, e2, e3, e4⟩ => ⟨o, a, b, c, d, e1, e2, e3, by omega⟩) (rangeL 0 60) 0 [s0, some (.ref 0), c2, I r, c4, c5] (hs out) (fun v hv n σ h hn hp => ?_) (by simp [rangeL_len]) ⟨out, c2, r, c4, c5, rfl, rfl, ho, Nat.le_refl _⟩
  · obtain ⟨σ', h', ⟨out', c2', r', c4', c5', rfl, rfl, p1, p2⟩, e⟩ := key
    rw [rangeL_len] at p2
    exact ⟨_, out', rfl, ⟨_, _, _, _, rfl⟩, p1, by omega, e⟩
  · obtain ⟨o, a, b, c, d, rfl, rfl, e3, e4⟩ := hp
    have f := fm (a := b) (show (0 : Int) < 1009 by decide)
    have d1 : okDiv 1009 = true := by decide +kernel
    refine ⟨[s0, some (.ref 0), a, I (b.fdiv 1009), some v, d], hs (o ++ [b.fmod 1009]), ⟨_, _, _, _, _, rfl, rfl, e3.add f.1 f.2, by rw [List.length_append]; simp; omega⟩, ?_⟩
    by_cases hz : b.fdiv 1009 = 0
    · right; right
      simp [turnV, bdy, body1, cnd, tst, lst_hs, app_hs (out := o) (by omega), d1, hz]
    · left
      simp [turnV, bdy, body1, cnd, tst, lst_hs, app_hs (out := o) (by omega), d1, hz]
theorem loop2 {s0 c2 c3 c4 : Option Val} {r : Int} {out : List Int} (hr : 0 ≤ r ∧ r < 2147483647) (ho : Ok9 out) (hl : out.length < 9000) :
    ∃ σ' out', σ'.length = 6 ∧ (∃ c2 c3 c4 c5, σ' = [s0, some (.ref 0), c2, c3, c4, c5]) ∧ Ok9 out' ∧ out'.length ≤ out.length + 60 ∧ forL (turnV (.nm 4) (bdy F C body2)) (rangeL 0 10) [s0, some (.ref 0), c2, c3, c4, I r] (hs out) = .ok (.nx σ') (hs out') := by
  have key := forL_cnt (N := 10) (f := turnV (.nm 4) (bdy F C body2)) (P := fun n σ h => ∃ out' c2 r c3 c4, σ = [s0, some (.ref 0), c2, c3, c4, I r] ∧ h = hs out' ∧ Ok9 out' ∧ out'.length ≤ out.length + n ∧ 0 ≤ r ∧ r < 2147483647)
    (fun n σ h ⟨o, a, b, c, d, e1, e2, e3, e4, e5⟩ => ⟨o, a, b, c, d, e1, e2, e3, by omega, e5⟩) (rangeL 0 10) 0 [s0, some (.ref 0), c2, c3, c4, I r] (hs out) (fun v hv n σ h hn hp => ?_) (by simp [rangeL_len]) ⟨out, c2, r, c3, c4, rfl, rfl, ho, Nat.le_refl _, hr⟩
  · obtain ⟨σ', h', ⟨out', c2', r', c3', c4', rfl, rfl, p1, p2, _⟩, e⟩ := key
    rw [rangeL_len] at p2
    exact ⟨_, out', rfl, ⟨_, _, _, _, rfl⟩, p1, by omega, e⟩
  · obtain ⟨o, a, b, c, d, rfl, rfl, e3, e4, e5⟩ := hp
    obtain ⟨k, rfl, k0, k1⟩ := rangeL_mem hv
    have sb : Sm 40 b := by unfold Sm; omega
    have s1 : Sm 40 48271 := by show (48271 : Int).natAbs < 2 ^ 40; decide
    have s2 : Sm 40 69621 := by show (69621 : Int).natAbs < 2 ^ 40; decide
    have s3 : Sm 40 7 := by show (7 : Int).natAbs < 2 ^ 40; decide
    have s4 : Sm 40 k := by unfold Sm; omega
    have f1 := fm (a := b * 48271 + 7 * k + 11) (show (0 : Int) < 2147483647 by decide)
    have s5 : Sm 40 ((b * 48271 + 7 * k + 11).fmod 2147483647) := by unfold Sm; omega
    have f2 := fm (a := ((b * 48271 + 7 * k + 11).fmod 2147483647 * 69621 + k).fmod 2147483629) (show (0 : Int) < 1009 by decide)
    have m1 := okMul_sm sb s1 (by decide)
    have m2 := okMul_sm s3 s4 (by decide)
    have m3 := okMul_sm s5 s2 (by decide)
    refine ⟨[s0, some (.ref 0), a, c, I k, I ((b * 48271 + 7 * k + 11).fmod 2147483647)], hs (o ++ [_]), ⟨_, _, _, _, _, rfl, rfl, e3.add f2.1 f2.2, by rw [List.length_append]; simp; omega, f1⟩, ?_⟩
    left
    simp [turnV, bdy, body2, lst_hs, app_hs (out := o) (show o.length < 10000 by omega), m1, m2, m3]
def body0 : List Ip.St := [.set 3 (.prm .abs [(.prm .int [(.var 2)])]),
      .iff (.cmp .ge (.var 3) (.bin .pow (.lit (.int 10)) (.lit (.int 18))))
        [.for_ (.nm 4) (.rng (.lit (.int 60))) body1]
        [.set 5 (.bin .mod (.prm .int [(.var 3)]) (.lit (.int 2147483647))),
         .for_ (.nm 4) (.rng (.lit (.int 10))) body2]]
theorem ok18 : okPow 10 18 = true := by decide +kernel
theorem turn0 {s0 c2 c3 c4 c5 : Option Val} {x : Int} {out : List Int} (ho : Ok9 out) (hl : out.length < 9000) :
    ∃ σ' out', (∃ c2 c3 c4 c5, σ' = [s0, some (.ref 0), c2, c3, c4, c5]) ∧ Ok9 out' ∧ out'.length ≤ out.length + 60 ∧ turnV (.nm 2) (bdy F C body0) (.d (.int x)) [s0, some (.ref 0), c2, c3, c4, c5] (hs out) = .ok (.nx σ') (hs out') := by
  have r60 : okRng 60 = true := by decide
  have r10 : okRng 10 = true := by decide
  by_cases hx : 1000000000000000000 ≤ (if x < 0 then -x else x)
  · obtain ⟨σ', out', _, s, a, b, e⟩ := loop1 (F := F) (C := C) (s0 := s0) (c2 := I x) (c4 := c4) (c5 := c5) (r := if x < 0 then -x else x) ho hl
    refine ⟨σ', out', s, a, b, ?_⟩
    simp [turnV, bdy, body0, cnd, tst, ok18, hx, r60, e]
  · have fr := fm (a := if x < 0 then -x else x) (show (0 : Int) < 2147483647 by decide)
    obtain ⟨σ', out', _, s, a, b, e⟩ := loop2 (F := F) (C := C) (s0 := s0) (c2 := I x) (c3 := I (if x < 0 then -x else x)) (c4 := c4) fr ho hl
    refine ⟨σ', out', s, a, b, ?_⟩
    simp [turnV, bdy, body0, cnd, tst, ok18, hx, r10, e]
theorem c_stream (ns : List Int) (hn : ns.length ≤ 63) : ∃ out : List Int, Nm out ∧ callR F C f__law_stream [.d (.list (ns.map .int))] h = .ok (.d (.list (out.map .int))) h := by
  have hcut : ∀ v ∈ (cutD (ns.map PyData.int) none (some 63)).map Val.d, ∃ x : Int, v = .d (.int x) := fun v hv => by
    obtain ⟨d, hd, rfl⟩ := List.mem_map.mp hv
    unfold cutD at hd
    obtain ⟨x, _, rfl⟩ := List.mem_map.mp (List.mem_of_mem_drop (List.mem_of_mem_take hd))
    exact ⟨x, rfl⟩
  have hlen : ((cutD (ns.map PyData.int) none (some 63)).map Val.d).length ≤ 63 := by
    rw [List.length_map]
    unfold cutD
    rw [List.length_take, List.length_drop, List.length_map]
    omega
  obtain ⟨σ', h', ⟨out, c2, c3, c4, c5, rfl, rfl, p1, p2⟩, e⟩ := forL_cnt (N := 63) (f := turnV (.nm 2) (bdy F C body0)) (P := fun n σ h => ∃ out c2 c3 c4 c5, σ = [some (.d (.list (ns.map .int))), some (.ref 0), c2, c3, c4, c5] ∧ h = hs out ∧ Ok9 out ∧ out.length ≤ 60 * n)
    (fun n σ h ⟨o, a, b, c, d, e1, e2, e3, e4⟩ => ⟨o, a, b, c, d, e1, e2, e3, by omega⟩) ((cutD (ns.map PyData.int) none (some 63)).map Val.d) 0 [some (.d (.list (ns.map .int))), some (.ref 0), none, none, none, none] (hs [])
    (fun v hv n σ h hn hp => by
      obtain ⟨o, a, b, c, d, rfl, rfl, e3, e4⟩ := hp
      obtain ⟨x, rfl⟩ := hcut v hv
      obtain ⟨σ', out', ⟨a', b', c', d', rfl⟩, q1, q2, e⟩ := turn0 (F := F) (C := C) (s0 := some (.d (.list (ns.map .int)))) (c2 := a) (c3 := b) (c4 := c) (c5 := d) (x := x) e3 (by omega)
      exact ⟨_, _, ⟨out', _, _, _, _, rfl, rfl, q1, by omega⟩, .inl e⟩) (by omega) ⟨[], none, none, none, none, rfl, rfl, fun x hx => (by cases hx), by simp⟩
  have p2' : out.length ≤ 60 * 63 := by omega
  have fin : ∃ out2 : List Int, Nm out2 ∧ Ip.run F C f__law_stream [.d (.list (ns.map .int))] [] = .ok (.ref 0) (hs out2) := by
    have hb : b__law_stream = [.set 1 (.new (.dsp [])), .for_ (.nm 2) (.val (.slc (.var 0) none (some (.lit (.int 63))))) body0, .iff (.cmp .eq (.prm .len [(.var 1)]) (.lit (.int 0))) [.exp (.app (.var 1) (.lit (.int 0)))] [], .ret (.var 1)] := rfl
    have hs0 : ([IO.lst []] : Hq) = hs [] := rfl
    have lenO := prmV_obj (h := hs out) (n := 0) .len rfl
    by_cases hz : out = []
    · subst hz
      refine ⟨[0], ⟨by simp, by simp, fun x hx => by simp at hx; subst hx; show (0 : Int).natAbs < 2 ^ 40; decide⟩, ?_⟩
      have ap := app_hs (out := []) (x := 0) (by decide)
      simp at ap lenO
      simp [Ip.run, f__law_stream, hb, fits, hs0, e, cnd, tst, lenO, ap, lst_hs]
    · have hl : 0 < out.length := List.length_pos_iff.mpr hz
      refine ⟨out, ⟨hz, by omega, fun x hx => by have := p1 x hx; unfold Sm; omega⟩, ?_⟩
      simp at lenO
      simp [Ip.run, f__law_stream, hb, fits, hs0, e, cnd, tst, lenO, hz]
  obtain ⟨out2, nm, er⟩ := fin
  exact ⟨out2, nm, call_p (ds := [.list (ns.map .int)]) rfl rfl er (toD_obj (h := hs out2) (n := 0) (xs := out2.map .int) rfl)⟩
end
end K13


set_option linter.all false
set_option Elab.async false
set_option autoImplicit false
set_option maxRecDepth 100000
namespace K13
open PySem Ip
theorem tells : Tells (2 ^ 400) t_told := by
  intro c w C h hw
  have hc : c = 0 := by
    cases c with
    | zero => rfl
    | succ c => simp [t_told, toldWs] at hw
  subst hc
  have hw : w = "refused" := by
    simp [t_told, toldWs] at hw
    exact hw.symm
  subst hw
  have r5 : okRng 5 = true := by decide
  simp [t_told, r5, rangeL, cmpL_cons, itm, wipe, ixV, ixW, dct, els, atD, ixn, fits, catL, elsL]
end K13

set_option linter.all false
set_option Elab.async false
set_option autoImplicit false
set_option maxRecDepth 100000
namespace K13
open PySem Ip
section
variable {F j : Nat} {C : List Orc} {h : Hq}
/-! ### lists of ints -/
theorem cmp_ints {f : Val → Hq → R (List Val)} {h : Hq} (g : Int → D) : ∀ (xs : List Int), (∀ x ∈ xs, f (.d (.int x)) h = .ok [.d (g x)] h) → cmpL f ((xs.map PyData.int).map .d) h = .ok (xs.map fun x => .d (g x)) h
  | [], _ => rfl
  | x :: xs, st => by
    rw [List.map_cons, List.map_cons, cmpL_cons, st x List.mem_cons_self]
    simp only [R.bind_ok, cmp_ints g xs fun v hv => st v (List.mem_cons_of_mem _ hv), List.cons_append, List.nil_append, List.map_cons]
theorem toDs_fn {α : Type} (g : α → D) (xs : List α) (h : Hq) : toDs (xs.map fun x => .d (g x)) h = .ok (xs.map g) h := by
  have := toDs_comp g xs h
  exact this
theorem bools_map {α : Type} (p : α → Bool) : ∀ xs : List α, boolsOf (xs.map fun x => .bool (p x)) = some (xs.map p)
  | [] => rfl
  | x :: xs => by
    show (boolsOf (xs.map fun x => .bool (p x))).map (p x :: ·) = _
    rw [bools_map p xs]; rfl
theorem ints_map {α : Type} (p : α → Int) : ∀ xs : List α, intsOf (xs.map fun x => .int (p x)) = some (xs.map p)
  | [] => rfl
  | x :: xs => by
    show (intsOf (xs.map fun x => .int (p x))).map (p x :: ·) = _
    rw [ints_map p xs]; rfl
theorem ints_map' (xs : List Int) : intsOf (xs.map .int) = some xs := by
  have := ints_map (fun x : Int => x) xs
  rw [List.map_id'] at this
  exact this
theorem all_map {α : Type} (p : α → Bool) (xs : List α) : (xs.map p).all id = xs.all p := by
  induction xs with
  | nil => rfl
  | cons x xs ih => rw [List.map_cons, List.all_cons, List.all_cons, ih]; rfl
theorem any_map {α : Type} (p : α → Bool) (xs : List α) : (xs.map p).any id = xs.any p := by
  induction xs with
  | nil => rfl
  | cons x xs ih => rw [List.map_cons, List.any_cons, List.any_cons, ih]; rfl
/-- the sides, as a tuple -/
def tupI (xs : List Int) : D := .tuple (xs.map .int)
def okB (M : Int) (sides : List Int) (long : Int) : Bool := (decide (1 ≤ (sides.length : Int)) && decide ((sides.length : Int) ≤ 6)) && (sides.all (fun s => decide (1 ≤ s) && decide (s ≤ M)) && (decide (1 ≤ long) && decide (long ≤ M)))
def gdI (M : Int) (k : Nat) : Ex := (.or_ (.not_ (.chn .le .le (.lit (.int 1)) (.prm .len [(.var 0)]) (.lit (.int 6)))) (.or_ (.not_ (.prm .all [(.ofL (.cmp [k] (.nm k) (.val (.var 0)) [] (.chn .le .le (.lit (.int 1)) (.var k) (.lit (.int M)))))])) (.not_ (.chn .le .le (.lit (.int 1)) (.var 1) (.lit (.int M))))))
theorem gd_all {M : Int} {k : Nat} {sides : List Int} {σ : Sg} (hk : 1 < k) (hl : k < σ.length) (hs : sides.length ≤ 16777216) (h0 : σ[0]? = some (some (.d (tupI sides)))) :
    ev F C (.prm .all [(.ofL (.cmp [k] (.nm k) (.val (.var 0)) [] (.chn .le .le (.lit (.int 1)) (.var k) (.lit (.int M)))))]) σ h = .ok (.d (.bool (sides.all (fun s => decide (1 ≤ s) && decide (s ≤ M))))) h := by
  have it := cmp_ints (f := itm F C [k] (.nm k) [] (.chn .le .le (.lit (.int 1)) (.var k) (.lit (.int M))) σ) (h := h) (fun s => .bool (decide (1 ≤ s) && decide (s ≤ M))) sides (fun x hx => by
    have e : ((σ.set k none).set k (some (Val.d (.int x))))[k]? = some (some (.d (.int x))) := by
      rw [List.getElem?_set_self (by rw [List.length_set]; exact hl)]
    by_cases h1 : (1 : Int) ≤ x <;> by_cases h2 : x ≤ M <;> simp [itm, wipe, e, h1, h2, hl])
  have ft : fits ((sides.map PyData.int).map Val.d).length = true := fits_le (by simpa using hs)
  have ft2 : fits sides.length = true := fits_le hs
  have ft3 := ft2
  simp only [e_prm, es_cons, es_nil, e_ofL, el_cmp, ex_val, e_var, h0, R.bind_ok, tupI, srcV_t, ft, if_true, it, toDs_fn, prmV_1, prmD, bools_map, Option.map_some, all_map]
theorem gd_ok {M : Int} {k : Nat} {sides : List Int} {long : Int} {σ : Sg} (hk : 1 < k) (hl : k < σ.length) (hs : sides.length ≤ 16777216) (h0 : σ[0]? = some (some (.d (tupI sides)))) (h1 : σ[1]? = some (some (.d (.int long)))) :
    cnd F C (gdI M k) σ h = .ok (!okB M sides long) h := by
  have ga := gd_all (F := F) (C := C) (h := h) (M := M) hk hl hs h0
  unfold cnd tst gdI
  have l1 : ev F C (.chn .le .le (.lit (.int 1)) (.prm .len [(.var 0)]) (.lit (.int 6))) σ h = .ok (.d (.bool (decide (1 ≤ (sides.length : Int)) && decide ((sides.length : Int) ≤ 6)))) h := by
    simp only [e_chn, e_lit, e_prm, es_cons, es_nil, e_var, h0, R.bind_ok, tupI, prmV_1, prm_lent, List.length_map, cmpV_d, cmpD_le]
    by_cases h1 : (1 : Int) ≤ (sides.length : Int) <;> simp [h1]
  have l2 : ev F C (.chn .le .le (.lit (.int 1)) (.var 1) (.lit (.int M))) σ h = .ok (.d (.bool (decide (1 ≤ long) && decide (long ≤ M)))) h := by
    simp only [e_chn, e_lit, e_var, h1, R.bind_ok, cmpV_d, cmpD_le]
    by_cases h1 : (1 : Int) ≤ long <;> simp [h1]
  simp only [e_or, e_not, ga, l1, l2, R.bind_ok, tru_b]
  unfold okB
  cases (decide (1 ≤ (sides.length : Int)) && decide ((sides.length : Int) ≤ 6)) <;> cases (sides.all (fun s => decide (1 ≤ s) && decide (s ≤ M))) <;> cases (decide (1 ≤ long) && decide (long ≤ M)) <;> rfl
def fillsB (sides : List Int) (long : Int) : Bool := sides.any fun s => decide (s.fmod long = 0)
theorem any_ev {sides : List Int} {long : Int} {k : Nat} {σ : Sg} (hl : k < σ.length) (hk : k ≠ 1) (hs : sides.length ≤ 16777216) (h0 : σ[0]? = some (some (.d (tupI sides)))) (h1 : σ[1]? = some (some (.d (.int long)))) (h2 : long ≠ 0) :
    ev F C (.prm .any [(.ofL (.cmp [k] (.nm k) (.val (.var 0)) [] (.cmp .eq (.bin .mod (.var k) (.var 1)) (.lit (.int 0)))))]) σ h = .ok (.d (.bool (fillsB sides long))) h := by
  have it := cmp_ints (f := itm F C [k] (.nm k) [] (.cmp .eq (.bin .mod (.var k) (.var 1)) (.lit (.int 0))) σ) (h := h) (fun s => .bool (decide (s.fmod long = 0))) sides (fun x hx => by
    have e : ((σ.set k none).set k (some (Val.d (.int x))))[k]? = some (some (.d (.int x))) := by
      rw [List.getElem?_set_self (by rw [List.length_set]; exact hl)]
    have e1 : (σ.set k (some (Val.d (.int x))))[1]? = some (some (.d (.int long))) := by
      rw [List.getElem?_set_ne hk]; exact h1
    simp [itm, wipe, e, e1, h2, hl])
  have ft : fits ((sides.map PyData.int).map Val.d).length = true := fits_le (by simpa using hs)
  simp only [e_prm, es_cons, es_nil, e_ofL, el_cmp, ex_val, e_var, h0, R.bind_ok, tupI, srcV_t, ft, if_true, it, toDs_fn, prmV_1, prmD, bools_map, Option.map_some, any_map, fillsB]
/-! ### a def that raises -/
theorem call_pe {fn : Fn} {ds : List D} {e : Exc} {h1 : Hq} {W : Nat} (hp : fn.pure = true) (hl : ds.length = fn.ps) (er : Ip.run W C fn (ds.map .d) [] = .er e h1) : callR W C fn (ds.map .d) h = .er e h := by
  unfold callR
  rw [if_pos (by rw [List.length_map]; exact hl), if_pos hp, pks_map]
  simp only [er]
theorem bf_is : b_bars_fill = [.iff (gdI 1000000 2) [.rse 0] [], .ret (.prm .any [(.ofL (.cmp [2] (.nm 2) (.val (.var 0)) [] (.cmp .eq (.bin .mod (.var 2) (.var 1)) (.lit (.int 0)))))])] := rfl
theorem c_bars {sides : List Int} {long : Int} (hs : sides.length ≤ 100) (ok : okB 1000000 sides long = true) : callR F C f_bars_fill [.d (tupI sides), .d (.int long)] h = .ok (.d (.bool (fillsB sides long))) h := by
  have h0 : long ≠ 0 := fun z => by subst z; simp [okB] at ok
  refine call_pd (ds := [tupI sides, .int long]) rfl rfl (h1 := []) ?_
  have g := gd_ok (F := F) (C := C) (h := []) (M := 1000000) (k := 2) (sides := sides) (long := long) (σ := [some (.d (tupI sides)), some (.d (.int long)), none]) (by decide) (by simp) (by omega) rfl rfl
  have a := any_ev (F := F) (C := C) (h := []) (k := 2) (sides := sides) (long := long) (σ := [some (.d (tupI sides)), some (.d (.int long)), none]) (by simp) (by decide) (by omega) rfl rfl h0
  rw [ok] at g
  show (match exs F C b_bars_fill [some (.d (tupI sides)), some (.d (.int long)), none] [] with
    | .ok (.rt v) h1 => R.ok v h1
    | .ok (.nx _) h1 => .ok (.d .none) h1
    | .er e _ h1 => .er e h1
    | _ => .no) = _
  rw [bf_is, xs_cons, x_iff, g]
  simp only [R.thn_ok, Bool.not_true, Bool.false_eq_true, if_false, xs_nil, RF.thn_nx, xs_cons, x_ret, a, thn_rt]
theorem x_bars {sides : List Int} {long : Int} (hs : sides.length ≤ 100) (ok : okB 1000000 sides long = false) : callR F C f_bars_fill [.d (tupI sides), .d (.int long)] h = .er ⟨0, none⟩ h := by
  refine call_pe (ds := [tupI sides, .int long]) (h1 := []) rfl rfl ?_
  have g := gd_ok (F := F) (C := C) (h := []) (M := 1000000) (k := 2) (sides := sides) (long := long) (σ := [some (.d (tupI sides)), some (.d (.int long)), none]) (by decide) (by simp) (by omega) rfl rfl
  rw [ok] at g
  show (match exs F C b_bars_fill [some (.d (tupI sides)), some (.d (.int long)), none] [] with
    | .ok (.rt v) h1 => R.ok v h1
    | .ok (.nx _) h1 => .ok (.d .none) h1
    | .er e _ h1 => .er e h1
    | _ => .no) = _
  rw [bf_is, xs_cons, x_iff, g]
  simp only [R.thn_ok, Bool.not_false, if_true, xs_cons, x_rse, thn_er]
end
end K13

set_option linter.all false
set_option Elab.async false
set_option autoImplicit false
set_option maxRecDepth 100000
namespace K13
open PySem Ip
/-! ### sums, lists by their places -/
def S : Nat → (Nat → Int) → Int
  | 0, _ => 0
  | n + 1, f => S n f + f n
def tb (n : Nat) (f : Nat → Int) : List Int := (List.range n).map f
theorem tb_len (n : Nat) (f : Nat → Int) : (tb n f).length = n := by simp [tb]
theorem tb_get {n : Nat} {f : Nat → Int} {i : Nat} (h : i < (tb n f).length) : (tb n f)[i] = f i := by simp [tb]
theorem sumI_snoc : ∀ (xs : List Int) (x : Int), sumI (xs ++ [x]) = sumI xs + x
  | [], x => by simp [sumI]
  | y :: xs, x => by
    show y + sumI (xs ++ [x]) = y + sumI xs + x
    rw [sumI_snoc xs x]; omega
theorem sumI_tb (f : Nat → Int) : ∀ n : Nat, sumI (tb n f) = S n f
  | 0 => rfl
  | n + 1 => by
    unfold tb
    rw [List.range_succ, List.map_append, List.map_singleton, sumI_snoc]
    have := sumI_tb f n
    unfold tb at this
    rw [this]; rfl
theorem tb_ext {n : Nat} {f g : Nat → Int} (h : ∀ i, i < n → f i = g i) : tb n f = tb n g := by
  unfold tb
  exact List.map_congr_left fun i hi => h i (List.mem_range.mp hi)
theorem S_ext {n : Nat} {f g : Nat → Int} (h : ∀ i, i < n → f i = g i) : S n f = S n g := by
  induction n with
  | zero => rfl
  | succ n ih =>
    show S n f + f n = S n g + g n
    rw [ih fun i hi => h i (by omega), h n (by omega)]
def updF (f : Nat → Int) (i : Nat) (v : Int) : Nat → Int := fun j => if j = i then v else f j
theorem tb_set {n : Nat} {f : Nat → Int} {i : Nat} {v : Int} : (tb n f).set i v = tb n (updF f i v) := by
  apply List.ext_getElem
  · simp [tb]
  · intro j h1 h2
    rw [List.getElem_set]
    unfold updF
    simp only [tb, List.getElem_map, List.getElem_range]
    by_cases e : i = j
    · subst e; simp
    · rw [if_neg e, if_neg (fun z => e z.symm)]
/-- a list object of ints -/
abbrev oI (xs : List Int) : IO := obj (xs.map .int)
section
variable {F j : Nat} {C : List Orc} {h : Hq} {r n i : Nat} {f : Nat → Int} {v : Int} {xs : List Int}
theorem dct_o {x : IO} (e : h[r]? = some x) (hx : ∀ c, x ≠ .dct c) : dct h (.ref r) = none := by
  unfold dct
  simp only [e]
  cases x with
  | dct c => exact absurd rfl (hx c)
  | _ => rfl
theorem ix_o (e : h[r]? = some (oI xs)) (hi : i < xs.length) : ixV (.ref r) (.d (.int (i : Int))) h = .ok (.d (.int xs[i])) h := by
  refine ixV_at (vs := (xs.map PyData.int).map .d) ?_ ?_
  · unfold els
    simp only [e, oI, obj]
  · rw [atD_nat (by simpa using hi)]
    simp
theorem ix_tb (e : h[r]? = some (oI (tb n f))) (hi : i < n) : ixV (.ref r) (.d (.int (i : Int))) h = .ok (.d (.int (f i))) h := by
  rw [ix_o e (by rw [tb_len]; exact hi), tb_get]
theorem set_o (e : h[r]? = some (oI xs)) (hi : i < xs.length) : setV (.ref r) (.d (.int (i : Int))) (.d (.int v)) h = .ok () (h.set r (oI (xs.set i v))) := by
  unfold setV
  rw [dct_o e (fun c z => by cases z)]
  unfold setW
  have e2 : h[r]? = some (IO.lst ((xs.map PyData.int).map .d)) := e
  simp only [e2]
  have : ixn ((xs.map PyData.int).map Val.d).length (i : Int) = some i := by
    unfold ixn
    rw [if_pos (by omega), if_pos (by simp; omega)]
    simp
  rw [this]
  simp [oI, obj, List.map_set]
theorem set_tbo (e : h[r]? = some (oI (tb n f))) (hi : i < n) : setV (.ref r) (.d (.int (i : Int))) (.d (.int v)) h = .ok () (h.set r (oI (tb n (updF f i v)))) := by
  rw [set_o e (by rw [tb_len]; exact hi), tb_set]
theorem sum_o (e : h[r]? = some (oI xs)) : prmV .sum [.ref r] h = .ok (.d (.int (sumI xs))) h := by
  rw [prmV_obj .sum e]
  simp [prmD, ints_map']
theorem sum_tb (e : h[r]? = some (oI (tb n f))) : prmV .sum [.ref r] h = .ok (.d (.int (S n f))) h := by rw [sum_o e, sumI_tb]
theorem tup_o (e : h[r]? = some (oI xs)) : tupV (.ref r) h = .ok (.d (tupI xs)) h := by
  have e1 : elsL h (.ref r) = some ((xs.map PyData.int).map .d) := by
    unfold elsL
    simp only [e, oI, obj]
  unfold tupV
  simp only [e1, toDs_map, R.bind_ok, tupI]
theorem app_get {h : Hq} {x : IO} {r : Nat} (hr : r < h.length) : (h ++ [x])[r]? = h[r]? := List.getElem?_append_left hr
theorem app_last {h : Hq} {x : IO} : (h ++ [x])[h.length]? = some x := by simp
theorem app_set {h : Hq} {x y : IO} : (h ++ [x]).set h.length y = h ++ [y] := by simp
/-! ### loops with what holds ahead of each turn -/
theorem forL_ix {f : Val → Sg → Hq → RF} {P : Nat → Sg → Hq → Prop} : ∀ (vs : List Val) (k : Nat) (σ : Sg) (h : Hq), (∀ (i : Nat) (v : Val) (σ : Sg) (h : Hq), vs[i]? = some v → P (k + i) σ h → ∃ σ' h', P (k + i + 1) σ' h' ∧ f v σ h = .ok (.nx σ') h') → P k σ h → ∃ σ' h', P (k + vs.length) σ' h' ∧ forL f vs σ h = .ok (.nx σ') h'
  | [], k, σ, h, _, p => ⟨σ, h, p, rfl⟩
  | v :: vs, k, σ, h, st, p => by
    obtain ⟨σ1, h1, p1, e⟩ := st 0 v σ h rfl p
    obtain ⟨σ2, h2, p2, e2⟩ := forL_ix vs (k + 1) σ1 h1 (fun i v σ h hv hp => by
      have := st (i + 1) v σ h hv (by rw [show k + (i + 1) = k + 1 + i by omega]; exact hp)
      rw [show k + (i + 1) + 1 = k + 1 + i + 1 by omega] at this
      exact this) p1
    refine ⟨σ2, h2, by rw [List.length_cons, show k + (vs.length + 1) = k + 1 + vs.length by omega]; exact p2, ?_⟩
    rw [forL_cons, e]
    exact e2
theorem forL_rng {f : Val → Sg → Hq → RF} {P : Nat → Sg → Hq → Prop} (n : Nat) {σ : Sg} {h : Hq} (st : ∀ (i : Nat) (σ : Sg) (h : Hq), i < n → P i σ h → ∃ σ' h', P (i + 1) σ' h' ∧ f (.d (.int (i : Int))) σ h = .ok (.nx σ') h') (p : P 0 σ h) : ∃ σ' h', P n σ' h' ∧ forL f (rangeL 0 n) σ h = .ok (.nx σ') h' := by
  have := forL_ix (f := f) (P := P) (rangeL 0 n) 0 σ h (fun i v σ h hv hp => by
    rw [rangeL_get] at hv
    split at hv
    · rename_i hi
      cases hv
      rw [Nat.zero_add] at hp ⊢
      rw [Int.zero_add]
      exact st i σ h hi hp
    · cases hv) p
  rw [Nat.zero_add, rangeL_len] at this
  exact this
theorem cmp_fn {α : Type} {f : Val → Hq → R (List Val)} {h : Hq} (val g : α → D) : ∀ (as : List α), (∀ a ∈ as, f (.d (val a)) h = .ok [.d (g a)] h) → cmpL f (as.map fun a => .d (val a)) h = .ok (as.map fun a => .d (g a)) h
  | [], _ => rfl
  | a :: as, st => by
    rw [List.map_cons, cmpL_cons, st a List.mem_cons_self]
    simp only [R.bind_ok, cmp_fn val g as fun v hv => st v (List.mem_cons_of_mem _ hv), List.cons_append, List.nil_append, List.map_cons]
theorem rangeL_map (n : Nat) : rangeL 0 n = (List.range n).map fun i : Nat => .d (.int (i : Int)) := by
  apply List.ext_getElem?
  intro i
  rw [rangeL_get]
  split
  · rename_i hi
    simp [hi]
  · rename_i hi
    simp [Nat.not_lt.mp hi]
theorem cmp_rng {f : Val → Hq → R (List Val)} {h : Hq} (n : Nat) (g : Nat → D) (st : ∀ i, i < n → f (.d (.int (i : Int))) h = .ok [.d (g i)] h) : cmpL f (rangeL 0 n) h = .ok ((List.range n).map fun i => .d (g i)) h := by
  rw [rangeL_map]
  exact cmp_fn (fun i : Nat => .int (i : Int)) g (List.range n) fun a ha => st a (List.mem_range.mp ha)
theorem rep_flat {α : Type} (x : α) : ∀ n : Nat, (List.replicate n [x]).flatten = List.replicate n x
  | 0 => rfl
  | n + 1 => by rw [List.replicate_succ, List.flatten_cons, rep_flat x n]; rfl
theorem tb_const (n : Nat) (v : Int) : tb n (fun _ => v) = List.replicate n v := by
  unfold tb
  rw [List.map_const']
  simp
/-- [v] * n -/
theorem ev_rep {σ : Sg} {b : Ex} {n : Nat} (hb : ev F C b σ h = .ok (.d (.int (n : Int))) h) (hn : n < 16000000) : evL F C (.rep (.dsp [(.lit (.int v))]) b) σ h = .ok ((List.replicate n (PyData.int v)).map .d) h := by
  have r : okRng (n : Int) = true := okRng_of (by omega) (by omega)
  have f1 : fits n = true := fits_le (by omega)
  have f2 : fits 1 = true := fits_le (by omega)
  simp [hb, repL, r, f1, f2, rep_flat]
end
end K13

set_option linter.all false
set_option Elab.async false
set_option autoImplicit false
set_option maxRecDepth 100000
namespace K13
open PySem Ip
/-! ### counts by colours -/
def dl : Nat → Int := fun j => if j = 0 then 1 else 0
def cv (L s : Nat) (f : Nat → Int) : Nat → Int := fun j => ((s / L : Nat) : Int) * S L f + S (s % L) (fun k => f ((j + L - k) % L))
def fin (L : Nat) (sides : List Nat) : Nat → Int := sides.foldl (fun f s => cv L s f) dl
def Bd (B : Nat) (f : Nat → Int) : Prop := ∀ j, (f j).natAbs ≤ B
theorem S_bd {B : Nat} {f : Nat → Int} (h : Bd B f) : ∀ n, (S n f).natAbs ≤ n * B
  | 0 => by simp [S]
  | n + 1 => by
    have := S_bd h n
    have := h n
    have := Int.natAbs_add_le (S n f) (f n)
    show (S n f + f n).natAbs ≤ _
    rw [Nat.succ_mul]; omega
theorem cv_bd {B L s : Nat} {f : Nat → Int} (h : Bd B f) (hL : 0 < L) (hL2 : L ≤ 60) (hs : s ≤ 1000) : Bd (70000 * B) (cv L s f) := fun j => by
  unfold cv
  have a := S_bd h L
  have b := S_bd (f := fun k => f ((j + L - k) % L)) (fun k => h _) (s % L)
  have c : (((s / L : Nat) : Int) * S L f).natAbs ≤ 1000 * (60 * B) := by
    rw [Int.natAbs_mul]
    exact Nat.mul_le_mul (by show s / L ≤ 1000; exact Nat.le_trans (Nat.div_le_self _ _) hs) (Nat.le_trans a (Nat.mul_le_mul_right _ hL2))
  have d : (s % L) * B ≤ 60 * B := Nat.mul_le_mul_right _ (by have := Nat.mod_lt s hL; omega)
  have := Int.natAbs_add_le (((s / L : Nat) : Int) * S L f) (S (s % L) (fun k => f ((j + L - k) % L)))
  have e : 1000 * (60 * B) = 60000 * B := by rw [← Nat.mul_assoc]
  omega
theorem tb_dl {L : Nat} (h : 0 < L) : tb L dl = 1 :: List.replicate (L - 1) 0 := by
  apply List.ext_getElem
  · simp [tb]; omega
  · intro i h1 h2
    rw [tb_get]
    cases i with
    | zero => rfl
    | succ i => simp [dl]
section
variable {F j : Nat} {C : List Orc} {h : Hq}
def bodyA : List Ip.St := [.six (.var 4) (.var 6) (.bin .add (.bin .mul (.var 7) (.var 5)) (.prm .sum [(.ofL (.cmp [9] (.nm 9) (.rng (.var 8)) [] (.ix (.var 2) (.bin .mod (.bin .sub (.var 6) (.var 9)) (.var 1)))))]))]
def bodyB : List Ip.St := [.set 4 (.new (.rep (.dsp [(.lit (.int 0))]) (.var 1))),
      .asg (.tp [7, 8]) (.dvm (.var 3) (.var 1)),
      .set 5 (.prm .sum [(.var 2)]),
      .for_ (.nm 6) (.rng (.var 1)) bodyA,
      .set 2 (.var 4)]
theorem cc_is : b_colour_counts = [.iff (gdI 1000 3) [.rse 0] [], .set 2 (.new (.cat (.ofL (.dsp [(.lit (.int 1))])) (.ofL (.rep (.dsp [(.lit (.int 0))]) (.bin .sub (.var 1) (.lit (.int 1))))))), .for_ (.nm 3) (.val (.var 0)) bodyB, .ret (.tupO (.var 2))] := rfl
theorem fmod_sub {L i k : Nat} (hi : i < L) (hk : k < L) : ((i : Int) - (k : Int)).fmod (L : Int) = (((i + L - k) % L : Nat) : Int) := by
  rw [Int.fmod_eq_emod_of_nonneg _ (by omega)]
  have : ((i + L - k : Nat) : Int) = (i : Int) - k + L := by omega
  rw [Int.natCast_emod, this, Int.add_emod_right]
theorem okDiv_n {L : Nat} (h0 : 0 < L) (h : L ≤ 60000) : okDiv (L : Int) = true := okDiv_sm (n := 20) (show (L : Int).natAbs < 2 ^ 20 by omega) (by omega) (by decide)
theorem upd_step {i : Nat} (g : Nat → Int) (v : Int) (hv : v = g i) : updF (fun j => if j < i then g j else 0) i v = fun j => if j < i + 1 then g j else 0 := by
  funext j
  unfold updF
  by_cases e : j = i
  · subst e; rw [if_pos rfl, if_pos (by omega), hv]
  · rw [if_neg e]
    by_cases e2 : j < i
    · show (if j < i then g j else 0) = _
      rw [if_pos e2, if_pos (by omega)]
    · show (if j < i then g j else 0) = _
      rw [if_neg e2, if_neg (by omega)]
/-- the inner walk -/
theorem walkA {L s r B : Nat} {f : Nat → Int} {c0 c3 c6 c9 : Option Val} (hL : 0 < L) (hL2 : L ≤ 60) (hs : s ≤ 1000) (hB : Bd B f) (hB2 : B < 2 ^ 150) (hr : h[r]? = some (oI (tb L f))) :
    ∃ c6' c9', forL (turnV (.nm 6) (bdy F C bodyA)) (rangeL 0 L) [c0, I L, some (.ref r), c3, some (.ref h.length), I (S L f), c6, I (s / L : Nat), I (s % L : Nat), c9] (h ++ [oI (tb L fun _ => 0)]) =
      .ok (.nx [c0, I L, some (.ref r), c3, some (.ref h.length), I (S L f), c6', I (s / L : Nat), I (s % L : Nat), c9']) (h ++ [oI (tb L (cv L s f))]) := by
  have hrl : r < h.length := lt_of_get hr
  have key := forL_rng (f := turnV (.nm 6) (bdy F C bodyA)) (P := fun i σ h' => ∃ c6' c9', σ = [c0, I L, some (.ref r), c3, some (.ref h.length), I (S L f), c6', I (s / L : Nat), I (s % L : Nat), c9'] ∧ h' = h ++ [oI (tb L fun j => if j < i then cv L s f j else 0)]) L
    (σ := [c0, I L, some (.ref r), c3, some (.ref h.length), I (S L f), c6, I (s / L : Nat), I (s % L : Nat), c9]) (h := h ++ [oI (tb L fun _ => 0)]) (fun i σ h' hi hp => ?_) ⟨c6, c9, rfl, by simp⟩
  · obtain ⟨σ', h', ⟨c6', c9', rfl, rfl⟩, e⟩ := key
    refine ⟨c6', c9', ?_⟩
    rw [e]
    have : (tb L fun j => if j < L then cv L s f j else 0) = tb L (cv L s f) := tb_ext fun i hi => by rw [if_pos hi]
    rw [this]
  · obtain ⟨c6', c9', rfl, rfl⟩ := hp
    generalize hH : h ++ [oI (tb L fun j => if j < i then cv L s f j else 0)] = H
    have hr2 : H[r]? = some (oI (tb L f)) := by rw [← hH, app_get hrl]; exact hr
    have hl2 : H[h.length]? = some (oI (tb L fun j => if j < i then cv L s f j else 0)) := by rw [← hH, app_last]
    have sm := S_bd hB L
    have k1 : L * B ≤ 60 * B := Nat.mul_le_mul_right _ hL2
    have s1 : Sm 160 (S L f) := by unfold Sm; omega
    have s2 : Sm 160 (((s / L : Nat) : Int)) := by
      have : s / L ≤ s := Nat.div_le_self _ _
      generalize s / L = q at this
      unfold Sm; omega
    have m1 : okMul (((s / L : Nat) : Int)) (S L f) = true := okMul_sm s2 s1 (by decide)
    have hL0 : ¬ (L : Int) = 0 := by omega
    have hrest : s % L < L := Nat.mod_lt _ hL
    have rr : okRng (((s % L : Nat) : Int)) = true := okRng_of (by omega) (by omega)
    have it := cmp_rng (h := H) (f := itm F C [9] (.nm 9) [] (.ix (.var 2) (.bin .mod (.bin .sub (.var 6) (.var 9)) (.var 1))) [c0, I L, some (.ref r), c3, some (.ref h.length), I (S L f), I i, I (s / L : Nat), I (s % L : Nat), c9']) (s % L) (fun k => .int (f ((i + L - k) % L))) (fun k hk => by
      have e := ix_tb (h := H) hr2 (Nat.mod_lt (i + L - k) hL)
      rw [← fmod_sub hi (by omega)] at e
      simp [itm, wipe, show ¬ L = 0 by omega, e])
    have ft : fits (rangeL 0 (s % L)).length = true := fits_le (by rw [rangeL_len]; omega)
    have st := set_tbo (h := H) (v := ((s / L : Nat) : Int) * S L f + S (s % L) (fun k => f ((i + L - k) % L))) hl2 hi
    rw [upd_step (i := i) (cv L s f) (((s / L : Nat) : Int) * S L f + S (s % L) (fun k => f ((i + L - k) % L))) rfl] at st
    have hset : H.set h.length (oI (tb L fun j => if j < i + 1 then cv L s f j else 0)) = h ++ [oI (tb L fun j => if j < i + 1 then cv L s f j else 0)] := by rw [← hH, app_set]
    rw [hset] at st
    refine ⟨_, _, ⟨I i, c9', rfl, rfl⟩, ?_⟩
    have sumE : sumI ((List.range (s % L)).map fun k => f ((i + L - k) % L)) = S (s % L) (fun k => f ((i + L - k) % L)) := sumI_tb _ _
    have tn : ((s % L : Nat) : Int).toNat = s % L := by omega
    have hsum : prmD .sum [.list ((List.range (s % L)).map fun k => PyData.int (f ((i + L - k) % L)))] = some (.int (S (s % L) (fun k => f ((i + L - k) % L)))) := by
      simp only [prmD, ints_map, Option.map_some, sumE]
    have ev1 : ev F C (.ofL (.cmp [9] (.nm 9) (.rng (.var 8)) [] (.ix (.var 2) (.bin .mod (.bin .sub (.var 6) (.var 9)) (.var 1))))) [c0, I L, some (.ref r), c3, some (.ref h.length), I (S L f), I i, I (s / L : Nat), I (s % L : Nat), c9'] H = .ok (.d (.list ((List.range (s % L)).map fun k => PyData.int (f ((i + L - k) % L))))) H := by
      have e8 : ([c0, I L, some (.ref r), c3, some (.ref h.length), I (S L f), I i, I (s / L : Nat), I (s % L : Nat), c9'] : Sg)[8]? = some (I (s % L : Nat)) := rfl
      simp only [e_ofL, el_cmp, ex_rng, e_var, e8, R.bind_ok, intV_i, rr, if_true, tn, ft, it, toDs_fn]
    show turnV (.nm 6) (bdy F C bodyA) (.d (.int (i : Int))) [c0, I L, some (.ref r), c3, some (.ref h.length), I (S L f), c6', I (s / L : Nat), I (s % L : Nat), c9'] H = _
    have e4 : ([c0, I L, some (.ref r), c3, some (.ref h.length), I (S L f), I i, I (s / L : Nat), I (s % L : Nat), c9'] : Sg)[4]? = some (some (.ref h.length)) := rfl
    have e5 : ([c0, I L, some (.ref r), c3, some (.ref h.length), I (S L f), I i, I (s / L : Nat), I (s % L : Nat), c9'] : Sg)[5]? = some (I (S L f)) := rfl
    have e6 : ([c0, I L, some (.ref r), c3, some (.ref h.length), I (S L f), I i, I (s / L : Nat), I (s % L : Nat), c9'] : Sg)[6]? = some (I i) := rfl
    have e7 : ([c0, I L, some (.ref r), c3, some (.ref h.length), I (S L f), I i, I (s / L : Nat), I (s % L : Nat), c9'] : Sg)[7]? = some (I (s / L : Nat)) := rfl
    unfold turnV bdy bodyA
    simp only [bindT_nm, List.set_cons_succ, List.set_cons_zero]
    simp only [xs_cons, xs_nil, x_six, e_bin, e_prm, es_cons, es_nil, ev1, e_var, e4, e5, e6, e7, R.bind_ok, binA_i, binV_d, binD_mul, m1, if_true, prmV_1, hsum, binD_add, R.thn_ok, st, RF.thn_nx]
end
end K13

set_option linter.all false
set_option Elab.async false
set_option autoImplicit false
set_option maxRecDepth 100000
namespace K13
open PySem Ip
section
variable {F j : Nat} {C : List Orc} {h : Hq}
theorem bindT_2 {a b : D} {i k : Nat} {σ : Sg} : bindT h (.tp [i, k]) (.d (.tuple [a, b])) σ = some ((σ.set i (some (.d a))).set k (some (.d b))) := by
  simp [bindT, els]
theorem dvm_n {s L : Nat} (h0 : 0 < L) (h1 : L ≤ 60000) : dvmV (.d (.int (s : Int))) (.d (.int (L : Int))) h = .ok (.d (.tuple [.int ((s / L : Nat) : Int), .int ((s % L : Nat) : Int)])) h := by
  have := okDiv_n h0 h1
  unfold dvmV
  simp only [this, Bool.and_true]
  rw [if_pos (by simpa using h0)]
  simp
theorem turnB {L s r B : Nat} {f : Nat → Int} {c0 c3 c4 c5 c6 c7 c8 c9 : Option Val} (hL : 0 < L) (hL2 : L ≤ 60) (hs : s ≤ 1000) (hB : Bd B f) (hB2 : B < 2 ^ 150) (hr : h[r]? = some (oI (tb L f))) :
    ∃ c3' c4' c5' c6' c7' c8' c9', turnV (.nm 3) (bdy F C bodyB) (.d (.int (s : Int))) [c0, I L, some (.ref r), c3, c4, c5, c6, c7, c8, c9] h =
      .ok (.nx [c0, I L, some (.ref h.length), c3', c4', c5', c6', c7', c8', c9']) (h ++ [oI (tb L (cv L s f))]) := by
  obtain ⟨c6', c9', e⟩ := walkA (F := F) (C := C) (h := h) (s := s) (c0 := c0) (c3 := I s) (c6 := c6) (c9 := c9) hL hL2 hs hB hB2 hr
  refine ⟨I s, some (.ref h.length), I (S L f), c6', I (s / L : Nat), I (s % L : Nat), c9', ?_⟩
  have rr : okRng (L : Int) = true := okRng_of (by omega) (by omega)
  have ob : h ++ [IO.lst ((List.replicate L (PyData.int 0)).map Val.d)] = h ++ [oI (tb L fun _ => 0)] := by
    rw [tb_const]; simp [oI, obj]
  have hr2 : (h ++ [oI (tb L fun _ => 0)])[r]? = some (oI (tb L f)) := by rw [app_get (lt_of_get hr)]; exact hr
  have sm := sum_tb (h := h ++ [oI (tb L fun _ => 0)]) hr2
  have rp := ev_rep (F := F) (C := C) (h := h) (v := 0) (σ := [c0, I L, some (.ref r), I s, c4, c5, c6, c7, c8, c9]) (b := .var 1) (n := L) (by simp) (by omega)
  have dv := dvm_n (h := h ++ [oI (tb L fun _ => 0)]) (s := s) hL (by omega)
  unfold turnV bdy bodyB
  simp only [bindT_nm, List.set_cons_succ, List.set_cons_zero, xs_cons, xs_nil, x_set, e_new, rp, R.bind_ok, R.thn_ok, ob, RF.thn_nx, x_asg, e_dvm, e_var]
  simp only [List.getElem?_cons_succ, List.getElem?_cons_zero, R.bind_ok, dv, R.thn_ok, bindT_2, RF.thn_nx, List.set_cons_succ, List.set_cons_zero, e_prm, es_cons, es_nil, e_var, sm, x_for, ex_rng, intV_i, rr, if_true, Int.toNat_natCast]
  rw [e]
  simp only [RF.thn_nx, List.getElem?_cons_succ, List.getElem?_cons_zero, R.thn_ok, List.set_cons_succ, List.set_cons_zero]
theorem fin_bd {L : Nat} (hL : 0 < L) (hL2 : L ≤ 60) : ∀ (sides : List Nat) (B : Nat) (f : Nat → Int), (∀ s ∈ sides, s ≤ 1000) → Bd B f → Bd (70000 ^ sides.length * B) (sides.foldl (fun f s => cv L s f) f)
  | [], B, f, _, h => by simpa using h
  | s :: sides, B, f, hs, h => by
    have := fin_bd hL hL2 sides (70000 * B) (cv L s f) (fun x hx => hs x (List.mem_cons_of_mem _ hx)) (cv_bd h hL hL2 (hs s List.mem_cons_self))
    rw [List.length_cons, Nat.pow_succ, Nat.mul_assoc]
    exact this
theorem dl_bd : Bd 1 dl := fun j => by unfold dl; split <;> decide
theorem fin_bd' {L : Nat} (hL : 0 < L) (hL2 : L ≤ 60) {sides : List Nat} (hs : ∀ s ∈ sides, s ≤ 1000) (hl : sides.length ≤ 6) : Bd (2 ^ 100) (fin L sides) := fun j => by
  have := fin_bd hL hL2 sides 1 dl hs dl_bd j
  have e : 70000 ^ sides.length ≤ 70000 ^ 6 := Nat.pow_le_pow_right (by decide) hl
  have e2 : (70000 : Nat) ^ 6 ≤ 2 ^ 100 := by decide
  rw [Nat.mul_one] at this
  exact Nat.le_trans this (Nat.le_trans e e2)
/-- sides as ints -/
def si (sides : List Nat) : List Int := sides.map fun s : Nat => (s : Int)
theorem si_get {sides : List Nat} {i : Nat} {v : Val} (hv : ((si sides).map PyData.int |>.map Val.d)[i]? = some v) : ∃ (hi : i < sides.length), v = .d (.int ((sides[i] : Nat) : Int)) := by
  unfold si at hv
  simp only [List.map_map, List.getElem?_map] at hv
  cases e : sides[i]? with
  | none => rw [e] at hv; cases hv
  | some s =>
    rw [e] at hv
    obtain ⟨h1, h2⟩ := List.getElem?_eq_some_iff.mp e
    refine ⟨h1, ?_⟩
    rw [h2]
    cases hv
    rfl
theorem fin_take {L : Nat} {sides : List Nat} {i : Nat} (hi : i < sides.length) : fin L (sides.take (i + 1)) = cv L sides[i] (fin L (sides.take i)) := by
  unfold fin
  rw [List.take_add_one, List.getElem?_eq_getElem hi, List.foldl_append]
  rfl
/-- what both count: one side after the other -/
theorem walkB {L : Nat} {sides : List Nat} {c0 c3 c4 c5 c6 c7 c8 c9 : Option Val} (hL : 0 < L) (hL2 : L ≤ 60) (hs : ∀ s ∈ sides, s ≤ 1000) (hl : sides.length ≤ 6) :
    ∃ r σ' h', h'[r]? = some (oI (tb L (fin L sides))) ∧ (∃ c3 c4 c5 c6 c7 c8 c9, σ' = [c0, I L, some (.ref r), c3, c4, c5, c6, c7, c8, c9]) ∧
      forL (turnV (.nm 3) (bdy F C bodyB)) (((si sides).map PyData.int).map Val.d) [c0, I L, some (.ref 0), c3, c4, c5, c6, c7, c8, c9] [oI (tb L dl)] = .ok (.nx σ') h' := by
  have key := forL_ix (f := turnV (.nm 3) (bdy F C bodyB)) (P := fun i σ h => ∃ r c3 c4 c5 c6 c7 c8 c9, σ = [c0, I L, some (.ref r), c3, c4, c5, c6, c7, c8, c9] ∧ h[r]? = some (oI (tb L (fin L (sides.take i)))))
    (((si sides).map PyData.int).map Val.d) 0 [c0, I L, some (.ref 0), c3, c4, c5, c6, c7, c8, c9] [oI (tb L dl)] (fun i v σ h hv hp => ?_) ⟨0, c3, c4, c5, c6, c7, c8, c9, rfl, rfl⟩
  · obtain ⟨σ', h', ⟨r, c3, c4, c5, c6, c7, c8, c9, rfl, e1⟩, e⟩ := key
    refine ⟨r, _, h', ?_, ⟨_, _, _, _, _, _, _, rfl⟩, e⟩
    rw [e1]
    simp [si]
  · rw [Nat.zero_add] at hp ⊢
    obtain ⟨r, c3, c4, c5, c6, c7, c8, c9, rfl, e1⟩ := hp
    obtain ⟨hi, rfl⟩ := si_get hv
    have ht : ∀ s ∈ sides.take i, s ≤ 1000 := fun s h => hs s (List.mem_of_mem_take h)
    have bd := fin_bd' hL hL2 ht (by rw [List.length_take]; omega)
    obtain ⟨c3', c4', c5', c6', c7', c8', c9', e⟩ := turnB (F := F) (C := C) (h := h) (s := sides[i]) (c0 := c0) (c3 := c3) (c4 := c4) (c5 := c5) (c6 := c6) (c7 := c7) (c8 := c8) (c9 := c9) hL hL2 (hs _ (List.getElem_mem hi)) bd (by decide) e1
    exact ⟨_, _, ⟨h.length, _, _, _, _, _, _, _, rfl, by rw [fin_take hi]; exact app_last⟩, e⟩
theorem beg_ev {L : Nat} {σ : Sg} (hL : 0 < L) (hL2 : L ≤ 60) (h1 : σ[1]? = some (I L)) : ev F C (.new (.cat (.ofL (.dsp [(.lit (.int 1))])) (.ofL (.rep (.dsp [(.lit (.int 0))]) (.bin .sub (.var 1) (.lit (.int 1))))))) σ h = .ok (.ref h.length) (h ++ [oI (tb L dl)]) := by
  have rp := ev_rep (F := F) (C := C) (h := h) (v := 0) (σ := σ) (b := .bin .sub (.var 1) (.lit (.int 1))) (n := L - 1) (by
    have : ((L - 1 : Nat) : Int) = (L : Int) - 1 := by omega
    simp [h1, this]) (by omega)
  have f1 : fits 1 = true := fits_le (by omega)
  have f2 : fits (1 + (L - 1)) = true := fits_le (by omega)
  simp only [e_new, el_cat, e_ofL, el_dsp, es_cons, es_nil, e_lit, R.bind_ok, List.length_cons, List.length_nil, Nat.zero_add, f1, if_true, toDs_cons, toDs_nil, toD_d, rp, toDs_map]
  unfold catL elsL
  simp only [List.length_map, List.length_cons, List.length_nil, List.length_replicate, Nat.zero_add, f2, if_true, R.bind_ok, List.map_cons, List.map_nil]
  rw [tb_dl hL]
  simp [oI, obj]
theorem c_counts {L : Nat} {sides : List Nat} (hL2 : L ≤ 60) (hs : ∀ s ∈ sides, s ≤ 1000) (hl : sides.length ≤ 6) (ok : okB 1000 (si sides) L = true) :
    callR F C f_colour_counts [.d (tupI (si sides)), .d (.int L)] h = .ok (.d (tupI (tb L (fin L sides)))) h := by
  have hL : 0 < L := by
    rcases Nat.eq_zero_or_pos L with z | z
    · subst z; simp [okB] at ok
    · exact z
  have key : ∃ h', Ip.run F C f_colour_counts [.d (tupI (si sides)), .d (.int L)] [] = .ok (.d (tupI (tb L (fin L sides)))) h' := by
    have g := gd_ok (F := F) (C := C) (h := []) (M := 1000) (k := 3) (sides := si sides) (long := L) (σ := [some (.d (tupI (si sides))), I L, none, none, none, none, none, none, none, none]) (by decide) (by simp) (by simp [si]; omega) rfl rfl
    rw [ok] at g
    obtain ⟨r, σ', h', e1, ⟨c3, c4, c5, c6, c7, c8, c9, rfl⟩, e⟩ := walkB (F := F) (C := C) (L := L) (sides := sides) (c0 := some (.d (tupI (si sides)))) (c3 := none) (c4 := none) (c5 := none) (c6 := none) (c7 := none) (c8 := none) (c9 := none) hL hL2 hs hl
    have b := beg_ev (F := F) (C := C) (h := []) (σ := [some (.d (tupI (si sides))), I L, none, none, none, none, none, none, none, none]) hL hL2 rfl
    have src : ev F C (.var 0) [some (.d (tupI (si sides))), I L, some (.ref 0), none, none, none, none, none, none, none] [oI (tb L dl)] = .ok (.d (tupI (si sides))) [oI (tb L dl)] := by simp
    refine ⟨h', ?_⟩
    show (match exs F C b_colour_counts [some (.d (tupI (si sides))), I L, none, none, none, none, none, none, none, none] [] with
      | .ok (.rt v) h1 => R.ok v h1
      | .ok (.nx _) h1 => .ok (.d .none) h1
      | .er e _ h1 => .er e h1
      | _ => .no) = .ok (.d (tupI (tb L (fin L sides)))) h'
    rw [cc_is]
    simp only [xs_cons, x_iff, g, R.thn_ok, Bool.not_true, Bool.false_eq_true, if_false, xs_nil, RF.thn_nx, x_set, b, List.set_cons_succ, List.set_cons_zero, List.length_nil, List.nil_append, x_for, ex_val, src, R.bind_ok]
    unfold tupI at e ⊢
    simp only [srcV_t, R.thn_ok]
    rw [e]
    simp only [RF.thn_nx, x_ret, e_tupO, e_var, List.getElem?_cons_succ, List.getElem?_cons_zero, R.bind_ok, tup_o e1, R.thn_ok, thn_rt]
    rfl
  obtain ⟨h', e⟩ := key
  exact call_pd (ds := [tupI (si sides), .int L]) rfl rfl e
theorem x_counts {sides : List Int} {long : Int} (hs : sides.length ≤ 100) (ok : okB 1000 sides long = false) : callR F C f_colour_counts [.d (tupI sides), .d (.int long)] h = .er ⟨0, none⟩ h := by
  refine call_pe (ds := [tupI sides, .int long]) (h1 := []) rfl rfl ?_
  have g := gd_ok (F := F) (C := C) (h := []) (M := 1000) (k := 3) (sides := sides) (long := long) (σ := [some (.d (tupI sides)), some (.d (.int long)), none, none, none, none, none, none, none, none]) (by decide) (by simp) (by omega) rfl rfl
  rw [ok] at g
  show (match exs F C b_colour_counts [some (.d (tupI sides)), some (.d (.int long)), none, none, none, none, none, none, none, none] [] with
    | .ok (.rt v) h1 => R.ok v h1
    | .ok (.nx _) h1 => .ok (.d .none) h1
    | .er e _ h1 => .er e h1
    | _ => .no) = _
  rw [cc_is, xs_cons, x_iff, g]
  simp only [R.thn_ok, Bool.not_false, if_true, xs_cons, x_rse, thn_er]
end
end K13

set_option linter.all false
set_option Elab.async false
set_option autoImplicit false
set_option maxRecDepth 100000
namespace K13
open PySem Ip
/-! ### sums turned around -/
theorem S_split (f : Nat → Int) (a : Nat) : ∀ b, S (a + b) f = S a f + S b fun i => f (a + i)
  | 0 => by simp [S]
  | b + 1 => by
    show S (a + b) f + f (a + b) = _
    rw [S_split f a b]
    show _ = S a f + (S b (fun i => f (a + i)) + f (a + b))
    omega
theorem S_head (f : Nat → Int) (n : Nat) : S (n + 1) f = f 0 + S n fun i => f (i + 1) := by
  rw [Nat.add_comm n 1, S_split]
  have : (fun i => f (1 + i)) = fun i => f (i + 1) := by funext i; rw [Nat.add_comm]
  rw [this]
  simp [S]
theorem S_rev (f : Nat → Int) : ∀ n, S n (fun i => f (n - 1 - i)) = S n f
  | 0 => rfl
  | n + 1 => by
    rw [S_head]
    have e : (S n fun i => f (n + 1 - 1 - (i + 1))) = S n (fun i => f (n - 1 - i)) := S_ext fun i hi => by congr 1; omega
    rw [e, S_rev f n]
    show f (n + 1 - 1 - 0) + S n f = S n f + f n
    rw [show n + 1 - 1 - 0 = n by omega]; omega
theorem S_add (f g : Nat → Int) : ∀ n, S n (fun i => f i + g i) = S n f + S n g
  | 0 => rfl
  | n + 1 => by
    show S n (fun i => f i + g i) + (f n + g n) = S n f + f n + (S n g + g n)
    rw [S_add f g n]; omega
theorem S_mul (c : Int) (f : Nat → Int) : ∀ n, S n (fun i => c * f i) = c * S n f
  | 0 => by simp [S]
  | n + 1 => by
    show S n (fun i => c * f i) + c * f n = c * (S n f + f n)
    rw [S_mul c f n, Int.mul_add]
theorem S_if (g : Nat → Int) {r : Nat} : ∀ n, r ≤ n → S n (fun k => if k < r then g k else 0) = S r g
  | 0, h => by
    have : r = 0 := by omega
    subst this; rfl
  | n + 1, h => by
    rcases Nat.lt_or_ge n r with q | q
    · have : r = n + 1 := by omega
      subst this
      exact S_ext fun i hi => by rw [if_pos hi]
    · show S n _ + (if n < r then g n else 0) = _
      rw [S_if g n q, if_neg (by omega)]; omega
theorem sub_mod {j k L : Nat} (hj : j < L) (hk : k < L) : (j + L - k) % L = if k ≤ j then j - k else j + L - k := by
  split
  · rw [show j + L - k = (j - k) + L by omega, Nat.add_mod_right, Nat.mod_eq_of_lt (by omega)]
  · rw [Nat.mod_eq_of_lt (by omega)]
theorem add_mod' {t k L : Nat} (ht : t < L) (hk : k < L) : (t + k) % L = if t + k < L then t + k else t + k - L := by
  split
  · rw [Nat.mod_eq_of_lt (by omega)]
  · rw [Nat.mod_eq_sub_mod (by omega), Nat.mod_eq_of_lt (by omega)]
theorem back_mod {j k t L : Nat} (hj : j < L) (hk : k < L) (ht : t < L) : (j + L - k) % L = t ↔ j = (t + k) % L := by
  rw [sub_mod hj hk, add_mod' ht hk]
  split <;> split <;> omega
theorem S_shift {L j : Nat} (f : Nat → Int) (hj : j < L) : S L (fun k => f ((j + L - k) % L)) = S L f := by
  obtain ⟨b, hb⟩ : ∃ b, L = (j + 1) + b := ⟨L - (j + 1), by omega⟩
  have e1 : S L (fun k => f ((j + L - k) % L)) = S (j + 1) (fun k => f (j - k)) + S b fun i => f (L - 1 - i) := by
    have : S L (fun k => f ((j + L - k) % L)) = S ((j + 1) + b) (fun k => f ((j + L - k) % L)) := by rw [← hb]
    rw [this, S_split]
    congr 1
    · exact S_ext fun k hk => by rw [sub_mod hj (by omega), if_pos (by omega)]
    · exact S_ext fun i hi => by
        rw [sub_mod hj (by omega), if_neg (by omega)]
        congr 1; omega
  have e2 : S L f = S (j + 1) f + S b fun i => f (j + 1 + i) := by
    have : S L f = S ((j + 1) + b) f := by rw [← hb]
    rw [this, S_split]
  have r1 := S_rev f (j + 1)
  have r2 := S_rev (fun i => f (j + 1 + i)) b
  have e3 : S b (fun i => f (j + 1 + (b - 1 - i))) = S b fun i => f (L - 1 - i) := S_ext fun i hi => by congr 1; omega
  rw [e1, e2]
  have e4 : S (j + 1) (fun k => f (j - k)) = S (j + 1) (fun i => f (j + 1 - 1 - i)) := S_ext fun i hi => by congr 1
  rw [e4, r1]
  rw [← r2, e3]
/-- how often a rest comes -/
def mn (L s k : Nat) : Int := ((s / L : Nat) : Int) + if k < s % L then 1 else 0
theorem cv_is {L s : Nat} (f : Nat → Int) {j : Nat} (hL : 0 < L) (hj : j < L) : S L (fun k => mn L s k * f ((j + L - k) % L)) = cv L s f j := by
  have e : (fun k => mn L s k * f ((j + L - k) % L)) = fun k => ((s / L : Nat) : Int) * f ((j + L - k) % L) + (if k < s % L then f ((j + L - k) % L) else 0) := by
    funext k
    unfold mn
    rw [Int.add_mul]
    congr 1
    split <;> simp
  rw [e, S_add, S_mul, S_shift f hj, S_if (fun k => f ((j + L - k) % L)) L (Nat.le_of_lt (Nat.mod_lt _ hL))]
  rfl
section
variable {F j : Nat} {C : List Orc} {h : Hq}
def ixD : Ex := .bin .mod (.prm .int [(.bin .add (.var 7) (.var 5))]) (.var 1)
def bodyD : List Ip.St := [.six (.var 4) ixD (.bin .add (.ix (.var 4) ixD) (.bin .mul (.var 6) (.ix (.var 2) (.var 7))))]
def bodyC : List Ip.St := [.set 6 (.bin .add (.bin .fdiv (.var 3) (.var 1)) (.prm .int [(.cmp .lt (.var 5) (.bin .mod (.prm .int [(.var 3)]) (.var 1)))])),
         .for_ (.nm 7) (.rng (.var 1)) bodyD]
def bodyE : List Ip.St := [.set 4 (.new (.rep (.dsp [(.lit (.int 0))]) (.var 1))), .for_ (.nm 5) (.rng (.var 1)) bodyC, .set 2 (.var 4)]
theorem lc_is : b__law_counts = [.set 2 (.new (.cat (.ofL (.dsp [(.lit (.int 1))])) (.ofL (.rep (.dsp [(.lit (.int 0))]) (.bin .sub (.var 1) (.lit (.int 1))))))), .for_ (.nm 3) (.val (.var 0)) bodyE, .ret (.tupO (.var 2))] := rfl
theorem fmod_add {t k L : Nat} (hL : 0 < L) : ((t : Int) + (k : Int)).fmod (L : Int) = (((t + k) % L : Nat) : Int) := by
  rw [Int.fmod_eq_emod_of_nonneg _ (by omega)]
  rw [Int.natCast_emod, Int.natCast_add]
theorem walkD {L s r B k : Nat} {f g : Nat → Int} {m : Int} {c0 c3 c7 : Option Val} (hL : 0 < L) (hL2 : L ≤ 60) (hk : k < L) (hB : Bd B f) (hB2 : B < 2 ^ 150) (hm : Sm 20 m) (hr : h[r]? = some (oI (tb L f))) :
    ∃ c7', forL (turnV (.nm 7) (bdy F C bodyD)) (rangeL 0 L) [c0, I L, some (.ref r), c3, some (.ref h.length), I k, I m, c7] (h ++ [oI (tb L g)]) =
      .ok (.nx [c0, I L, some (.ref r), c3, some (.ref h.length), I k, I m, c7']) (h ++ [oI (tb L fun j => g j + m * f ((j + L - k) % L))]) := by
  have hrl : r < h.length := lt_of_get hr
  have key := forL_rng (f := turnV (.nm 7) (bdy F C bodyD)) (P := fun t σ h' => ∃ c7', σ = [c0, I L, some (.ref r), c3, some (.ref h.length), I k, I m, c7'] ∧ h' = h ++ [oI (tb L fun j => g j + if (j + L - k) % L < t then m * f ((j + L - k) % L) else 0)]) L
    (σ := [c0, I L, some (.ref r), c3, some (.ref h.length), I k, I m, c7]) (h := h ++ [oI (tb L g)]) (fun t σ h' ht hp => ?_) ⟨c7, rfl, by simp⟩
  · obtain ⟨σ', h', ⟨c7', rfl, rfl⟩, e⟩ := key
    refine ⟨c7', ?_⟩
    rw [e]
    have : (tb L fun j => g j + if (j + L - k) % L < L then m * f ((j + L - k) % L) else 0) = tb L (fun j => g j + m * f ((j + L - k) % L)) := tb_ext fun i hi => by rw [if_pos (Nat.mod_lt _ hL)]
    rw [this]
  · obtain ⟨c7', rfl, rfl⟩ := hp
    generalize hG : (fun j => g j + if (j + L - k) % L < t then m * f ((j + L - k) % L) else 0) = G
    generalize hH : h ++ [oI (tb L G)] = H
    have hr2 : H[r]? = some (oI (tb L f)) := by rw [← hH, app_get hrl]; exact hr
    have hl2 : H[h.length]? = some (oI (tb L G)) := by rw [← hH, app_last]
    have s1 : Sm 151 (f t) := by have := hB t; unfold Sm; omega
    have m1 : okMul m (f t) = true := okMul_sm hm s1 (by decide)
    have hL0 : ¬ (L : Int) = 0 := by omega
    have hi : (t + k) % L < L := Nat.mod_lt _ hL
    have i1 := ix_tb (h := H) hl2 hi
    have i2 := ix_tb (h := H) hr2 ht
    have st := set_tbo (h := H) (v := G ((t + k) % L) + m * f t) hl2 hi
    have eG : tb L (updF G ((t + k) % L) (G ((t + k) % L) + m * f t)) = tb L (fun j => g j + if (j + L - k) % L < t + 1 then m * f ((j + L - k) % L) else 0) := tb_ext fun j hj => by
      have bm := back_mod hj hk ht
      unfold updF
      rw [← hG]
      by_cases e : j = (t + k) % L
      · rw [if_pos e, ← e]
        have e2 := bm.mpr e
        simp only [e2]
        rw [if_neg (by omega), if_pos (by omega)]; omega
      · have e2 : (j + L - k) % L ≠ t := fun z => e (bm.mp z)
        rw [if_neg e]
        simp only
        congr 1
        by_cases e3 : (j + L - k) % L < t
        · rw [if_pos e3, if_pos (by omega)]
        · rw [if_neg e3, if_neg (by omega)]
    rw [eG] at st
    have hset : ∀ y, H.set h.length y = h ++ [y] := fun y => by rw [← hH, app_set]
    rw [hset] at st
    refine ⟨_, _, ⟨I t, rfl, rfl⟩, ?_⟩
    have ixE : ev F C ixD [c0, I L, some (.ref r), c3, some (.ref h.length), I k, I m, I t] H = .ok (.d (.int (((t + k) % L : Nat) : Int))) H := by
      unfold ixD
      simp only [e_bin, e_prm, es_cons, es_nil, e_var, List.getElem?_cons_succ, List.getElem?_cons_zero, R.bind_ok, binA_i, binV_d, binD_add, prmV_1, prm_int, binD_mod, if_neg hL0, fmod_add hL]
    unfold turnV bdy bodyD
    simp only [bindT_nm, List.set_cons_succ, List.set_cons_zero, xs_cons, xs_nil, x_six, e_bin, e_ix, ixE, e_var, List.getElem?_cons_succ, List.getElem?_cons_zero, R.bind_ok, i1, i2, binA_i, binV_d, binD_mul, m1, if_true, binD_add, R.thn_ok, st, RF.thn_nx]
theorem walkC {L s r B : Nat} {f : Nat → Int} {c0 c5 c6 c7 : Option Val} (hL : 0 < L) (hL2 : L ≤ 60) (hs : s ≤ 1000) (hB : Bd B f) (hB2 : B < 2 ^ 150) (hr : h[r]? = some (oI (tb L f))) :
    ∃ c5' c6' c7', forL (turnV (.nm 5) (bdy F C bodyC)) (rangeL 0 L) [c0, I L, some (.ref r), I s, some (.ref h.length), c5, c6, c7] (h ++ [oI (tb L fun _ => 0)]) =
      .ok (.nx [c0, I L, some (.ref r), I s, some (.ref h.length), c5', c6', c7']) (h ++ [oI (tb L (cv L s f))]) := by
  have key := forL_rng (f := turnV (.nm 5) (bdy F C bodyC)) (P := fun k σ h' => ∃ c5' c6' c7', σ = [c0, I L, some (.ref r), I s, some (.ref h.length), c5', c6', c7'] ∧ h' = h ++ [oI (tb L fun j => S k fun k' => mn L s k' * f ((j + L - k') % L))]) L
    (σ := [c0, I L, some (.ref r), I s, some (.ref h.length), c5, c6, c7]) (h := h ++ [oI (tb L fun _ => 0)]) (fun k σ h' hk hp => ?_) ⟨c5, c6, c7, rfl, rfl⟩
  · obtain ⟨σ', h', ⟨c5', c6', c7', rfl, rfl⟩, e⟩ := key
    refine ⟨c5', c6', c7', ?_⟩
    rw [e]
    have : (tb L fun j => S L fun k' => mn L s k' * f ((j + L - k') % L)) = tb L (cv L s f) := tb_ext fun i hi => cv_is f hL hi
    rw [this]
  · obtain ⟨c5', c6', c7', rfl, rfl⟩ := hp
    have hm : Sm 20 (mn L s k) := by
      have : s / L ≤ s := Nat.div_le_self _ _
      unfold mn Sm
      generalize s / L = q at this
      split <;> omega
    obtain ⟨c7'', e⟩ := walkD (F := F) (C := C) (s := s) (c0 := c0) (c3 := I s) (c7 := c7') (g := fun j => S k fun k' => mn L s k' * f ((j + L - k') % L)) hL hL2 hk hB hB2 hm hr
    refine ⟨_, _, ⟨I k, I (mn L s k), c7'', rfl, rfl⟩, ?_⟩
    have hL0 : ¬ (L : Int) = 0 := by omega
    have dv := okDiv_n hL (show L ≤ 60000 by omega)
    have rr : okRng (L : Int) = true := okRng_of (by omega) (by omega)
    have q1 : (s : Int).fdiv (L : Int) = ((s / L : Nat) : Int) := by rw [Int.fdiv_eq_ediv_of_nonneg _ (by omega)]; simp
    have q2 : (s : Int).fmod (L : Int) = ((s % L : Nat) : Int) := by rw [Int.fmod_eq_emod_of_nonneg _ (by omega)]; simp
    have q3 : ((s / L : Nat) : Int) + (if decide ((k : Int) < ((s % L : Nat) : Int)) = true then 1 else 0) = mn L s k := by
      unfold mn
      by_cases z : k < s % L
      · rw [if_pos z, if_pos (by rw [decide_eq_true_eq]; omega)]
      · rw [if_neg z, if_neg (by rw [decide_eq_true_eq]; omega)]
    unfold turnV bdy bodyC
    simp only [bindT_nm, List.set_cons_succ, List.set_cons_zero, xs_cons, xs_nil, x_set, e_bin, e_prm, e_cmp, es_cons, es_nil, e_var, List.getElem?_cons_succ, List.getElem?_cons_zero, R.bind_ok, prmV_1, prm_int, binA_i, binV_d, binD_mod, binD_fdiv, dv, if_true, if_neg hL0, q1, q2, cmpV_d, cmpD_lt, prm_intb, binD_add, q3, R.thn_ok, RF.thn_nx, x_for, ex_rng, intV_i, rr, Int.toNat_natCast]
    rw [e]
    rfl
theorem turnE {L s r B : Nat} {f : Nat → Int} {c0 c3 c4 c5 c6 c7 : Option Val} (hL : 0 < L) (hL2 : L ≤ 60) (hs : s ≤ 1000) (hB : Bd B f) (hB2 : B < 2 ^ 150) (hr : h[r]? = some (oI (tb L f))) :
    ∃ c3' c4' c5' c6' c7', turnV (.nm 3) (bdy F C bodyE) (.d (.int (s : Int))) [c0, I L, some (.ref r), c3, c4, c5, c6, c7] h =
      .ok (.nx [c0, I L, some (.ref h.length), c3', c4', c5', c6', c7']) (h ++ [oI (tb L (cv L s f))]) := by
  obtain ⟨c5', c6', c7', e⟩ := walkC (F := F) (C := C) (h := h) (s := s) (c0 := c0) (c5 := c5) (c6 := c6) (c7 := c7) hL hL2 hs hB hB2 hr
  refine ⟨I s, some (.ref h.length), c5', c6', c7', ?_⟩
  have rr : okRng (L : Int) = true := okRng_of (by omega) (by omega)
  have ob : h ++ [IO.lst ((List.replicate L (PyData.int 0)).map Val.d)] = h ++ [oI (tb L fun _ => 0)] := by
    rw [tb_const]; simp [oI, obj]
  have rp := ev_rep (F := F) (C := C) (h := h) (v := 0) (σ := [c0, I L, some (.ref r), I s, c4, c5, c6, c7]) (b := .var 1) (n := L) (by simp) (by omega)
  unfold turnV bdy bodyE
  simp only [bindT_nm, List.set_cons_succ, List.set_cons_zero, xs_cons, xs_nil, x_set, e_new, rp, R.bind_ok, R.thn_ok, ob, RF.thn_nx, e_var]
  simp only [List.getElem?_cons_succ, List.getElem?_cons_zero, R.bind_ok, R.thn_ok, RF.thn_nx, List.set_cons_succ, List.set_cons_zero, e_var, x_for, ex_rng, intV_i, rr, if_true, Int.toNat_natCast]
  rw [e]
  simp only [RF.thn_nx, List.getElem?_cons_succ, List.getElem?_cons_zero, R.thn_ok, List.set_cons_succ, List.set_cons_zero]
theorem walkE {L : Nat} {sides : List Nat} {c0 c3 c4 c5 c6 c7 : Option Val} (hL : 0 < L) (hL2 : L ≤ 60) (hs : ∀ s ∈ sides, s ≤ 1000) (hl : sides.length ≤ 6) :
    ∃ r σ' h', h'[r]? = some (oI (tb L (fin L sides))) ∧ (∃ c3 c4 c5 c6 c7, σ' = [c0, I L, some (.ref r), c3, c4, c5, c6, c7]) ∧
      forL (turnV (.nm 3) (bdy F C bodyE)) (((si sides).map PyData.int).map Val.d) [c0, I L, some (.ref 0), c3, c4, c5, c6, c7] [oI (tb L dl)] = .ok (.nx σ') h' := by
  have key := forL_ix (f := turnV (.nm 3) (bdy F C bodyE)) (P := fun i σ h => ∃ r c3 c4 c5 c6 c7, σ = [c0, I L, some (.ref r), c3, c4, c5, c6, c7] ∧ h[r]? = some (oI (tb L (fin L (sides.take i)))))
    (((si sides).map PyData.int).map Val.d) 0 [c0, I L, some (.ref 0), c3, c4, c5, c6, c7] [oI (tb L dl)] (fun i v σ h hv hp => ?_) ⟨0, c3, c4, c5, c6, c7, rfl, rfl⟩
  · obtain ⟨σ', h', ⟨r, c3, c4, c5, c6, c7, rfl, e1⟩, e⟩ := key
    refine ⟨r, _, h', ?_, ⟨_, _, _, _, _, rfl⟩, e⟩
    rw [e1]
    simp [si]
  · rw [Nat.zero_add] at hp ⊢
    obtain ⟨r, c3, c4, c5, c6, c7, rfl, e1⟩ := hp
    obtain ⟨hi, rfl⟩ := si_get hv
    have ht : ∀ s ∈ sides.take i, s ≤ 1000 := fun s h => hs s (List.mem_of_mem_take h)
    have bd := fin_bd' hL hL2 ht (by rw [List.length_take]; omega)
    obtain ⟨c3', c4', c5', c6', c7', e⟩ := turnE (F := F) (C := C) (h := h) (s := sides[i]) (c0 := c0) (c3 := c3) (c4 := c4) (c5 := c5) (c6 := c6) (c7 := c7) hL hL2 (hs _ (List.getElem_mem hi)) bd (by decide) e1
    exact ⟨_, _, ⟨h.length, _, _, _, _, _, rfl, by rw [fin_take hi]; exact app_last⟩, e⟩
theorem c_lcounts {L : Nat} {sides : List Nat} (hL : 0 < L) (hL2 : L ≤ 60) (hs : ∀ s ∈ sides, s ≤ 1000) (hl : sides.length ≤ 6) :
    callR F C f__law_counts [.d (tupI (si sides)), .d (.int L)] h = .ok (.d (tupI (tb L (fin L sides)))) h := by
  have key : ∃ h', Ip.run F C f__law_counts [.d (tupI (si sides)), .d (.int L)] [] = .ok (.d (tupI (tb L (fin L sides)))) h' := by
    obtain ⟨r, σ', h', e1, ⟨c3, c4, c5, c6, c7, rfl⟩, e⟩ := walkE (F := F) (C := C) (L := L) (sides := sides) (c0 := some (.d (tupI (si sides)))) (c3 := none) (c4 := none) (c5 := none) (c6 := none) (c7 := none) hL hL2 hs hl
    have b := beg_ev (F := F) (C := C) (h := []) (σ := [some (.d (tupI (si sides))), I L, none, none, none, none, none, none]) hL hL2 rfl
    have src : ev F C (.var 0) [some (.d (tupI (si sides))), I L, some (.ref 0), none, none, none, none, none] [oI (tb L dl)] = .ok (.d (tupI (si sides))) [oI (tb L dl)] := by simp
    refine ⟨h', ?_⟩
    show (match exs F C b__law_counts [some (.d (tupI (si sides))), I L, none, none, none, none, none, none] [] with
      | .ok (.rt v) h1 => R.ok v h1
      | .ok (.nx _) h1 => .ok (.d .none) h1
      | .er e _ h1 => .er e h1
      | _ => .no) = .ok (.d (tupI (tb L (fin L sides)))) h'
    rw [lc_is]
    simp only [xs_cons, R.thn_ok, xs_nil, RF.thn_nx, x_set, b, List.set_cons_succ, List.set_cons_zero, List.length_nil, List.nil_append, x_for, ex_val, src, R.bind_ok]
    unfold tupI at e ⊢
    simp only [srcV_t, R.thn_ok]
    rw [e]
    simp only [RF.thn_nx, x_ret, e_tupO, e_var, List.getElem?_cons_succ, List.getElem?_cons_zero, R.bind_ok, tup_o e1, R.thn_ok, thn_rt]
    rfl
  obtain ⟨h', e⟩ := key
  exact call_pd (ds := [tupI (si sides), .int L]) rfl rfl e
end
end K13

set_option linter.all false
set_option Elab.async false
set_option autoImplicit false
set_option maxRecDepth 100000
namespace K13
open PySem Ip
/-! ### roots of one -/
def pgs : List (Nat × Nat) := [(2, 1), (2, 1), (3, 2), (7, 2), (5, 2), (11, 3), (7, 3), (29, 7), (17, 2), (19, 4), (11, 2), (23, 2), (13, 2), (53, 10), (29, 4), (31, 7), (17, 3), (103, 8), (19, 2), (191, 5), (41, 2), (43, 9), (23, 5), (47, 2), (73, 7), (101, 5), (53, 4), (109, 3), (29, 2), (59, 3), (31, 3), (311, 7), (97, 19), (67, 4), (103, 3), (71, 2), (37, 2), (149, 5), (191, 11), (79, 2), (41, 6), (83, 3), (43, 3), (173, 6), (89, 5), (181, 3), (47, 5), (283, 4), (97, 2), (197, 16), (101, 4), (103, 2), (53, 2), (107, 3), (109, 12), (331, 22), (113, 9), (229, 3), (59, 2), (709, 20), (61, 2)]
/-- 1 + g + .. , t of them, by p -/
def gm (p g : Nat) : Nat → Nat
  | 0 => 0
  | t + 1 => (gm p g t + g ^ t) % p
def pgOk (n : Nat) (q : Nat × Nat) : Bool := decide (1 < q.1) && decide (q.2 ^ n % q.1 = 1) && decide (gm q.1 q.2 n = 0) && (List.range n).all fun t => decide (t = 0) || decide (Nat.gcd q.1 (gm q.1 q.2 t) = 1)
theorem pgs_ok : ((List.range 61).all fun n => decide (n < 2) || pgOk n (pgs.getD n (2, 1))) = true := by decide +kernel
structure Root (n p g : Nat) : Prop where
  p1 : 1 < p
  one : g ^ n % p = 1
  all : gm p g n = 0
  cop : ∀ t, 0 < t → t < n → Nat.gcd p (gm p g t) = 1
theorem root_of {n : Nat} (h : 2 ≤ n) (h2 : n ≤ 60) : ∃ p g, Root n p g := by
  have a := List.all_eq_true.mp pgs_ok n (List.mem_range.mpr (by omega))
  simp only [Bool.or_eq_true, decide_eq_true_eq] at a
  have a := a.resolve_left (by omega)
  unfold pgOk at a
  simp only [Bool.and_eq_true, decide_eq_true_eq, List.all_eq_true, Bool.or_eq_true] at a
  exact ⟨_, _, a.1.1.1, a.1.1.2, a.1.2, fun t h0 h1 => (a.2 t (List.mem_range.mpr h1)).resolve_left (by omega)⟩
/-! ### the same by p -/
def cg (p : Nat) (a b : Int) : Prop := (p : Int) ∣ a - b
section
variable {p : Nat} {a b c d : Int}
theorem cg.refl (p : Nat) (a : Int) : cg p a a := by unfold cg; rw [Int.sub_self]; exact Int.dvd_zero _
theorem cg.trans (h : cg p a b) (k : cg p b c) : cg p a c := by
  have := Int.dvd_add h k
  unfold cg
  rw [show a - c = (a - b) + (b - c) by omega]; exact this
theorem cg.add (h : cg p a b) (k : cg p c d) : cg p (a + c) (b + d) := by
  have := Int.dvd_add h k
  unfold cg
  rw [show a + c - (b + d) = (a - b) + (c - d) by omega]; exact this
theorem cg.mul (c : Int) (h : cg p a b) : cg p (c * a) (c * b) := by
  unfold cg
  rw [← Int.mul_sub]
  exact Int.dvd_mul_of_dvd_right h
theorem cg.S {f g : Nat → Int} : ∀ {n : Nat}, (∀ i, i < n → cg p (f i) (g i)) → cg p (S n f) (S n g)
  | 0, _ => cg.refl _ _
  | n + 1, h => cg.add (cg.S fun i hi => h i (by omega)) (h n (by omega))
end
theorem S_swap (f : Nat → Nat → Int) (a : Nat) : ∀ b, S a (fun i => S b fun j => f i j) = S b fun j => S a fun i => f i j
  | 0 => by
    show S a (fun _ => 0) = 0
    induction a with
    | zero => rfl
    | succ a ih => show S a (fun _ => 0) + 0 = 0; rw [ih]; rfl
  | b + 1 => by
    show S a (fun i => S b (fun j => f i j) + f i b) = S b (fun j => S a fun i => f i j) + S a fun i => f i b
    rw [S_add, S_swap f a b]
section
variable {L p g : Nat}
def Tt (g t : Nat) : Int := S t fun k => (g : Int) ^ k
def Wt (L g : Nat) (f : Nat → Int) : Int := S L fun j => f j * (g : Int) ^ j
theorem gm_is (p g : Nat) : ∀ t, cg p (Tt g t) (gm p g t : Nat)
  | 0 => cg.refl _ _
  | t + 1 => by
    have ih := gm_is p g t
    have e : Tt g (t + 1) = Tt g t + (g : Int) ^ t := rfl
    rw [e]
    refine (ih.add (cg.refl p ((g : Int) ^ t))).trans ?_
    show (p : Int) ∣ ((gm p g t : Nat) : Int) + (g : Int) ^ t - (((gm p g t + g ^ t) % p : Nat) : Int)
    have : ((gm p g t : Nat) : Int) + (g : Int) ^ t - (((gm p g t + g ^ t) % p : Nat) : Int) = (p : Int) * (((gm p g t + g ^ t) / p : Nat) : Int) := by
      have h := Nat.div_add_mod (gm p g t + g ^ t) p
      have h2 : ((gm p g t + g ^ t : Nat) : Int) = ((gm p g t : Nat) : Int) + (g : Int) ^ t := by rw [Int.natCast_add, Int.natCast_pow]
      have h3 : ((p * ((gm p g t + g ^ t) / p) + (gm p g t + g ^ t) % p : Nat) : Int) = ((gm p g t + g ^ t : Nat) : Int) := by rw [h]
      rw [Int.natCast_add, Int.natCast_mul] at h3
      omega
    rw [this]
    exact Int.dvd_mul_right _ _
theorem one_is (r : Root L p g) : cg p ((g : Int) ^ L) 1 := by
  have h := Nat.div_add_mod (g ^ L) p
  rw [r.one] at h
  unfold cg
  have h3 : ((p * (g ^ L / p) + 1 : Nat) : Int) = ((g ^ L : Nat) : Int) := by rw [h]
  rw [Int.natCast_add, Int.natCast_mul, Int.natCast_pow] at h3
  rw [← h3]
  simp only [Int.natCast_one, Int.add_sub_cancel]
  exact Int.dvd_mul_right _ _
theorem shiftW (r : Root L p g) (f : Nat → Int) {k : Nat} (hk : k < L) : cg p (S L fun j => f ((j + L - k) % L) * (g : Int) ^ j) ((g : Int) ^ k * Wt L g f) := by
  obtain ⟨b, hb⟩ : ∃ b, L = k + b := ⟨L - k, by omega⟩
  have e1 : (S L fun j => f ((j + L - k) % L) * (g : Int) ^ j) = S k (fun j => f (b + j) * (g : Int) ^ j) + S b fun i => f i * (g : Int) ^ (k + i) := by
    have : (S L fun j => f ((j + L - k) % L) * (g : Int) ^ j) = S (k + b) fun j => f ((j + L - k) % L) * (g : Int) ^ j := by rw [← hb]
    rw [this, S_split]
    congr 1
    · exact S_ext fun j hj => by
        rw [sub_mod (by omega) hk, if_neg (by omega)]
        congr 2; omega
    · exact S_ext fun i hi => by
        rw [sub_mod (by omega) hk, if_pos (by omega)]
        congr 2; omega
  have e2 : (g : Int) ^ k * Wt L g f = S b (fun i => f i * (g : Int) ^ (k + i)) + S k fun j => f (b + j) * ((g : Int) ^ L * (g : Int) ^ j) := by
    unfold Wt
    rw [← S_mul]
    have : (S L fun i => (g : Int) ^ k * (f i * (g : Int) ^ i)) = S (b + k) fun i => (g : Int) ^ k * (f i * (g : Int) ^ i) := by rw [show b + k = L by omega]
    rw [this, S_split]
    congr 1
    · exact S_ext fun i hi => by rw [Int.mul_left_comm, ← Int.pow_add]
    · exact S_ext fun i hi => by rw [Int.mul_left_comm, ← Int.pow_add, ← Int.pow_add]; congr 2; omega
  rw [e1, e2, Int.add_comm]
  refine (cg.refl p _).add (cg.S fun i hi => cg.mul _ ?_)
  have := (one_is r)
  unfold cg at this ⊢
  have e : (g : Int) ^ i - (g : Int) ^ L * (g : Int) ^ i = -(((g : Int) ^ L - 1) * (g : Int) ^ i) := by rw [Int.sub_mul]; omega
  rw [e]
  exact Int.dvd_neg.mpr (Int.dvd_mul_of_dvd_left this)
theorem cvW (r : Root L p g) (hL : 0 < L) (f : Nat → Int) (s : Nat) : cg p (Wt L g (cv L s f)) (Tt g (s % L) * Wt L g f) := by
  have e1 : Wt L g (cv L s f) = S L fun k => mn L s k * S L fun j => f ((j + L - k) % L) * (g : Int) ^ j := by
    unfold Wt
    have : (S L fun j => cv L s f j * (g : Int) ^ j) = S L fun j => S L fun k => mn L s k * (f ((j + L - k) % L) * (g : Int) ^ j) := S_ext fun j hj => by
      rw [← cv_is f hL hj, Int.mul_comm, ← S_mul]
      exact S_ext fun k hk => by rw [Int.mul_left_comm, Int.mul_comm ((g : Int) ^ j)]
    rw [this, S_swap]
    exact S_ext fun k hk => by rw [← S_mul]
  rw [e1]
  refine (cg.S fun k hk => cg.mul (mn L s k) (shiftW r f hk)).trans ?_
  have e2 : (S L fun k => mn L s k * ((g : Int) ^ k * Wt L g f)) = Wt L g f * (((s / L : Nat) : Int) * Tt g L + Tt g (s % L)) := by
    have : (S L fun k => mn L s k * ((g : Int) ^ k * Wt L g f)) = S L fun k => Wt L g f * (((s / L : Nat) : Int) * (g : Int) ^ k + if k < s % L then (g : Int) ^ k else 0) := S_ext fun k hk => by
      unfold mn
      rw [Int.mul_comm ((g : Int) ^ k), Int.mul_left_comm]
      congr 1
      rw [Int.add_mul]
      congr 1
      split <;> simp
    rw [this, S_mul, S_add, S_mul, S_if (fun k => (g : Int) ^ k) L (Nat.le_of_lt (Nat.mod_lt _ hL))]
    rfl
  rw [e2]
  have tl : (p : Int) ∣ Tt g L := by
    have := gm_is p g L
    rw [r.all] at this
    unfold cg at this
    simpa using this
  unfold cg
  have e3 : Wt L g f * (((s / L : Nat) : Int) * Tt g L + Tt g (s % L)) - Tt g (s % L) * Wt L g f = Wt L g f * (((s / L : Nat) : Int) * Tt g L) := by
    rw [Int.mul_add, Int.mul_comm (Tt g (s % L))]; omega
  rw [e3]
  exact Int.dvd_mul_of_dvd_right (Int.dvd_mul_of_dvd_right tl)
theorem cg.dvd {a b : Int} (h : cg p a b) (k : (p : Int) ∣ a) : (p : Int) ∣ b := by
  have := Int.dvd_sub k h
  rw [show a - (a - b) = b by omega] at this
  exact this
/-- a side that the length does not divide -/
theorem stepW (r : Root L p g) (hL : 0 < L) {f : Nat → Int} {s : Nat} (hs : s % L ≠ 0) (h : ¬ (p : Int) ∣ Wt L g f) : ¬ (p : Int) ∣ Wt L g (cv L s f) := fun z => by
  have h1 := (cvW r hL f s).dvd z
  have h2 : (p : Int) ∣ (gm p g (s % L) : Nat) * Wt L g f := by
    have k := cg.mul (Wt L g f) (gm_is p g (s % L))
    rw [Int.mul_comm] at h1
    have := k.dvd h1
    rwa [Int.mul_comm] at this
  have co := r.cop (s % L) (by omega) (Nat.mod_lt _ hL)
  have h3 : p ∣ (gm p g (s % L)) * (Wt L g f).natAbs := by
    have := Int.natAbs_dvd_natAbs.mpr h2
    rw [Int.natAbs_mul] at this
    simpa using this
  have h4 : p ∣ (Wt L g f).natAbs := Nat.Coprime.dvd_of_dvd_mul_left co h3
  exact h (Int.natAbs_dvd_natAbs.mp (by simpa using h4))
theorem finW (r : Root L p g) (hL : 0 < L) : ∀ (sides : List Nat) (f : Nat → Int), (∀ s ∈ sides, s % L ≠ 0) → ¬ (p : Int) ∣ Wt L g f → ¬ (p : Int) ∣ Wt L g (sides.foldl (fun f s => cv L s f) f)
  | [], f, _, h => h
  | s :: sides, f, hs, h => finW r hL sides (cv L s f) (fun x hx => hs x (List.mem_cons_of_mem _ hx)) (stepW r hL (hs s List.mem_cons_self) h)
theorem dlW (hL : 0 < L) : Wt L g dl = 1 := by
  unfold Wt
  obtain ⟨b, rfl⟩ : ∃ b, L = b + 1 := ⟨L - 1, by omega⟩
  rw [S_head]
  have : (S b fun i => dl (i + 1) * (g : Int) ^ (i + 1)) = S b fun _ => 0 := S_ext fun i hi => by simp [dl]
  rw [this]
  have z : S b (fun _ => 0) = 0 := by
    clear this hL
    induction b with
    | zero => rfl
    | succ b ih => show S b (fun _ => 0) + 0 = 0; rw [ih]; rfl
  rw [z]
  simp [dl]
def Cst (L : Nat) (f : Nat → Int) : Prop := ∀ j, j < L → f j = f 0
theorem not_cst {sides : List Nat} (h : 2 ≤ L) (h2 : L ≤ 60) (hs : ∀ s ∈ sides, s % L ≠ 0) : ¬ Cst L (fin L sides) := fun c => by
  obtain ⟨p, g, r⟩ := root_of h h2
  have hL : 0 < L := by omega
  refine finW r hL sides dl hs (fun z => ?_) ?_
  · rw [dlW hL] at z
    have := Int.natAbs_dvd_natAbs.mpr z
    simp at this
    have := r.p1
    omega
  · show (p : Int) ∣ Wt L g (fin L sides)
    have e : Wt L g (fin L sides) = fin L sides 0 * Tt g L := by
      unfold Wt Tt
      rw [← S_mul]
      exact S_ext fun j hj => by rw [c j hj]
    rw [e]
    have tl : (p : Int) ∣ Tt g L := by
      have := gm_is p g L
      rw [r.all] at this
      unfold cg at this
      simpa using this
    exact Int.dvd_mul_of_dvd_right tl
theorem cv_cst {f : Nat → Int} {s : Nat} (hL : 0 < L) (h : Cst L f) : Cst L (cv L s f) := fun j hj => by
  unfold cv
  congr 1
  exact S_ext fun k hk => by rw [h _ (Nat.mod_lt _ hL), h _ (Nat.mod_lt _ hL)]
theorem cv_div {f : Nat → Int} {s : Nat} (h : s % L = 0) : Cst L (cv L s f) := fun j hj => by
  unfold cv
  rw [h]; rfl
theorem fin_cst (hL : 0 < L) : ∀ (sides : List Nat) (f : Nat → Int), (Cst L f ∨ ∃ s ∈ sides, s % L = 0) → Cst L (sides.foldl (fun f s => cv L s f) f)
  | [], f, h => h.resolve_right fun ⟨s, hs, _⟩ => by cases hs
  | s :: sides, f, h => by
    refine fin_cst hL sides (cv L s f) ?_
    rcases h with h | ⟨x, hx, e⟩
    · exact .inl (cv_cst hL h)
    · rcases List.mem_cons.mp hx with rfl | hx
      · exact .inl (cv_div e)
      · exact .inr ⟨x, hx, e⟩
theorem cst_iff {sides : List Nat} (hL : 0 < L) (h2 : L ≤ 60) (hn : sides ≠ []) : Cst L (fin L sides) ↔ ∃ s ∈ sides, s % L = 0 := by
  constructor
  · intro c
    by_cases h1 : L = 1
    · subst h1
      obtain ⟨s, t, rfl⟩ := List.exists_cons_of_ne_nil hn
      exact ⟨s, List.mem_cons_self, Nat.mod_one _⟩
    · exact Classical.byContradiction fun z => not_cst (by omega) h2 (fun s hs e => z ⟨s, hs, e⟩) c
  · exact fun h => fin_cst hL sides dl (.inr h)
end
/-! ### how many different ones -/
theorem dist_one {xs : List Int} (h : xs ≠ []) : (distI xs).length = 1 ↔ ∀ x ∈ xs, ∀ y ∈ xs, x = y := by
  constructor
  · intro e x hx y hy
    obtain ⟨a, ha⟩ := List.length_eq_one_iff.mp e
    have mx := (distI_mem x xs).mpr hx
    have my := (distI_mem y xs).mpr hy
    rw [ha] at mx my
    rw [List.mem_singleton.mp mx, List.mem_singleton.mp my]
  · intro e
    have nd := distI_nodup xs
    obtain ⟨a, t, rfl⟩ := List.exists_cons_of_ne_nil h
    have ma : a ∈ distI (a :: t) := (distI_mem a _).mpr List.mem_cons_self
    cases hd : distI (a :: t) with
    | nil => rw [hd] at ma; cases ma
    | cons b r =>
      cases r with
      | nil => rfl
      | cons c r =>
        exfalso
        have hb := (distI_mem b (a :: t)).mp (by rw [hd]; exact List.mem_cons_self)
        have hc := (distI_mem c (a :: t)).mp (by rw [hd]; exact List.mem_cons_of_mem _ List.mem_cons_self)
        rw [hd] at nd
        exact (List.nodup_cons.mp nd).1 (by rw [e b hb c hc]; exact List.mem_cons_self)
theorem fills_is {L : Nat} {sides : List Nat} (hL : 0 < L) : fillsB (si sides) L = true ↔ ∃ s ∈ sides, s % L = 0 := by
  unfold fillsB si
  rw [List.any_eq_true]
  constructor
  · rintro ⟨x, hx, e⟩
    obtain ⟨s, hs, rfl⟩ := List.mem_map.mp hx
    refine ⟨s, hs, ?_⟩
    have e := of_decide_eq_true e
    rw [Int.fmod_eq_emod_of_nonneg _ (by omega)] at e
    omega
  · rintro ⟨s, hs, e⟩
    refine ⟨s, List.mem_map.mpr ⟨s, hs, rfl⟩, decide_eq_true ?_⟩
    rw [Int.fmod_eq_emod_of_nonneg _ (by omega)]
    omega
/-- ALL RESTS COME EQUALLY OFTEN JUST IF THE LENGTH DIVIDES A SIDE -/
theorem dist_fills {L : Nat} {sides : List Nat} (hL : 0 < L) (h2 : L ≤ 60) (hn : sides ≠ []) : decide (((distI (tb L (fin L sides))).length : Int) = 1) = fillsB (si sides) L := by
  have ne : tb L (fin L sides) ≠ [] := fun z => by
    have := tb_len L (fin L sides)
    rw [z] at this
    simp at this
    omega
  have a : ((distI (tb L (fin L sides))).length : Int) = 1 ↔ fillsB (si sides) L = true := by
    rw [fills_is hL, ← cst_iff hL h2 hn]
    have : ((distI (tb L (fin L sides))).length : Int) = 1 ↔ (distI (tb L (fin L sides))).length = 1 := by omega
    rw [this, dist_one ne]
    constructor
    · intro h j hj
      refine h _ (List.mem_map.mpr ⟨j, List.mem_range.mpr hj, rfl⟩) _ (List.mem_map.mpr ⟨0, List.mem_range.mpr hL, rfl⟩)
    · intro h x hx y hy
      obtain ⟨i, hi, rfl⟩ := List.mem_map.mp hx
      obtain ⟨k, hk, rfl⟩ := List.mem_map.mp hy
      rw [h i (List.mem_range.mp hi), h k (List.mem_range.mp hk)]
  cases hb : fillsB (si sides) L with
  | true => exact decide_eq_true (a.mpr hb)
  | false => exact decide_eq_false fun z => by rw [a.mp z] at hb; cases hb
end K13

set_option linter.all false
set_option Elab.async false
set_option autoImplicit false
set_option maxRecDepth 100000
namespace K13
open PySem Ip
/-! ### places -/
def ext1 (rows : List (List Nat)) (s : Nat) : List (List Nat) := rows.flatMap fun row => (List.range s).map fun k => row ++ [k]
def places (sides : List Nat) : List (List Nat) := sides.foldl ext1 [[]]
def pD (p : List Nat) : D := tupI (si p)
section
variable {F j : Nat} {C : List Orc} {h : Hq}
theorem cat_tup {xs ys : List D} (hl : xs.length + ys.length ≤ 16777216) : binA .add (.d (.tuple xs)) (.d (.tuple ys)) h = .ok (.d (.tuple (xs ++ ys))) h := by
  show (if fits (xs.length + ys.length) then R.ok (Val.d (.tuple (xs ++ ys))) h else .no) = _
  rw [fits_le hl]; rfl
theorem forO_ix {f : Val → Sg → Hq → RF} {P : Nat → Sg → Hq → Prop} {r : Nat} (vs : List Val) (hvs : ∀ i σ h, P i σ h → elsL h (.ref r) = some vs) (st : ∀ (i : Nat) (v : Val) (σ : Sg) (h : Hq), vs[i]? = some v → P i σ h → ∃ σ' h', P (i + 1) σ' h' ∧ f v σ h = .ok (.nx σ') h') :
    ∀ (m i : Nat) (σ : Sg) (h : Hq) (W : Nat), i + m = vs.length → m < W → P i σ h → ∃ σ' h', P vs.length σ' h' ∧ forO f r W i σ h = .ok (.nx σ') h'
  | m, i, σ, h, 0, _, hw, _ => by omega
  | 0, i, σ, h, W + 1, e, _, p => by
    refine ⟨σ, h, by rw [← e]; exact p, ?_⟩
    unfold forO
    rw [hvs i σ h p]
    have : vs[i]? = none := List.getElem?_eq_none (by omega)
    simp only [this]
  | m + 1, i, σ, h, W + 1, e, hw, p => by
    have hi : i < vs.length := by omega
    obtain ⟨σ1, h1, p1, e1⟩ := st i vs[i] σ h (List.getElem?_eq_getElem hi) p
    obtain ⟨σ2, h2, p2, e2⟩ := forO_ix vs hvs st m (i + 1) σ1 h1 W (by omega) (by omega) p1
    refine ⟨σ2, h2, p2, ?_⟩
    unfold forO
    rw [hvs i σ h p]
    have : vs[i]? = some vs[i] := List.getElem?_eq_getElem hi
    simp only [this, e1]
    exact e2
theorem elsL_obj {r : Nat} {xs : List D} (e : h[r]? = some (obj xs)) : elsL h (.ref r) = some (xs.map .d) := by
  unfold elsL
  simp only [e, obj]
def bodyP : List Ip.St := [.exp (.ext (.var 3) (.cmp [5] (.nm 5) (.rng (.var 2)) [] (.bin .add (.var 4) (.tup [(.var 5)]))))]
def bodyQ : List Ip.St := [.set 3 (.new (.dsp [])), .for_ (.nm 4) (.val (.var 1)) bodyP, .set 1 (.var 3)]
theorem lp_is : b__law_places = [.set 1 (.new (.dsp [(.tup [])])), .for_ (.nm 2) (.val (.var 0)) bodyQ, .ret (.var 1)] := rfl
theorem ext_take {rows : List (List Nat)} {s i : Nat} (hi : i < rows.length) : ext1 (rows.take (i + 1)) s = ext1 (rows.take i) s ++ (List.range s).map fun k => rows[i] ++ [k] := by
  unfold ext1
  rw [List.take_add_one, List.getElem?_eq_getElem hi, List.flatMap_append]
  simp
theorem ext_len (s : Nat) : ∀ rows : List (List Nat), (ext1 rows s).length = rows.length * s
  | [] => by simp [ext1]
  | r :: rows => by
    have := ext_len s rows
    unfold ext1 at this ⊢
    rw [List.flatMap_cons, List.length_append, this]
    simp [Nat.succ_mul, Nat.add_comm]
theorem turnP {s n : Nat} {row : List Nat} {us : List D} {c0 c1 c4 c5 : Option Val} {hh : Hq} (hs : s ≤ 1000) (hr : row.length ≤ 100) (hu : us.length ≤ 1000000) (hn : n = hh.length) :
    turnV (.nm 4) (bdy F C bodyP) (.d (pD row)) [c0, c1, I s, some (.ref n), c4, c5] (hh ++ [obj us]) =
      .ok (.nx [c0, c1, I s, some (.ref n), some (.d (pD row)), c5]) (hh ++ [obj (us ++ (List.range s).map fun k => pD (row ++ [k]))]) := by
  subst hn
  generalize hH : hh ++ [obj us] = H
  have hl : H[hh.length]? = some (obj us) := by rw [← hH, app_last]
  have rr : okRng (s : Int) = true := okRng_of (by omega) (by omega)
  have ft : fits (rangeL 0 s).length = true := fits_le (by rw [rangeL_len]; omega)
  have it := cmp_rng (h := H) (f := itm F C [5] (.nm 5) [] (.bin .add (.var 4) (.tup [(.var 5)])) [c0, c1, I s, some (.ref hh.length), some (.d (pD row)), c5]) s (fun k => pD (row ++ [k])) (fun k hk => by
    have ct := cat_tup (h := H) (xs := (si row).map .int) (ys := [PyData.int k]) (by simp [si]; omega)
    have e : pD (row ++ [k]) = .tuple ((si row).map .int ++ [PyData.int k]) := by simp [pD, tupI, si]
    rw [e]
    simp [itm, wipe, pD, tupI, ct])
  have ev1 : evL F C (.cmp [5] (.nm 5) (.rng (.var 2)) [] (.bin .add (.var 4) (.tup [(.var 5)]))) [c0, c1, I s, some (.ref hh.length), some (.d (pD row)), c5] H = .ok ((List.range s).map fun k => .d (pD (row ++ [k]))) H := by
    simp only [el_cmp, ex_rng, e_var, List.getElem?_cons_succ, List.getElem?_cons_zero, R.bind_ok, intV_i, rr, if_true, Int.toNat_natCast, ft, it]
  have xv : extV (.ref hh.length) ((List.range s).map fun k => .d (pD (row ++ [k]))) H = .ok (.d .none) (hh ++ [obj (us ++ (List.range s).map fun k => pD (row ++ [k]))]) := by
    have h2 : H[hh.length]? = some (IO.lst (us.map .d)) := hl
    have f1 : fits ((us.map Val.d).length + ((List.range s).map fun k => Val.d (pD (row ++ [k]))).length) = true := fits_le (by simp; omega)
    unfold extV
    simp only [h2, f1, if_true]
    rw [← hH, app_set]
    simp [obj]
  unfold turnV bdy bodyP
  simp only [bindT_nm, List.set_cons_succ, List.set_cons_zero, xs_cons, xs_nil, x_exp, e_ext, e_var, List.getElem?_cons_succ, List.getElem?_cons_zero, R.bind_ok, lstV_obj hl, ev1, xv, R.thn_ok, RF.thn_nx]
theorem turnQ (hF : 1000000 ≤ F) {s r : Nat} {rows : List (List Nat)} {c0 c2 c3 c4 c5 : Option Val} (hs : s ≤ 1000) (hrl : rows.length ≤ 1000) (hr : ∀ p ∈ rows, p.length ≤ 100) (e : h[r]? = some (obj (rows.map pD))) :
    ∃ c4', turnV (.nm 2) (bdy F C bodyQ) (.d (.int (s : Int))) [c0, some (.ref r), c2, c3, c4, c5] h = .ok (.nx [c0, some (.ref h.length), I s, some (.ref h.length), c4', c5]) (h ++ [obj ((ext1 rows s).map pD)]) := by
  have hlt : r < h.length := lt_of_get e
  have key := forO_ix (f := turnV (.nm 4) (bdy F C bodyP)) (r := r) (P := fun i σ h' => ∃ c4', σ = [c0, some (.ref r), I s, some (.ref h.length), c4', c5] ∧ h' = h ++ [obj ((ext1 (rows.take i) s).map pD)]) ((rows.map pD).map .d)
    (fun i σ h' ⟨c4', e1, e2⟩ => by subst e2; exact elsL_obj (by rw [app_get hlt]; exact e)) (fun i v σ h' hv ⟨c4', e1, e2⟩ => by
      subst e1 e2
      simp only [List.map_map, List.getElem?_map] at hv
      cases hi : rows[i]? with
      | none => rw [hi] at hv; cases hv
      | some row =>
        rw [hi] at hv
        cases hv
        obtain ⟨h1, h2⟩ := List.getElem?_eq_some_iff.mp hi
        have hm : row ∈ rows := by rw [← h2]; exact List.getElem_mem h1
        have hu : ((ext1 (rows.take i) s).map pD).length ≤ 1000000 := by
          rw [List.length_map, ext_len, List.length_take]
          have a : min i rows.length ≤ 1000 := by omega
          have := Nat.mul_le_mul a hs
          omega
        have t := turnP (F := F) (C := C) (s := s) (row := row) (c0 := c0) (c1 := some (.ref r)) (c4 := c4') (c5 := c5) (hh := h) hs (hr row hm) hu rfl
        refine ⟨_, _, ⟨some (.d (pD row)), rfl, ?_⟩, t⟩
        rw [ext_take h1, h2, List.map_append, List.map_map]
        rfl)
    rows.length 0 [c0, some (.ref r), I s, some (.ref h.length), c4, c5] (h ++ [obj []]) F (by simp) (by omega) ⟨c4, rfl, by simp [ext1]⟩
  obtain ⟨σ', h', ⟨c4', rfl, rfl⟩, ek⟩ := key
  refine ⟨c4', ?_⟩
  have f0 : fits 0 = true := fits_le (by omega)
  have o0 : h ++ [IO.lst []] = h ++ [obj []] := rfl
  have sv : srcV (.ref r) (h ++ [obj []]) = .ok (.obj r) (h ++ [obj []]) := by
    have h2 : (h ++ [obj []])[r]? = some (IO.lst ((rows.map pD).map .d)) := by rw [app_get hlt]; exact e
    unfold srcV
    simp only [h2]
  unfold turnV bdy bodyQ
  simp only [bindT_nm, List.set_cons_succ, List.set_cons_zero, xs_cons, xs_nil, x_set, e_new, el_dsp, es_nil, R.bind_ok, List.length_nil, f0, if_true, R.thn_ok, RF.thn_nx, o0, x_for, ex_val, e_var, List.getElem?_cons_succ, List.getElem?_cons_zero, sv]
  rw [ek]
  simp only [List.length_map, List.take_length, RF.thn_nx, R.thn_ok, List.getElem?_cons_succ, List.getElem?_cons_zero, List.set_cons_succ, List.set_cons_zero]
theorem places_take {sides : List Nat} {i : Nat} (hi : i < sides.length) : places (sides.take (i + 1)) = ext1 (places (sides.take i)) sides[i] := by
  unfold places
  rw [List.take_add_one, List.getElem?_eq_getElem hi, List.foldl_append]
  rfl
theorem pl_len {sides : List Nat} (hs : ∀ s ∈ sides, s ≤ 4) : ∀ i, i ≤ sides.length → (places (sides.take i)).length ≤ 4 ^ i
  | 0, _ => by simp [places]
  | i + 1, hi => by
    rw [places_take hi, ext_len, Nat.pow_succ]
    exact Nat.mul_le_mul (pl_len hs i (by omega)) (hs _ (List.getElem_mem hi))
theorem pl_row {sides : List Nat} : ∀ i, i ≤ sides.length → ∀ p ∈ places (sides.take i), p.length = i
  | 0, _, p, hp => by
    simp [places] at hp
    subst hp; rfl
  | i + 1, hi, p, hp => by
    rw [places_take hi] at hp
    unfold ext1 at hp
    obtain ⟨row, hrow, hp⟩ := List.mem_flatMap.mp hp
    obtain ⟨k, _, rfl⟩ := List.mem_map.mp hp
    rw [List.length_append, pl_row i (by omega) row hrow]; rfl
theorem c_places (hF : 1000000 ≤ F) {sides : List Nat} (hs : ∀ s ∈ sides, s ≤ 4) (hl : sides.length ≤ 3) : callR F C f__law_places [.d (tupI (si sides))] h = .ok (.d (.list ((places sides).map pD))) h := by
  have key := forL_ix (f := turnV (.nm 2) (bdy F C bodyQ)) (P := fun i σ h => ∃ r c2 c3 c4, σ = [some (.d (tupI (si sides))), some (.ref r), c2, c3, c4, none] ∧ h[r]? = some (obj ((places (sides.take i)).map pD)))
    (((si sides).map PyData.int).map Val.d) 0 [some (.d (tupI (si sides))), some (.ref 0), none, none, none, none] [obj [.tuple []]] (fun i v σ h hv hp => by
      rw [Nat.zero_add] at hp ⊢
      obtain ⟨r, c2, c3, c4, rfl, e1⟩ := hp
      obtain ⟨hi, rfl⟩ := si_get hv
      have l1 := pl_len hs i (by omega)
      have l2 : 4 ^ i ≤ 4 ^ 3 := Nat.pow_le_pow_right (by decide) (by omega)
      obtain ⟨c4', t⟩ := turnQ (C := C) hF (s := sides[i]) (c0 := some (.d (tupI (si sides)))) (c2 := c2) (c3 := c3) (c4 := c4) (c5 := none) (by have := hs _ (List.getElem_mem hi); omega) (by omega) (fun p hp => by rw [pl_row i (by omega) p hp]; omega) e1
      exact ⟨_, _, ⟨_, _, _, _, rfl, by rw [places_take hi]; exact app_last⟩, t⟩) ⟨0, none, none, none, rfl, rfl⟩
  obtain ⟨σ', h', ⟨r, c2, c3, c4, rfl, e1⟩, e⟩ := key
  have e1 : h'[r]? = some (obj ((places sides).map pD)) := by
    rw [e1]
    simp [si]
  have f1 : fits 1 = true := fits_le (by omega)
  have o1 : ([IO.lst [Val.d (.tuple [])]] : Hq) = [obj [.tuple []]] := rfl
  have src : ev F C (.var 0) [some (.d (tupI (si sides))), some (.ref 0), none, none, none, none] [obj [.tuple []]] = .ok (.d (tupI (si sides))) [obj [.tuple []]] := by simp
  have run1 : Ip.run F C f__law_places [.d (tupI (si sides))] [] = .ok (.ref r) h' := by
    show (match exs F C b__law_places [some (.d (tupI (si sides))), none, none, none, none, none] [] with
      | .ok (.rt v) h1 => R.ok v h1
      | .ok (.nx _) h1 => .ok (.d .none) h1
      | .er e _ h1 => .er e h1
      | _ => .no) = _
    rw [lp_is]
    simp only [xs_cons, x_set, e_new, el_dsp, es_cons, es_nil, e_tup, toDs_nil, R.bind_ok, List.length_cons, List.length_nil, Nat.zero_add, f1, if_true, List.nil_append, R.thn_ok, RF.thn_nx, List.set_cons_succ, List.set_cons_zero, o1, x_for, ex_val, src]
    unfold tupI at e ⊢
    simp only [srcV_t, R.thn_ok]
    rw [e]
    simp only [RF.thn_nx, x_ret, e_var, List.getElem?_cons_succ, List.getElem?_cons_zero, R.thn_ok, thn_rt, xs_cons, xs_nil]
  exact call_p (ds := [tupI (si sides)]) rfl rfl run1 (toD_obj e1)
end
end K13

set_option linter.all false
set_option Elab.async false
set_option autoImplicit false
set_option maxRecDepth 100000
namespace K13
open PySem Ip
/-! ### the search, as plain lists have it -/
abbrev Stt := List Nat
def ixP (PL : List Stt) (q : Stt) : Option Nat := PL.findIdx? fun p => decide (p = q)
def ixG (PL : List Stt) (q : Stt) : Nat := (ixP PL q).getD 0
def okP (PL : List Stt) (used q : Stt) : Bool := match ixP PL q with
  | some i => decide (used[i]? = some 0)
  | none => false
def barP (L : Nat) (spot : Stt) (d : Nat) : List Stt := (List.range L).map fun k => spot.set d (spot.getD d 0 + k)
def tryS (PL : List Stt) (L : Nat) (used spot : Stt) (d : Nat) : Option Stt :=
  if (barP L spot d).all (okP PL used) then some ((barP L spot d).foldl (fun s q => s.set (ixG PL q) 1) used) else none
def addS (x : List Stt × List Stt) : Option Stt → List Stt × List Stt
  | some s => if s ∈ x.2 then x else (x.1 ++ [s], x.2 ++ [s])
  | none => x
def stepS (PL : List Stt) (L : Nat) (used spot : Stt) (x : List Stt × List Stt) (d : Nat) : List Stt × List Stt := addS x (tryS PL L used spot d)
def spotS (PL : List Stt) (used : Stt) : Stt := PL.getD ((used.findIdx? (· == 0)).getD 0) []
def srch (PL : List Stt) (L m : Nat) : Nat → List Stt × List Stt → Option Bool
  | 0, _ => none
  | n + 1, x => match x.1.getLast? with
    | none => some false
    | some used => if 0 ∈ used then srch PL L m n ((List.range m).foldl (stepS PL L used (spotS PL used)) (x.1.dropLast, x.2)) else some true

/-! ### keys -/
def kz (p : Stt) : List L2.Key := (si p).map Sum.inl
theorem kz_inj {p q : Stt} : kz p = kz q ↔ p = q := by
  constructor
  · intro h
    unfold kz si at h
    rw [List.map_map, List.map_map] at h
    refine List.map_inj_right (fun a b e => ?_) |>.mp h
    have e : (Sum.inl (a : Int) : L2.Key) = Sum.inl (b : Int) := e
    have e := Sum.inl.inj e
    omega
  · intro h; rw [h]
theorem keyKs_si : ∀ p : List Int, keyKs (p.map .int) = some (p.map Sum.inl)
  | [] => rfl
  | x :: p => by
    show (match keyK (.int x), keyKs (p.map .int) with | some k, some ks => some (k :: ks) | _, _ => none) = _
    rw [keyKs_si p]; rfl
theorem keyT_p (p : Stt) : keyT (pD p) = some (kz p) := keyKs_si (si p)
/-- the places' dict -/
def kvI (PL : List Stt) (n : Nat) : List (List L2.Key × Val) := (PL.zipIdx n).map fun x => (kz x.1, .d (.int (x.2 : Int)))
theorem look_kvI (q : Stt) : ∀ (PL : List Stt) (n : Nat), lookK (kvI PL n) (kz q) = (ixP PL q).map fun i => .d (.int ((i + n : Nat) : Int))
  | [], n => rfl
  | p :: PL, n => by
    have ih := look_kvI q PL (n + 1)
    unfold lookK kvI ixP at ih ⊢
    rw [List.zipIdx_cons, List.map_cons, List.find?_cons, List.findIdx?_cons]
    by_cases e : p = q
    · subst e
      simp
    · have e2 : kz p ≠ kz q := fun z => e (kz_inj.mp z)
      simp only [e, e2, decide_false]
      rw [ih]
      cases List.findIdx? (fun p => decide (p = q)) PL with
      | none => rfl
      | some i => simp; omega
def kvK (known : List Stt) : List (List L2.Key × Val) := known.map fun s => (kz s, .d (.bool true))
theorem look_kvK (q : Stt) : ∀ known : List Stt, lookK (kvK known) (kz q) = if q ∈ known then some (.d (.bool true)) else none
  | [] => rfl
  | p :: known => by
    have ih := look_kvK q known
    unfold lookK kvK at ih ⊢
    rw [List.map_cons, List.find?_cons]
    by_cases e : p = q
    · subst e; simp
    · have e2 : kz p ≠ kz q := fun z => e (kz_inj.mp z)
      simp only [e2, decide_false]
      rw [ih]
      have : (q ∈ p :: known) ↔ q ∈ known := by
        rw [List.mem_cons]
        exact ⟨fun h => h.resolve_left fun z => e z.symm, .inr⟩
      simp only [this]
theorem any_key {known : List (List L2.Key × Val)} {k : List L2.Key} : (known.any fun p => decide (p.1 = k)) = (lookK known k).isSome := by
  unfold lookK
  rw [Option.isSome_map]
  induction known with
  | nil => rfl
  | cons a r ih =>
    rw [List.any_cons, List.find?_cons]
    by_cases e : a.1 = k
    · simp [e]
    · simp only [e, decide_false, Bool.false_or]; exact ih
theorem stor_kvK {q : Stt} {known : List Stt} (h : q ∉ known) : storK (kvK known) (kz q) (.d (.bool true)) = kvK (known ++ [q]) := by
  unfold storK
  rw [any_key, look_kvK, if_neg h]
  simp [kvK]
theorem stor_kvI {q : Stt} {PL : List Stt} {v : Val} (h : q ∉ PL) : storK (kvI PL 0) (kz q) v = kvI PL 0 ++ [(kz q, v)] := by
  have : ixP PL q = none := by
    unfold ixP
    rw [List.findIdx?_eq_none_iff]
    intro p hp
    exact decide_eq_false fun e => h (e ▸ hp)
  unfold storK
  rw [any_key, look_kvI, this]
  simp
/-! ### states, as they lie -/
abbrev txs (s : Stt) : IO := .tx ((si s).map .int)
inductive Ls (h : Hq) : List Nat → List Stt → Prop
  | nil : Ls h [] []
  | cons {u : Nat} {s : Stt} {us : List Nat} {ss : List Stt} : h[u]? = some (txs s) → Ls h us ss → Ls h (u :: us) (s :: ss)
theorem Ls.length {h : Hq} : ∀ {us : List Nat} {ss : List Stt}, Ls h us ss → us.length = ss.length
  | _, _, .nil => rfl
  | _, _, .cons _ t => by rw [List.length_cons, List.length_cons, t.length]
theorem Ls.mono {h h' : Hq} (k : ∀ (u : Nat) (s : Stt), h[u]? = some (txs s) → h'[u]? = some (txs s)) : ∀ {us : List Nat} {ss : List Stt}, Ls h us ss → Ls h' us ss
  | _, _, .nil => .nil
  | _, _, .cons e t => .cons (k _ _ e) (t.mono k)
theorem Ls.snoc {h : Hq} {u : Nat} {s : Stt} (e : h[u]? = some (txs s)) : ∀ {us : List Nat} {ss : List Stt}, Ls h us ss → Ls h (us ++ [u]) (ss ++ [s])
  | _, _, .nil => .cons e .nil
  | _, _, .cons e2 t => .cons e2 (t.snoc e)
theorem Ls.unsnoc {h : Hq} {s : Stt} : ∀ {ss : List Stt} {us : List Nat}, Ls h us (ss ++ [s]) → ∃ r u, us = r ++ [u] ∧ Ls h r ss ∧ h[u]? = some (txs s)
  | [], _, .cons e .nil => ⟨[], _, rfl, .nil, e⟩
  | _ :: ss, _, .cons e t => by
    obtain ⟨r, u, rfl, t', e'⟩ := Ls.unsnoc (ss := ss) t
    exact ⟨_ :: r, u, rfl, .cons e t', e'⟩
theorem Ls.peek {h : Hq} : ∀ {us : List Nat} {ss : List Stt}, Ls h us ss → allO (pk h 2) (us.map .ref) = some (ss.map pD)
  | _, _, .nil => rfl
  | _, _, .cons (u := u) (s := s) e t => by
    have e1 : pk h 2 (.ref u) = some (pD s) := by
      unfold pk
      simp only [e]
      rfl
    show (match pk h 2 (.ref u), allO (pk h 2) _ with | some a, some b => some (a :: b) | _, _ => none) = _
    rw [e1, t.peek]; rfl
/-- what stands between the turns -/
structure Hs (PL : List Stt) (h : Hq) (l kn : Nat) (line known : List Stt) : Prop where
  ix : h[0]? = some (.dct (.t (kvI PL 0)))
  ln : ∃ rs : List Nat, h[l]? = some (.lst (rs.map .ref)) ∧ Ls h rs line
  ko : h[kn]? = some (.dct (.t (kvK known)))
  n1 : 0 ≠ kn
section
variable {h : Hq} {u l : Nat} {s : Stt} {x y : IO}
theorem tx_set (hl : h[l]? = some y) (hy : ∀ ds, y ≠ .tx ds) (e : h[u]? = some (txs s)) : (h.set l x)[u]? = some (txs s) := by
  have : l ≠ u := fun z => by
    subst z; rw [hl] at e; exact hy _ (Option.some.inj e)
  rw [List.getElem?_set_ne this]; exact e
theorem tx_app (e : h[u]? = some (txs s)) : (h ++ [x])[u]? = some (txs s) := by rw [app_get (lt_of_get e)]; exact e
theorem Hs.app {PL : List Stt} {h : Hq} {l kn : Nat} {line known : List Stt} (H : Hs PL h l kn line known) (x : IO) : Hs PL (h ++ [x]) l kn line known := by
  obtain ⟨rs, e1, e2⟩ := H.ln
  exact ⟨by rw [app_get (lt_of_get H.ix)]; exact H.ix, ⟨rs, by rw [app_get (lt_of_get e1)]; exact e1, e2.mono fun u s => tx_app⟩, by rw [app_get (lt_of_get H.ko)]; exact H.ko, H.n1⟩
/-- a list beside is written -/
theorem Hs.set {PL : List Stt} {h : Hq} {l kn f : Nat} {line known : List Stt} (H : Hs PL h l kn line known) {vs : List Val} (hf : h[f]? = some (.lst vs)) (hfl : f ≠ l) (x : IO) : Hs PL (h.set f x) l kn line known := by
  obtain ⟨rs, e1, e2⟩ := H.ln
  have n0 : f ≠ 0 := fun z => by subst z; rw [H.ix] at hf; cases hf
  have nk : f ≠ kn := fun z => by subst z; rw [H.ko] at hf; cases hf
  exact ⟨by rw [List.getElem?_set_ne n0]; exact H.ix, ⟨rs, by rw [List.getElem?_set_ne hfl]; exact e1, e2.mono fun u s => tx_set hf (fun ds z => by cases z)⟩, by rw [List.getElem?_set_ne nk]; exact H.ko, H.n1⟩
end
end K13

set_option linter.all false
set_option Elab.async false
set_option autoImplicit false
set_option maxRecDepth 100000
namespace K13
open PySem Ip
section
variable {F j : Nat} {C : List Orc} {h : Hq}
theorem cut_take {α : Type} {xs : List α} {d : Nat} (hd : d ≤ xs.length) : cutD xs none (some (d : Int)) = xs.take d := by
  unfold cutD cutIx
  simp only
  rw [if_neg (by omega)]
  have : min (d : Int).toNat xs.length = d := by omega
  rw [this]; simp
theorem cut_drop {α : Type} {xs : List α} {d : Nat} (hd : d < xs.length) : cutD xs (some ((d : Int) + 1)) none = xs.drop (d + 1) := by
  unfold cutD cutIx
  simp only
  rw [if_neg (by omega)]
  have : min ((d : Int) + 1).toNat xs.length = d + 1 := by omega
  rw [this]
  exact List.take_of_length_le (by rw [List.length_drop]; omega)
theorem slc_t {xs : List D} {l u : Option Int} : slcV (.d (.tuple xs)) l u h = .ok (.d (.tuple (cutD xs l u))) h := rfl
theorem set_is {α : Type} {xs : List α} {d : Nat} {v : α} (hd : d < xs.length) : xs.take d ++ [v] ++ xs.drop (d + 1) = xs.set d v := by
  rw [List.set_eq_take_append_cons_drop, if_pos hd]; simp
theorem pD_is (p : Stt) : pD p = .tuple (p.map fun k : Nat => PyData.int (k : Int)) := by
  unfold pD tupI si
  rw [List.map_map]; rfl
theorem ix_p {p : Stt} {i : Nat} (hi : i < p.length) : ixV (.d (pD p)) (.d (.int (i : Int))) h = .ok (.d (.int ((p[i] : Nat) : Int))) h := by
  rw [pD_is, ixV_t, atD_nat (by simpa using hi)]
  simp
def barE : Ex := (.ofL (.cmp [4] (.nm 4) (.rng (.var 1)) [] (.bin .add (.bin .add (.slc (.var 9) none (some (.var 10))) (.tup [(.bin .add (.ix (.var 9) (.var 10)) (.var 4))])) (.slc (.var 9) (some (.bin .add (.var 10) (.lit (.int 1)))) none))))
theorem bar_ev {L d : Nat} {spot : Stt} {c0 c2 c3 c4 c5 c6 c7 c8 c11 c12 c13 : Option Val} (hd : d < spot.length) (hs : spot.length ≤ 100) (hL : L ≤ 100) :
    ev F C barE [c0, I L, c2, c3, c4, c5, c6, c7, c8, some (.d (pD spot)), I d, c11, c12, c13] h = .ok (.d (.list ((barP L spot d).map pD))) h := by
  have rr : okRng (L : Int) = true := okRng_of (by omega) (by omega)
  have ft : fits (rangeL 0 L).length = true := fits_le (by rw [rangeL_len]; omega)
  have it := cmp_rng (h := h) (f := itm F C [4] (.nm 4) [] (.bin .add (.bin .add (.slc (.var 9) none (some (.var 10))) (.tup [(.bin .add (.ix (.var 9) (.var 10)) (.var 4))])) (.slc (.var 9) (some (.bin .add (.var 10) (.lit (.int 1)))) none)) [c0, I L, c2, c3, c4, c5, c6, c7, c8, some (.d (pD spot)), I d, c11, c12, c13]) L (fun k => pD (spot.set d (spot.getD d 0 + k))) (fun k hk => by
    have x1 := ix_p (h := h) hd
    have e1 : spot.getD d 0 = spot[d] := by rw [List.getD_eq_getElem?_getD, List.getElem?_eq_getElem hd]; rfl
    have len : (spot.map fun k : Nat => PyData.int (k : Int)).length = spot.length := List.length_map _
    have c1 := cut_take (xs := spot.map fun k : Nat => PyData.int (k : Int)) (d := d) (by omega)
    have c2 := cut_drop (xs := spot.map fun k : Nat => PyData.int (k : Int)) (d := d) (by omega)
    have t1 := cat_tup (h := h) (xs := (spot.map fun k : Nat => PyData.int (k : Int)).take d) (ys := [PyData.int ((spot[d] : Nat) + (k : Int))]) (by simp; omega)
    have t2 := cat_tup (h := h) (xs := (spot.map fun k : Nat => PyData.int (k : Int)).take d ++ [PyData.int ((spot[d] : Nat) + (k : Int))]) (ys := (spot.map fun k : Nat => PyData.int (k : Int)).drop (d + 1)) (by simp; omega)
    have e2 : pD (spot.set d (spot.getD d 0 + k)) = .tuple ((spot.map fun k : Nat => PyData.int (k : Int)).take d ++ [PyData.int ((spot[d] : Nat) + (k : Int))] ++ (spot.map fun k : Nat => PyData.int (k : Int)).drop (d + 1)) := by
      rw [set_is (by omega), pD_is, List.map_set, e1]
      simp
    rw [e2]
    have x1' : ixV (.d (.tuple (spot.map fun k : Nat => PyData.int (k : Int)))) (.d (.int (d : Int))) h = .ok (.d (.int ((spot[d] : Nat) : Int))) h := by rw [← pD_is]; exact x1
    unfold itm
    simp only [pD_is, bindT_nm, wipe, List.set_cons_succ, List.set_cons_zero, ei_nil, R.bind_ok, if_true, e_bin, e_slc, e_var, List.getElem?_cons_succ, List.getElem?_cons_zero, eo_none, eo_some, intV_i, slc_t, c1, e_tup, es_cons, es_nil, e_ix, x1', binA_i, binV_d, binD_add, toDs_cons, toDs_nil, toD_d, t1, e_lit, c2, t2, R.quiet_ok])
  have tn : ((L : Nat) : Int).toNat = L := Int.toNat_natCast L
  unfold barE
  simp only [e_ofL, el_cmp, ex_rng, e_var, List.getElem?_cons_succ, List.getElem?_cons_zero, R.bind_ok, intV_i, rr, if_true, tn, ft, it, toDs_fn]
  unfold barP
  rw [List.map_map]
  rfl
theorem cmp_in {PL : List Stt} {q : Stt} (e : h[0]? = some (.dct (.t (kvI PL 0)))) : cmpV .inn (.d (pD q)) (.ref 0) h = .ok (ixP PL q).isSome h := by
  have d0 : dct h (.ref 0) = some (.t (kvI PL 0)) := by unfold dct; simp only [e]
  unfold cmpV
  simp only [d0]
  unfold dinV Dc.get
  simp only [keyT_p, Option.map_some, look_kvI, Option.isSome_map]
theorem ix_in {PL : List Stt} {q : Stt} {i : Nat} (e : h[0]? = some (.dct (.t (kvI PL 0)))) (hi : ixP PL q = some i) : ixV (.ref 0) (.d (pD q)) h = .ok (.d (.int (i : Int))) h := by
  have d0 : dct h (.ref 0) = some (.t (kvI PL 0)) := by unfold dct; simp only [e]
  unfold ixV
  simp only [d0]
  unfold dgetV Dc.get
  simp only [keyT_p, Option.map_some, look_kvI, hi, Nat.add_zero]
theorem ix_tx {u i : Nat} {s : Stt} (e : h[u]? = some (txs s)) (hi : i < s.length) : ixV (.ref u) (.d (.int (i : Int))) h = .ok (.d (.int ((s[i] : Nat) : Int))) h := by
  refine ixV_at (vs := ((si s).map PyData.int).map .d) ?_ ?_
  · unfold els
    simp only [e]
  · rw [atD_nat (by simp [si]; exact hi)]
    simp [si]
theorem ix_lt {PL : List Stt} {q : Stt} {i : Nat} (h : ixP PL q = some i) : i < PL.length := by
  unfold ixP at h
  exact (List.findIdx?_eq_some_iff_findIdx_eq.mp h).1
def allE : Ex := .and_ (.cmp .inn (.var 13) (.var 3)) (.cmp .eq (.ix (.var 8) (.ix (.var 3) (.var 13))) (.lit (.int 0)))
theorem ok_ev {PL : List Stt} {u : Nat} {used q : Stt} {c0 c1 c2 c4 c5 c6 c7 c9 c10 c11 c12 c13 : Option Val} (e0 : h[0]? = some (.dct (.t (kvI PL 0)))) (eu : h[u]? = some (txs used)) (hl : used.length = PL.length) :
    itm F C [13] (.nm 13) [] allE [c0, c1, c2, some (.ref 0), c4, c5, c6, c7, some (.ref u), c9, c10, c11, c12, c13] (.d (pD q)) h = .ok [.d (.bool (okP PL used q))] h := by
  have ci := cmp_in (h := h) (q := q) e0
  unfold itm allE okP
  simp only [bindT_nm, wipe, List.set_cons_succ, List.set_cons_zero, ei_nil, R.bind_ok, if_true, e_and, e_cmp, e_var, List.getElem?_cons_succ, List.getElem?_cons_zero, ci, tru_b]
  cases hq : ixP PL q with
  | none => simp
  | some i =>
    have hi : i < used.length := by rw [hl]; exact ix_lt hq
    have x1 := ix_in (h := h) e0 hq
    have x2 := ix_tx (h := h) eu hi
    have dd : decide (((used[i] : Nat) : Int) = 0) = decide (used[i]? = some 0) := by
      rw [List.getElem?_eq_getElem hi]
      by_cases z : used[i] = 0
      · rw [decide_eq_true (by omega), decide_eq_true (by rw [z])]
      · rw [decide_eq_false (by omega), decide_eq_false (fun y => z (Option.some.inj y))]
    simp only [Option.isSome_some, if_true, e_ix, e_var, List.getElem?_cons_succ, List.getElem?_cons_zero, R.bind_ok, x1, x2, e_lit, cmpV_d, cmpD_eqi, dd, R.quiet_ok]
theorem all_ev {PL : List Stt} {u L d : Nat} {used spot : Stt} {c0 c1 c2 c4 c5 c6 c7 c9 c10 c12 c13 : Option Val} (e0 : h[0]? = some (.dct (.t (kvI PL 0)))) (eu : h[u]? = some (txs used)) (hl : used.length = PL.length) (hL : L ≤ 100) :
    cnd F C (.prm .all [(.ofL (.cmp [13] (.nm 13) (.val (.var 11)) [] allE))]) [c0, c1, c2, some (.ref 0), c4, c5, c6, c7, some (.ref u), c9, c10, some (.d (.list ((barP L spot d).map pD))), c12, c13] h = .ok ((barP L spot d).all (okP PL used)) h := by
  have it := cmp_fn (h := h) (f := itm F C [13] (.nm 13) [] allE [c0, c1, c2, some (.ref 0), c4, c5, c6, c7, some (.ref u), c9, c10, some (.d (.list ((barP L spot d).map pD))), c12, c13]) pD (fun q => .bool (okP PL used q)) (barP L spot d) (fun q hq => ok_ev e0 eu hl)
  have mm : ((barP L spot d).map pD).map Val.d = (barP L spot d).map fun q => Val.d (pD q) := by rw [List.map_map]; rfl
  have ft : fits (((barP L spot d).map fun q => Val.d (pD q))).length = true := fits_le (by rw [List.length_map]; unfold barP; simp; omega)
  unfold cnd tst
  simp only [e_prm, es_cons, es_nil, e_ofL, el_cmp, ex_val, e_var, List.getElem?_cons_succ, List.getElem?_cons_zero, R.bind_ok, srcV_l, mm, ft, if_true, it, toDs_fn, prmV_1, prmD, bools_map, Option.map_some, all_map, tru_b]
def bodyW : List Ip.St := [.six (.var 12) (.ix (.var 3) (.var 13)) (.lit (.int 1))]
theorem si_set (s : Stt) (i k : Nat) : (si s).set i (k : Int) = si (s.set i k) := by
  unfold si
  rw [List.map_set]
theorem walkW {PL : List Stt} {c0 c1 c2 c4 c5 c6 c7 c8 c9 c10 c11 c13 : Option Val} (e0 : h[0]? = some (.dct (.t (kvI PL 0)))) : ∀ (qs : List Stt) (s : Stt) (c13 : Option Val), s.length = PL.length → (∀ q ∈ qs, (ixP PL q).isSome = true) →
    ∃ c13', forL (turnV (.nm 13) (bdy F C bodyW)) (qs.map fun q => Val.d (pD q)) [c0, c1, c2, some (.ref 0), c4, c5, c6, c7, c8, c9, c10, c11, some (.ref h.length), c13] (h ++ [oI (si s)]) =
      .ok (.nx [c0, c1, c2, some (.ref 0), c4, c5, c6, c7, c8, c9, c10, c11, some (.ref h.length), c13']) (h ++ [oI (si (qs.foldl (fun s q => s.set (ixG PL q) 1) s))])
  | [], s, c13, _, _ => ⟨c13, rfl⟩
  | q :: qs, s, c13, hs, hq => by
    obtain ⟨i, hi⟩ := Option.isSome_iff_exists.mp (hq q List.mem_cons_self)
    have hlt : i < s.length := by rw [hs]; exact ix_lt hi
    have e1 : (h ++ [oI (si s)])[0]? = some (.dct (.t (kvI PL 0))) := by rw [app_get (lt_of_get e0)]; exact e0
    have x1 := ix_in (h := h ++ [oI (si s)]) e1 hi
    have st := set_o (h := h ++ [oI (si s)]) (r := h.length) (xs := si s) (v := 1) (i := i) app_last (by simp [si]; exact hlt)
    have e2 : (si s).set i 1 = si (s.set i 1) := si_set s i 1
    rw [app_set, e2] at st
    have g : ixG PL q = i := by unfold ixG; rw [hi]; rfl
    obtain ⟨c13', ek⟩ := walkW (c0 := c0) (c1 := c1) (c2 := c2) (c4 := c4) (c5 := c5) (c6 := c6) (c7 := c7) (c8 := c8) (c9 := c9) (c10 := c10) (c11 := c11) (c13 := c13) e0 qs (s.set i 1) (some (.d (pD q))) (by rw [List.length_set]; exact hs) fun x hx => hq x (List.mem_cons_of_mem _ hx)
    refine ⟨c13', ?_⟩
    rw [List.map_cons, forL_cons]
    have t : turnV (.nm 13) (bdy F C bodyW) (.d (pD q)) [c0, c1, c2, some (.ref 0), c4, c5, c6, c7, c8, c9, c10, c11, some (.ref h.length), c13] (h ++ [oI (si s)]) = .ok (.nx [c0, c1, c2, some (.ref 0), c4, c5, c6, c7, c8, c9, c10, c11, some (.ref h.length), some (.d (pD q))]) (h ++ [oI (si (s.set i 1))]) := by
      unfold turnV bdy bodyW
      simp only [bindT_nm, List.set_cons_succ, List.set_cons_zero, xs_cons, xs_nil, x_six, e_lit, e_ix, e_var, List.getElem?_cons_succ, List.getElem?_cons_zero, R.bind_ok, R.thn_ok, x1, st, RF.thn_nx]
    rw [t]
    show forL _ _ _ _ = _
    rw [ek, List.foldl_cons, g]
end
end K13

set_option linter.all false
set_option Elab.async false
set_option autoImplicit false
set_option maxRecDepth 100000
namespace K13
open PySem Ip
section
variable {F j : Nat} {C : List Orc} {h : Hq}
def bodyS : List Ip.St := [.set 11 barE, .iff (.prm .all [(.ofL (.cmp [13] (.nm 13) (.val (.var 11)) [] allE))]) [.set 12 (.new (.lst (.var 8))), .for_ (.nm 13) (.val (.var 11)) bodyW, .iff (.cmp .nin (.tupO (.var 12)) (.var 6)) [.six (.var 6) (.tupO (.var 12)) (.lit (.bool true)), .exp (.app (.var 5) (.tupL (.var 12)))] []] []]
theorem dct_kn {kn : Nat} {known : List Stt} (e : h[kn]? = some (.dct (.t (kvK known)))) : dct h (.ref kn) = some (.t (kvK known)) := by unfold dct; simp only [e]
theorem nin_kn {kn : Nat} {known : List Stt} {s : Stt} (e : h[kn]? = some (.dct (.t (kvK known)))) : cmpV .nin (.d (tupI (si s))) (.ref kn) h = .ok (!decide (s ∈ known)) h := by
  have k : keyT (tupI (si s)) = some (kz s) := keyT_p s
  unfold cmpV
  simp only [dct_kn e]
  unfold dinV Dc.get
  simp only [k, Option.map_some, look_kvK, R.bind_ok]
  by_cases z : s ∈ known <;> simp [z]
theorem set_kn {kn : Nat} {known : List Stt} {s : Stt} (e : h[kn]? = some (.dct (.t (kvK known)))) (hs : s ∉ known) (hl : known.length < 16000000) : setV (.ref kn) (.d (tupI (si s))) (.d (.bool true)) h = .ok () (h.set kn (.dct (.t (kvK (known ++ [s]))))) := by
  have k : keyT (tupI (si s)) = some (kz s) := keyT_p s
  have l1 : (kvK known).length < 16777216 := by unfold kvK; rw [List.length_map]; omega
  unfold setV
  simp only [dct_kn e]
  unfold setD
  simp only [e]
  unfold Dc.put
  simp only [k, l1, if_true, stor_kvK hs]
theorem elsL_o {f : Nat} {xs : List Int} (e : h[f]? = some (oI xs)) : elsL h (.ref f) = some ((xs.map PyData.int).map .d) := elsL_obj e
theorem turnS {PL : List Stt} {L d l kn u : Nat} {used spot : Stt} {line known : List Stt} {c0 c2 c4 c7 c10 c11 c12 c13 : Option Val} (H : Hs PL h l kn line known) (eu : h[u]? = some (txs used)) (hl : used.length = PL.length) (hN : PL.length ≤ 1000) (hd : d < spot.length) (hs : spot.length ≤ 100) (hL : L ≤ 100) (b1 : line.length < 16000000) (b2 : known.length < 16000000) :
    ∃ c10' c11' c12' c13' h', turnV (.nm 10) (bdy F C bodyS) (.d (.int (d : Int))) [c0, I L, c2, some (.ref 0), c4, some (.ref l), some (.ref kn), c7, some (.ref u), some (.d (pD spot)), c10, c11, c12, c13] h =
      .ok (.nx [c0, I L, c2, some (.ref 0), c4, some (.ref l), some (.ref kn), c7, some (.ref u), some (.d (pD spot)), c10', c11', c12', c13']) h' ∧ Hs PL h' l kn (stepS PL L used spot (line, known) d).1 (stepS PL L used spot (line, known) d).2 ∧ h'[u]? = some (txs used) := by
  have be := bar_ev (F := F) (C := C) (h := h) (c0 := c0) (c2 := c2) (c3 := some (.ref 0)) (c4 := c4) (c5 := some (.ref l)) (c6 := some (.ref kn)) (c7 := c7) (c8 := some (.ref u)) (c11 := c11) (c12 := c12) (c13 := c13) hd hs hL
  have ae := all_ev (F := F) (C := C) (h := h) (d := d) (spot := spot) (c0 := c0) (c1 := I L) (c2 := c2) (c4 := c4) (c5 := some (.ref l)) (c6 := some (.ref kn)) (c7 := c7) (c9 := some (.d (pD spot))) (c10 := I d) (c12 := c12) (c13 := c13) H.ix eu hl hL
  cases hall : (barP L spot d).all (okP PL used) with
  | false =>
    have st : stepS PL L used spot (line, known) d = (line, known) := by
      unfold stepS tryS
      rw [hall]; rfl
    refine ⟨I d, some (.d (.list ((barP L spot d).map pD))), c12, c13, h, ?_, by rw [st]; exact H, eu⟩
    rw [hall] at ae
    unfold turnV bdy bodyS
    simp only [bindT_nm, List.set_cons_succ, List.set_cons_zero, xs_cons, xs_nil, x_set, be, R.thn_ok, RF.thn_nx, x_iff, ae, Bool.false_eq_true, if_false]
  | true =>
    rw [hall] at ae
    generalize hS : (barP L spot d).foldl (fun s q => s.set (ixG PL q) 1) used = s'
    have tr : tryS PL L used spot d = some s' := by
      unfold tryS
      rw [hall, ← hS]; rfl
    have hok : ∀ q ∈ barP L spot d, (ixP PL q).isSome = true := fun q hq => by
      have := List.all_eq_true.mp hall q hq
      unfold okP at this
      cases e : ixP PL q with
      | none => rw [e] at this; cases this
      | some i => rfl
    have lst8 : evL F C (.lst (.var 8)) [c0, I L, c2, some (.ref 0), c4, some (.ref l), some (.ref kn), c7, some (.ref u), some (.d (pD spot)), I d, some (.d (.list ((barP L spot d).map pD))), c12, c13] h = .ok (((si used).map PyData.int).map .d) h := by
      have e1 : els h (.ref u) = some (((si used).map PyData.int).map .d) := by
        unfold els
        simp only [eu]
      simp only [el_lst, e_var, List.getElem?_cons_succ, List.getElem?_cons_zero, R.bind_ok, e1]
    have o1 : h ++ [IO.lst (((si used).map PyData.int).map .d)] = h ++ [oI (si used)] := rfl
    have mm : ((barP L spot d).map pD).map Val.d = (barP L spot d).map fun q => Val.d (pD q) := by rw [List.map_map]; rfl
    obtain ⟨c13', wk⟩ := walkW (F := F) (C := C) (h := h) (PL := PL) (c0 := c0) (c1 := I L) (c2 := c2) (c4 := c4) (c5 := some (.ref l)) (c6 := some (.ref kn)) (c7 := c7) (c8 := some (.ref u)) (c9 := some (.d (pD spot))) (c10 := I d) (c11 := some (.d (.list ((barP L spot d).map pD)))) (c13 := c13) H.ix (barP L spot d) used c13 hl hok
    rw [hS] at wk
    have H2 := H.app (oI (si s'))
    have eu2 : (h ++ [oI (si s')])[u]? = some (txs used) := tx_app eu
    have ef : (h ++ [oI (si s')])[h.length]? = some (oI (si s')) := app_last
    have tp := tup_o (h := h ++ [oI (si s')]) ef
    have nk := nin_kn (h := h ++ [oI (si s')]) (s := s') H2.ko
    generalize hH2 : h ++ [oI (si s')] = K2 at *
    have te : ev F C (.tupO (.var 12)) [c0, I L, c2, some (.ref 0), c4, some (.ref l), some (.ref kn), c7, some (.ref u), some (.d (pD spot)), I d, some (.d (.list ((barP L spot d).map pD))), some (.ref h.length), c13'] K2 = .ok (.d (tupI (si s'))) K2 := by
      simp only [e_tupO, e_var, List.getElem?_cons_succ, List.getElem?_cons_zero, R.bind_ok, tp]
    have cn : cnd F C (.cmp .nin (.tupO (.var 12)) (.var 6)) [c0, I L, c2, some (.ref 0), c4, some (.ref l), some (.ref kn), c7, some (.ref u), some (.d (pD spot)), I d, some (.d (.list ((barP L spot d).map pD))), some (.ref h.length), c13'] K2 = .ok (!decide (s' ∈ known)) K2 := by
      unfold cnd tst
      simp only [e_cmp, te, e_var, List.getElem?_cons_succ, List.getElem?_cons_zero, R.bind_ok, nk, tru_b]
    by_cases hm : s' ∈ known
    · have st : stepS PL L used spot (line, known) d = (line, known) := by
        unfold stepS
        rw [tr]
        show (if s' ∈ known then (line, known) else _) = _
        rw [if_pos hm]
      rw [decide_eq_true hm] at cn
      refine ⟨I d, some (.d (.list ((barP L spot d).map pD))), some (.ref h.length), c13', K2, ?_, by rw [st]; exact H2, eu2⟩
      unfold turnV bdy bodyS
      simp only [bindT_nm, List.set_cons_succ, List.set_cons_zero, xs_cons, xs_nil, x_set, be, R.thn_ok, RF.thn_nx, x_iff, ae, if_true, e_new, lst8, R.bind_ok, o1, x_for, ex_val, e_var, List.getElem?_cons_succ, List.getElem?_cons_zero, srcV_l, mm]
      rw [wk]
      simp only [RF.thn_nx, cn, R.thn_ok, Bool.not_true, Bool.false_eq_true, if_false]
    · have st : stepS PL L used spot (line, known) d = (line ++ [s'], known ++ [s']) := by
        unfold stepS
        rw [tr]
        show (if s' ∈ known then (line, known) else _) = _
        rw [if_neg hm]
      rw [decide_eq_false hm] at cn
      obtain ⟨rs, e1, e2⟩ := H2.ln
      have sk := set_kn (h := K2) H2.ko hm b2
      have nlk : l ≠ kn := fun z => by subst z; rw [H2.ko] at e1; cases e1
      have nfk : h.length ≠ kn := fun z => by rw [← z] at H2; rw [H2.ko] at ef; cases ef
      generalize hK3 : K2.set kn (.dct (.t (kvK (known ++ [s'])))) = K3 at *
      have ef3 : K3[h.length]? = some (oI (si s')) := by rw [← hK3, List.getElem?_set_ne nfk.symm]; exact ef
      have el3 : K3[l]? = some (.lst (rs.map .ref)) := by rw [← hK3, List.getElem?_set_ne nlk.symm]; exact e1
      have lv : lstV (.ref l) K3 = .ok () K3 := by unfold lstV; simp only [el3]
      have eL := elsL_o ef3
      have el4 : (K3 ++ [txs s'])[l]? = some (.lst (rs.map .ref)) := by rw [app_get (lt_of_get el3)]; exact el3
      have lr : (rs.map Val.ref).length < 16777216 := by rw [List.length_map, e2.length]; omega
      have av : appV (.ref l) (.ref K3.length) (K3 ++ [txs s']) = .ok (.d .none) ((K3 ++ [txs s']).set l (.lst ((rs ++ [K3.length]).map .ref))) := by
        unfold appV
        simp only [el4, lr, if_true, List.map_append, List.map_cons, List.map_nil]
      have keep : ∀ (v : Nat) (t : Stt), K2[v]? = some (txs t) → ((K3 ++ [txs s']).set l (.lst ((rs ++ [K3.length]).map .ref)))[v]? = some (txs t) := fun v t e => by
        refine tx_set el4 (fun ds z => by cases z) (tx_app ?_)
        rw [← hK3]
        exact tx_set H2.ko (fun ds z => by cases z) e
      have n0l : l ≠ 0 := fun z => by subst z; rw [H2.ix] at e1; cases e1
      refine ⟨I d, some (.d (.list ((barP L spot d).map pD))), some (.ref h.length), c13', (K3 ++ [txs s']).set l (.lst ((rs ++ [K3.length]).map .ref)), ?_, ?_, keep u used eu2⟩
      · unfold turnV bdy bodyS
        simp only [bindT_nm, List.set_cons_succ, List.set_cons_zero, xs_cons, xs_nil, x_set, be, R.thn_ok, RF.thn_nx, x_iff, ae, if_true, e_new, lst8, R.bind_ok, o1, x_for, ex_val, e_var, List.getElem?_cons_succ, List.getElem?_cons_zero, srcV_l, mm]
        rw [wk]
        simp only [RF.thn_nx, cn, R.thn_ok, Bool.not_false, if_true, x_six, e_lit, e_var, List.getElem?_cons_succ, List.getElem?_cons_zero, te, sk, x_exp, e_app, e_tupL, R.bind_ok, lv, eL, toDs_map]
        rw [av]
        simp only [R.thn_ok, RF.thn_nx]
      · rw [st]
        have l0 : (0 : Nat) ≠ kn := H2.n1
        refine ⟨?_, ⟨rs ++ [K3.length], ?_, ?_⟩, ?_, l0⟩
        · rw [List.getElem?_set_ne n0l, app_get (by rw [← hK3, List.length_set]; exact lt_of_get H2.ix), ← hK3, List.getElem?_set_ne l0.symm]
          exact H2.ix
        · rw [List.getElem?_set_self (by rw [List.length_append]; have := lt_of_get el3; omega)]
        · refine Ls.snoc ?_ (e2.mono keep)
          have := lt_of_get el3
          rw [List.getElem?_set_ne (by omega)]
          exact app_last
        · rw [List.getElem?_set_ne nlk, app_get (by rw [← hK3, List.length_set]; exact lt_of_get H2.ko), ← hK3, List.getElem?_set_self (lt_of_get H2.ko)]
end
end K13

set_option linter.all false
set_option Elab.async false
set_option autoImplicit false
set_option maxRecDepth 100000
namespace K13
open PySem Ip
theorem try_len {PL : List Stt} {L d : Nat} {used spot s : Stt} (h : tryS PL L used spot d = some s) : s.length = used.length := by
  unfold tryS at h
  split at h
  · cases h
    have : ∀ (qs : List Stt) (s : Stt), (qs.foldl (fun s q => s.set (ixG PL q) 1) s).length = s.length := fun qs => by
      induction qs with
      | nil => intro s; rfl
      | cons q qs ih => intro s; rw [List.foldl_cons, ih, List.length_set]
    exact this _ _
  · cases h
theorem step_len {PL : List Stt} {L d : Nat} {used spot : Stt} {x : List Stt × List Stt} : (stepS PL L used spot x d).1.length ≤ x.1.length + 1 ∧ (stepS PL L used spot x d).2.length ≤ x.2.length + 1 := by
  unfold stepS
  cases tryS PL L used spot d with
  | none => exact ⟨Nat.le_succ _, Nat.le_succ _⟩
  | some s =>
    show (if s ∈ x.2 then x else (x.1 ++ [s], x.2 ++ [s])).1.length ≤ _ ∧ (if s ∈ x.2 then x else (x.1 ++ [s], x.2 ++ [s])).2.length ≤ _
    split <;> simp
theorem step_ok {PL : List Stt} {L d : Nat} {used spot : Stt} {x : List Stt × List Stt} (hu : used.length = PL.length) (h : ∀ s ∈ x.1, s.length = PL.length) : ∀ s ∈ (stepS PL L used spot x d).1, s.length = PL.length := by
  unfold stepS
  cases e : tryS PL L used spot d with
  | none => exact h
  | some s =>
    show ∀ t ∈ (if s ∈ x.2 then x else (x.1 ++ [s], x.2 ++ [s])).1, _
    split
    · exact h
    · intro t ht
      rcases List.mem_append.mp ht with ht | ht
      · exact h t ht
      · rw [List.mem_singleton.mp ht, try_len e, hu]
def stepN (PL : List Stt) (L : Nat) (used spot : Stt) (x : List Stt × List Stt) (m : Nat) : List Stt × List Stt := (List.range m).foldl (stepS PL L used spot) x
theorem stepN_succ {PL : List Stt} {L m : Nat} {used spot : Stt} {x : List Stt × List Stt} : stepN PL L used spot x (m + 1) = stepS PL L used spot (stepN PL L used spot x m) m := by
  unfold stepN
  rw [List.range_succ, List.foldl_append]; rfl
theorem stepN_len {PL : List Stt} {L : Nat} {used spot : Stt} {x : List Stt × List Stt} : ∀ m, (stepN PL L used spot x m).1.length ≤ x.1.length + m ∧ (stepN PL L used spot x m).2.length ≤ x.2.length + m
  | 0 => ⟨Nat.le_refl _, Nat.le_refl _⟩
  | m + 1 => by
    rw [stepN_succ]
    have a := stepN_len (PL := PL) (L := L) (used := used) (spot := spot) (x := x) m
    have b := step_len (PL := PL) (L := L) (used := used) (spot := spot) (x := stepN PL L used spot x m) (d := m)
    omega
theorem stepN_ok {PL : List Stt} {L : Nat} {used spot : Stt} {x : List Stt × List Stt} (hu : used.length = PL.length) (h : ∀ s ∈ x.1, s.length = PL.length) : ∀ m, ∀ s ∈ (stepN PL L used spot x m).1, s.length = PL.length
  | 0 => h
  | m + 1 => by rw [stepN_succ]; exact step_ok hu (stepN_ok hu h m)
/-! ### what is looked at -/
theorem lay_ints : ∀ p : Stt, PyData.canLayAll0 ((si p).map .int) = true ∧ PyData.depthAll ((si p).map .int) = 0
  | [] => ⟨rfl, rfl⟩
  | x :: p => by
    have ih := lay_ints p
    exact ⟨by show (true && _) = true; rw [Bool.true_and]; exact ih.1, by show max 0 _ = 0; rw [Nat.zero_max]; exact ih.2⟩
theorem lay_sts : ∀ ps : List Stt, PyData.canLayAll0 (ps.map pD) = true ∧ PyData.depthAll (ps.map pD) ≤ 1
  | [] => ⟨rfl, Nat.zero_le _⟩
  | p :: ps => by
    have a := lay_ints p
    have ih := lay_sts ps
    refine ⟨by show (PyData.canLayAll0 ((si p).map .int) && _) = true; rw [a.1, Bool.true_and]; exact ih.1, ?_⟩
    show max (PyData.depthAll ((si p).map .int) + 1) _ ≤ 1
    rw [a.2]
    exact Nat.max_le.mpr ⟨by omega, ih.2⟩
theorem any_zero : ∀ p : Stt, (((si p).map PyData.int).any fun z => PyData.eqv z (.int 0)) = decide (0 ∈ p)
  | [] => rfl
  | x :: p => by
    have ih := any_zero p
    show ((((x : Nat) : Int) == 0) || (((si p).map PyData.int).any fun z => PyData.eqv z (.int 0))) = _
    rw [ih]
    by_cases z : x = 0
    · subst z; simp
    · have : ((x : Int) == 0) = false := by simpa using z
      rw [this, Bool.false_or]
      have : (0 ∈ x :: p) ↔ 0 ∈ p := by
        rw [List.mem_cons]
        exact ⟨fun h => h.resolve_left fun y => z y.symm, .inr⟩
      simp only [this]
theorem find_si (p : Stt) : (si p).findIdx? (· == 0) = p.findIdx? (· == 0) := by
  unfold si
  rw [List.findIdx?_map]
  congr 1
  funext x
  show (((x : Nat) : Int) == 0) = (x == 0)
  by_cases z : x = 0
  · subst z; rfl
  · have a : ((x : Int) == 0) = false := by simpa using z
    have b : (x == 0) = false := by simpa using z
    rw [a, b]
section
variable {F j : Nat} {C : List Orc} {h : Hq}
theorem nin_tx {u : Nat} {s : Stt} (e : h[u]? = some (txs s)) : cmpV .nin (.d (.int 0)) (.ref u) h = .ok (!decide (0 ∈ s)) h := by
  have d0 : dct h (.ref u) = none := dct_o e (fun c z => by cases z)
  have pk1 : peek h (.ref u) = some (.tuple ((si s).map .int)) := by
    unfold peek pk
    simp only [e]
  have sh : SeqAt.shaped (.tuple ((si s).map PyData.int)) = true := by
    have a := lay_ints s
    unfold SeqAt.shaped
    show (PyData.canLayAll0 ((si s).map .int) && decide (PyData.depthAll ((si s).map .int) + 1 ≤ 64)) = true
    rw [a.1, a.2]; rfl
  have c : cmpD .nin (.int 0) (.tuple ((si s).map .int)) = some (!decide (0 ∈ s)) := by
    show (if SeqAt.shaped (.int 0) && SeqAt.shaped (.tuple ((si s).map .int)) then some (!((si s).map PyData.int).any fun z => PyData.eqv z (.int 0)) else none) = _
    rw [sh, any_zero]; rfl
  unfold cmpV
  simp only [d0]
  unfold cmpW
  simp only [peek_d, pk1, c]
theorem eq_nil {l : Nat} {rs : List Nat} {line : List Stt} (e1 : h[l]? = some (.lst (rs.map .ref))) (e2 : Ls h rs line) : cmpV .eq (.ref l) (.d (.list [])) h = .ok line.isEmpty h := by
  have pk1 : peek h (.ref l) = some (.list (line.map pD)) := by
    unfold peek pk
    simp only [e1, e2.peek, Option.map_some]
  have sh : SeqAt.shaped (.list (line.map pD)) = true := by
    have a := lay_sts line
    unfold SeqAt.shaped
    show (PyData.canLayAll0 (line.map pD) && decide (PyData.depthAll (line.map pD) + 1 ≤ 64)) = true
    rw [a.1, Bool.true_and]
    exact decide_eq_true (by omega)
  have c : cmpD .eq (.list (line.map pD)) (.list []) = some line.isEmpty := by
    show (if SeqAt.shaped (.list (line.map pD)) && SeqAt.shaped (.list []) then some (PyData.eqv (.list (line.map pD)) (.list [])) else none) = _
    rw [sh]
    cases line <;> rfl
  unfold cmpV
  simp only [show dct h (.d (.list [])) = none from rfl]
  unfold cmpW
  simp only [peek_d, pk1, c]
theorem tix_tx {u i : Nat} {s : Stt} (e : h[u]? = some (txs s)) (hi : s.findIdx? (· == 0) = some i) : ((txV (.ref u) h).bind fun ds h1 => (R.ok (Val.d (.int 0)) h1).bind fun y h2 => tixV ds y h2) = .ok (.d (.int (i : Int))) h := by
  unfold txV
  simp only [e, R.bind_ok]
  unfold tixV
  simp only [ints_map', find_si, hi]
def bodyF : List Ip.St := [.iff (.cmp .eq (.var 5) (.ofL (.dsp []))) [.ret (.lit (.bool false))] [], .set 8 (.pop (.var 5)), .iff (.cmp .nin (.lit (.int 0)) (.var 8)) [.ret (.lit (.bool true))] [], .set 9 (.ix (.var 2) (.tix (.var 8) (.lit (.int 0)))), .for_ (.nm 10) (.rng (.prm .len [(.var 0)])) bodyS]
theorem lf_is : b__law_found = [.set 2 (.call 5 [(.var 0)]), .set 3 (.dnew true), .for_ (.nm 4) (.rng (.prm .len [(.var 2)])) [.six (.var 3) (.ix (.var 2) (.var 4)) (.var 4)],
   .set 5 (.new (.dsp [(.repX (.tupX [(.lit (.int 0))]) (.prm .len [(.var 2)]))])), .set 6 (.ddsp true (.frz (.ix (.var 5) (.lit (.int 0)))) (.lit (.bool true))), .for_ (.nm 7) (.rng (.lit (.int 9000))) bodyF, .ret (.lit .none)] := rfl
theorem walkS {PL : List Stt} {L l kn u m : Nat} {used spot : Stt} {x : List Stt × List Stt} {c0 c2 c4 c7 c10 c11 c12 c13 : Option Val} (H : Hs PL h l kn x.1 x.2) (eu : h[u]? = some (txs used)) (hl : used.length = PL.length) (hN : PL.length ≤ 1000) (hm : m ≤ spot.length) (hs : spot.length ≤ 100) (hL : L ≤ 100) (b1 : x.1.length + m < 16000000) (b2 : x.2.length + m < 16000000) :
    ∃ c10' c11' c12' c13' h', forL (turnV (.nm 10) (bdy F C bodyS)) (rangeL 0 m) [c0, I L, c2, some (.ref 0), c4, some (.ref l), some (.ref kn), c7, some (.ref u), some (.d (pD spot)), c10, c11, c12, c13] h =
      .ok (.nx [c0, I L, c2, some (.ref 0), c4, some (.ref l), some (.ref kn), c7, some (.ref u), some (.d (pD spot)), c10', c11', c12', c13']) h' ∧ Hs PL h' l kn (stepN PL L used spot x m).1 (stepN PL L used spot x m).2 := by
  obtain ⟨σ', h', ⟨c10', c11', c12', c13', rfl, p1, p2⟩, e⟩ := forL_rng (f := turnV (.nm 10) (bdy F C bodyS)) (P := fun i σ h => ∃ c10 c11 c12 c13, σ = [c0, I L, c2, some (.ref 0), c4, some (.ref l), some (.ref kn), c7, some (.ref u), some (.d (pD spot)), c10, c11, c12, c13] ∧ Hs PL h l kn (stepN PL L used spot x i).1 (stepN PL L used spot x i).2 ∧ h[u]? = some (txs used)) m
    (σ := [c0, I L, c2, some (.ref 0), c4, some (.ref l), some (.ref kn), c7, some (.ref u), some (.d (pD spot)), c10, c11, c12, c13]) (h := h) (fun i σ h hi hp => by
      obtain ⟨c10, c11, c12, c13, rfl, p1, p2⟩ := hp
      have ln := stepN_len (PL := PL) (L := L) (used := used) (spot := spot) (x := x) i
      obtain ⟨c10', c11', c12', c13', h', e, q1, q2⟩ := turnS (F := F) (C := C) (L := L) (d := i) (spot := spot) (c0 := c0) (c2 := c2) (c4 := c4) (c7 := c7) (c10 := c10) (c11 := c11) (c12 := c12) (c13 := c13) p1 p2 hl hN (by omega) hs hL (by omega) (by omega)
      refine ⟨_, h', ⟨c10', c11', c12', c13', rfl, ?_, q2⟩, e⟩
      rw [stepN_succ]
      exact q1) ⟨c10, c11, c12, c13, rfl, H, eu⟩
  exact ⟨c10', c11', c12', c13', h', e, p1⟩
theorem pop_l {PL : List Stt} {l kn : Nat} {init known : List Stt} {used : Stt} (H : Hs PL h l kn (init ++ [used]) known) : ∃ u h', popV (.ref l) h = .ok (.ref u) h' ∧ Hs PL h' l kn init known ∧ h'[u]? = some (txs used) := by
  obtain ⟨rs, e1, e2⟩ := H.ln
  obtain ⟨r, u, rfl, e3, e4⟩ := e2.unsnoc
  have n0 : l ≠ 0 := fun z => by subst z; rw [H.ix] at e1; cases e1
  have nk : l ≠ kn := fun z => by subst z; rw [H.ko] at e1; cases e1
  have k : ∀ (v : Nat) (s : Stt), h[v]? = some (txs s) → (h.set l (.lst (r.map .ref)))[v]? = some (txs s) := fun v s e => tx_set e1 (fun ds z => by cases z) e
  refine ⟨u, h.set l (.lst (r.map .ref)), ?_, ⟨by rw [List.getElem?_set_ne n0]; exact H.ix, ⟨r, by rw [List.getElem?_set_self (lt_of_get e1)], e3.mono k⟩, by rw [List.getElem?_set_ne nk]; exact H.ko, H.n1⟩, k u used e4⟩
  unfold popV
  simp only [e1]
  simp
/-- a turn of the search -/
theorem turnF {PL : List Stt} {L l kn m : Nat} {sides : List Nat} {x : List Stt × List Stt} {v : Val} {c4 c7 c8 c9 c10 c11 c12 c13 : Option Val} (H : Hs PL h l kn x.1 x.2) (hx : ∀ s ∈ x.1, s.length = PL.length) (hN : PL.length ≤ 1000) (hm : m = sides.length) (hP : ∀ p ∈ PL, p.length = m) (hm2 : m ≤ 100) (hL : L ≤ 100) (b1 : x.1.length + m < 16000000) (b2 : x.2.length + m < 16000000) :
    (∃ b h', (∀ n, srch PL L m (n + 1) x = some b) ∧ turnV (.nm 7) (bdy F C bodyF) v [some (.d (tupI (si sides))), I L, some (.d (.list (PL.map pD))), some (.ref 0), c4, some (.ref l), some (.ref kn), c7, c8, c9, c10, c11, c12, c13] h = .ok (.rt (.d (.bool b))) h') ∨
    ∃ x' c7' c8' c9' c10' c11' c12' c13' h', (∀ n, srch PL L m (n + 1) x = srch PL L m n x') ∧ Hs PL h' l kn x'.1 x'.2 ∧ (∀ s ∈ x'.1, s.length = PL.length) ∧ x'.1.length ≤ x.1.length + m ∧ x'.2.length ≤ x.2.length + m ∧
      turnV (.nm 7) (bdy F C bodyF) v [some (.d (tupI (si sides))), I L, some (.d (.list (PL.map pD))), some (.ref 0), c4, some (.ref l), some (.ref kn), c7, c8, c9, c10, c11, c12, c13] h = .ok (.nx [some (.d (tupI (si sides))), I L, some (.d (.list (PL.map pD))), some (.ref 0), c4, some (.ref l), some (.ref kn), c7', c8', c9', c10', c11', c12', c13']) h' := by
  obtain ⟨rs, e1, e2⟩ := H.ln
  have en := eq_nil e1 e2
  have f0 : fits 0 = true := fits_le (by omega)
  have cn : cnd F C (.cmp .eq (.var 5) (.ofL (.dsp []))) [some (.d (tupI (si sides))), I L, some (.d (.list (PL.map pD))), some (.ref 0), c4, some (.ref l), some (.ref kn), some v, c8, c9, c10, c11, c12, c13] h = .ok x.1.isEmpty h := by
    unfold cnd tst
    simp only [e_cmp, e_var, List.getElem?_cons_succ, List.getElem?_cons_zero, R.bind_ok, e_ofL, el_dsp, es_nil, List.length_nil, f0, if_true, toDs_nil, en, tru_b]
  rcases List.eq_nil_or_concat x.1 with hx1 | ⟨init, used, hx1⟩
  · left
    refine ⟨false, h, fun n => by unfold srch; rw [hx1]; rfl, ?_⟩
    rw [hx1] at cn
    unfold turnV bdy bodyF
    simp only [bindT_nm, List.set_cons_succ, List.set_cons_zero, xs_cons, xs_nil, x_iff, cn, R.thn_ok, List.isEmpty_nil, if_true, x_ret, e_lit, thn_rt]
  · rw [List.concat_eq_append] at hx1
    have cn : cnd F C (.cmp .eq (.var 5) (.ofL (.dsp []))) [some (.d (tupI (si sides))), I L, some (.d (.list (PL.map pD))), some (.ref 0), c4, some (.ref l), some (.ref kn), some v, c8, c9, c10, c11, c12, c13] h = .ok false h := by
      rw [cn, hx1]; simp
    have H1 : Hs PL h l kn (init ++ [used]) x.2 := by rw [← hx1]; exact H
    obtain ⟨u, h1, pe, H2, eu⟩ := pop_l H1
    have nt := nin_tx (h := h1) eu
    have hlu : used.length = PL.length := hx used (by rw [hx1]; simp)
    have cz : cnd F C (.cmp .nin (.lit (.int 0)) (.var 8)) [some (.d (tupI (si sides))), I L, some (.d (.list (PL.map pD))), some (.ref 0), c4, some (.ref l), some (.ref kn), some v, some (.ref u), c9, c10, c11, c12, c13] h1 = .ok (!decide (0 ∈ used)) h1 := by
      unfold cnd tst
      simp only [e_cmp, e_lit, e_var, List.getElem?_cons_succ, List.getElem?_cons_zero, R.bind_ok, nt, tru_b]
    have gl : x.1.getLast? = some used := by rw [hx1]; simp
    have dl : x.1.dropLast = init := by rw [hx1]; simp
    by_cases hz : 0 ∈ used
    · right
      rw [decide_eq_true hz] at cz
      obtain ⟨i, hi⟩ : ∃ i, used.findIdx? (· == 0) = some i := by
        cases e : used.findIdx? (· == 0) with
        | some i => exact ⟨i, rfl⟩
        | none =>
          rw [List.findIdx?_eq_none_iff] at e
          have := e 0 hz
          simp at this
      have hiu : i < used.length := (List.findIdx?_eq_some_iff_findIdx_eq.mp hi).1
      have hiP : i < PL.length := by omega
      have sp : spotS PL used = PL[i] := by
        unfold spotS
        rw [hi]
        simp [List.getD_eq_getElem?_getD, List.getElem?_eq_getElem hiP]
      have tt := tix_tx (h := h1) eu hi
      have xp : ixV (.d (.list (PL.map pD))) (.d (.int (i : Int))) h1 = .ok (.d (pD PL[i])) h1 := by
        rw [ixV_l, atD_nat (by simpa using hiP)]
        simp
      have hps : PL[i].length = m := hP _ (List.getElem_mem hiP)
      have i1 : init.length < x.1.length := by rw [hx1]; simp
      obtain ⟨c10', c11', c12', c13', h', e, q1⟩ := walkS (F := F) (C := C) (L := L) (m := m) (spot := PL[i]) (x := (init, x.2)) (c0 := some (.d (tupI (si sides)))) (c2 := some (.d (.list (PL.map pD)))) (c4 := c4) (c7 := some v) (c10 := c10) (c11 := c11) (c12 := c12) (c13 := c13) H2 eu hlu hN (by omega) (by omega) hL (by show init.length + m < _; omega) b2
      have ln := stepN_len (PL := PL) (L := L) (used := used) (spot := PL[i]) (x := (init, x.2)) m
      refine ⟨stepN PL L used PL[i] (init, x.2) m, some v, some (.ref u), some (.d (pD PL[i])), c10', c11', c12', c13', h', fun n => ?_, q1, stepN_ok hlu (fun s hs => hx s (by rw [hx1]; exact List.mem_append_left _ hs)) m, by have := ln.1; simp only at this; omega, ln.2, ?_⟩
      · show (match x.1.getLast? with
          | none => some false
          | some used => if 0 ∈ used then srch PL L m n ((List.range m).foldl (stepS PL L used (spotS PL used)) (x.1.dropLast, x.2)) else some true) = _
        rw [gl, dl]
        show (if 0 ∈ used then _ else _) = _
        rw [if_pos hz, sp]
        rfl
      · have lens : prmD .len [tupI (si sides)] = some (.int (m : Int)) := by
          rw [hm]
          simp [tupI, si, prmD]
        have rr : okRng (m : Int) = true := okRng_of (by omega) (by omega)
        unfold turnV bdy bodyF
        simp only [bindT_nm, List.set_cons_succ, List.set_cons_zero, xs_cons, xs_nil, x_iff, cn, R.thn_ok, Bool.false_eq_true, if_false, RF.thn_nx, x_set, e_pop, e_var, List.getElem?_cons_succ, List.getElem?_cons_zero, R.bind_ok, pe, cz, Bool.not_true, e_ix, e_tix, e_lit]
        simp only [R.bind_ok] at tt
        simp only [tt, R.bind_ok, xp, R.thn_ok, RF.thn_nx, List.set_cons_succ, List.set_cons_zero, x_for, ex_rng, e_prm, es_cons, es_nil, e_var, List.getElem?_cons_succ, List.getElem?_cons_zero, prmV_1, lens, intV_i, rr, if_true, Int.toNat_natCast]
        rw [e]
        simp only [RF.thn_nx]
    · left
      rw [decide_eq_false hz] at cz
      refine ⟨true, h1, fun n => ?_, ?_⟩
      · show (match x.1.getLast? with
          | none => some false
          | some used => if 0 ∈ used then srch PL L m n ((List.range m).foldl (stepS PL L used (spotS PL used)) (x.1.dropLast, x.2)) else some true) = _
        rw [gl]
        show (if 0 ∈ used then _ else _) = _
        rw [if_neg hz]
      · unfold turnV bdy bodyF
        simp only [bindT_nm, List.set_cons_succ, List.set_cons_zero, xs_cons, xs_nil, x_iff, cn, R.thn_ok, Bool.false_eq_true, if_false, RF.thn_nx, x_set, e_pop, e_var, List.getElem?_cons_succ, List.getElem?_cons_zero, R.bind_ok, pe, cz, Bool.not_false, if_true, x_ret, e_lit, thn_rt]
end
end K13

set_option linter.all false
set_option Elab.async false
set_option autoImplicit false
set_option maxRecDepth 100000
namespace K13
open PySem Ip
section
variable {F j : Nat} {C : List Orc} {h : Hq}
theorem loopF {PL : List Stt} {L l kn m : Nat} {sides : List Nat} (hN : PL.length ≤ 1000) (hm : m = sides.length) (hP : ∀ p ∈ PL, p.length = m) (hm2 : m ≤ 100) (hL : L ≤ 100) {c4 : Option Val} : ∀ (n : Nat) (k : Int) (x : List Stt × List Stt) (c7 c8 c9 c10 c11 c12 c13 : Option Val) (h : Hq), Hs PL h l kn x.1 x.2 → (∀ s ∈ x.1, s.length = PL.length) → x.1.length + m * n < 16000000 → x.2.length + m * n < 16000000 →
    ∃ h', (∃ b, srch PL L m n x = some b ∧ forL (turnV (.nm 7) (bdy F C bodyF)) (rangeL k n) [some (.d (tupI (si sides))), I L, some (.d (.list (PL.map pD))), some (.ref 0), c4, some (.ref l), some (.ref kn), c7, c8, c9, c10, c11, c12, c13] h = .ok (.rt (.d (.bool b))) h') ∨
      ∃ σ', srch PL L m n x = none ∧ forL (turnV (.nm 7) (bdy F C bodyF)) (rangeL k n) [some (.d (tupI (si sides))), I L, some (.d (.list (PL.map pD))), some (.ref 0), c4, some (.ref l), some (.ref kn), c7, c8, c9, c10, c11, c12, c13] h = .ok (.nx σ') h'
  | 0, k, x, c7, c8, c9, c10, c11, c12, c13, h, H, hx, b1, b2 => ⟨h, .inr ⟨_, rfl, rfl⟩⟩
  | n + 1, k, x, c7, c8, c9, c10, c11, c12, c13, h, H, hx, b1, b2 => by
    rw [Nat.mul_succ] at b1 b2
    show ∃ h', (∃ b, _ ∧ forL _ (.d (.int k) :: rangeL (k + 1) n) _ _ = _) ∨ ∃ σ', _ ∧ forL _ (.d (.int k) :: rangeL (k + 1) n) _ _ = _
    rcases turnF (F := F) (C := C) (v := .d (.int k)) (c4 := c4) (c7 := c7) (c8 := c8) (c9 := c9) (c10 := c10) (c11 := c11) (c12 := c12) (c13 := c13) H hx hN hm hP hm2 hL (by omega) (by omega) with ⟨b, h', e1, e2⟩ | ⟨x', d7, d8, d9, d10, d11, d12, d13, h', e1, H', hx', l1, l2, e2⟩
    · refine ⟨h', .inl ⟨b, e1 n, ?_⟩⟩
      rw [forL_cons, e2]; rfl
    · rw [e1 n]
      obtain ⟨h2, r⟩ := loopF hN hm hP hm2 hL n (k + 1) x' d7 d8 d9 d10 d11 d12 d13 h' H' hx' (by omega) (by omega)
      refine ⟨h2, ?_⟩
      rcases r with ⟨b, q1, q2⟩ | ⟨σ', q1, q2⟩
      · exact .inl ⟨b, q1, by rw [forL_cons, e2]; exact q2⟩
      · exact .inr ⟨σ', q1, by rw [forL_cons, e2]; exact q2⟩
theorem kvI_take {PL : List Stt} {i : Nat} (hi : i < PL.length) : kvI (PL.take (i + 1)) 0 = kvI (PL.take i) 0 ++ [(kz PL[i], .d (.int (i : Int)))] := by
  unfold kvI
  rw [List.take_add_one, List.getElem?_eq_getElem hi]
  show List.map _ ((PL.take i ++ [PL[i]]).zipIdx 0) = _
  rw [List.zipIdx_append, List.map_append]
  have : (PL.take i).length = i := by rw [List.length_take]; omega
  simp [this]
theorem walkI {PL : List Stt} {c0 c1 c4 c5 c6 c7 c8 c9 c10 c11 c12 c13 : Option Val} (nd : PL.Nodup) (hN : PL.length ≤ 1000) :
    ∃ c4', forL (turnV (.nm 4) (bdy F C [.six (.var 3) (.ix (.var 2) (.var 4)) (.var 4)])) (rangeL 0 PL.length) [c0, c1, some (.d (.list (PL.map pD))), some (.ref 0), c4, c5, c6, c7, c8, c9, c10, c11, c12, c13] [.dct (.t [])] =
      .ok (.nx [c0, c1, some (.d (.list (PL.map pD))), some (.ref 0), c4', c5, c6, c7, c8, c9, c10, c11, c12, c13]) [.dct (.t (kvI PL 0))] := by
  obtain ⟨σ', h', ⟨c4', rfl, rfl⟩, e⟩ := forL_rng (f := turnV (.nm 4) (bdy F C [.six (.var 3) (.ix (.var 2) (.var 4)) (.var 4)])) (P := fun i σ h => ∃ c4', σ = [c0, c1, some (.d (.list (PL.map pD))), some (.ref 0), c4', c5, c6, c7, c8, c9, c10, c11, c12, c13] ∧ h = [.dct (.t (kvI (PL.take i) 0))]) PL.length
    (σ := [c0, c1, some (.d (.list (PL.map pD))), some (.ref 0), c4, c5, c6, c7, c8, c9, c10, c11, c12, c13]) (h := [.dct (.t [])]) (fun i σ h hi hp => by
      obtain ⟨c4', rfl, rfl⟩ := hp
      refine ⟨_, _, ⟨I i, rfl, rfl⟩, ?_⟩
      have xp : ixV (.d (.list (PL.map pD))) (.d (.int (i : Int))) [.dct (.t (kvI (PL.take i) 0))] = .ok (.d (pD PL[i])) [.dct (.t (kvI (PL.take i) 0))] := by
        rw [ixV_l, atD_nat (by simpa using hi)]
        simp
      have nm : PL[i] ∉ PL.take i := fun z => by
        obtain ⟨k, hk, ek⟩ := List.mem_iff_getElem.mp z
        rw [List.length_take] at hk
        rw [List.getElem_take] at ek
        exact absurd ((List.getElem_inj nd).mp ek) (by omega)
      have st : setV (.ref 0) (.d (pD PL[i])) (.d (.int (i : Int))) [.dct (.t (kvI (PL.take i) 0))] = .ok () [.dct (.t (kvI (PL.take (i + 1)) 0))] := by
        have l1 : (kvI (PL.take i) 0).length < 16777216 := by unfold kvI; simp; omega
        unfold setV
        simp only [show dct [IO.dct (.t (kvI (PL.take i) 0))] (.ref 0) = some (.t (kvI (PL.take i) 0)) from rfl]
        unfold setD
        simp only [List.getElem?_cons_zero]
        unfold Dc.put
        simp only [keyT_p, l1, if_true, stor_kvI nm, ← kvI_take hi]
        rfl
      unfold turnV bdy
      simp only [bindT_nm, List.set_cons_succ, List.set_cons_zero, xs_cons, xs_nil, x_six, e_ix, e_var, List.getElem?_cons_succ, List.getElem?_cons_zero, R.bind_ok, R.thn_ok, xp, st, RF.thn_nx]) ⟨c4, rfl, rfl⟩
  refine ⟨c4', ?_⟩
  rw [e, List.take_length]
theorem rep_ev {N : Nat} {σ : Sg} {x : IO} {b : Ex} (hb : ∀ h, ev F C b σ h = .ok (.d (.int (N : Int))) h) (h0 : 0 < N) (h1 : N < 500) : ∃ z h2, ev F C (.repX (.tupX [(.lit (.int 0))]) b) σ [x] = .ok (.ref z) h2 ∧ h2[z]? = some (txs (List.replicate N 0)) ∧ h2[0]? = some x := by
  have s1 : (si [0]).map PyData.int = [.int 0] := rfl
  have tv : txV (.ref 1) [x, .tx [.int 0]] = .ok [.int 0] [x, .tx [.int 0]] := rfl
  have base : ev F C (.repX (.tupX [(.lit (.int 0))]) b) σ [x] = repX (.ref 1) [.int 0] (.d (.int (N : Int))) [x, .tx [.int 0]] := by
    simp only [e_repX, e_tupX, es_cons, es_nil, e_lit, R.bind_ok, toDs_cons, toDs_nil, toD_d, List.length_cons, List.length_nil, Nat.zero_add, List.cons_append, List.nil_append, tv, hb]
  rw [base]
  by_cases e : N = 1
  · subst e
    exact ⟨1, [x, .tx [.int 0]], rfl, rfl, rfl⟩
  · have lg : decide (((N : Int)).natAbs.log2 < 9) = true := by
      have : Sm 9 (N : Int) := by unfold Sm; omega
      refine decide_eq_true ?_
      have h : ((N : Int)).natAbs ≠ 0 := by omega
      exact (Nat.log2_lt h).mpr this
    have r : repX (.ref 1) [.int 0] (.d (.int (N : Int))) [x, .tx [.int 0]] = .ok (.ref 2) [x, .tx [.int 0], txs (List.replicate N 0)] := by
      unfold repX
      simp only
      rw [if_neg (by omega), lg]
      simp only [List.isEmpty_cons, Bool.not_false, List.length_cons, List.length_nil, Nat.zero_add, Bool.true_and]
      rw [if_pos (by simp; omega)]
      have : (List.replicate ((N : Int)).toNat [PyData.int 0]).flatten = (si (List.replicate N 0)).map .int := by
        rw [rep_flat, Int.toNat_natCast]
        unfold si
        simp
      rw [this]; rfl
    exact ⟨2, _, r, rfl, rfl⟩
/-- what the search tells -/
def foundD (sides : List Nat) (L : Nat) : D := match srch (places sides) L sides.length 9000 ([List.replicate (places sides).length 0], [List.replicate (places sides).length 0]) with
  | none => .none
  | some b => .bool b
theorem c_found (hF : 1000000 ≤ F) {sides : List Nat} {L : Nat} (hs : ∀ s ∈ sides, s ≤ 4) (hl : sides.length ≤ 3) (hL : L ≤ 100) (nd : (places sides).Nodup) (h0 : 0 < (places sides).length) (h1 : (places sides).length < 26) :
    callR F (orcs (fnsOf rows) F (j + 1)) f__law_found [.d (tupI (si sides)), .d (.int L)] h = .ok (.d (foundD sides L)) h := by
  generalize hC : orcs (fnsOf rows) F (j + 1) = C
  generalize hPL : places sides = PL at *
  have P0 : ∀ h, C.head?.isSome ∧ ev F C (.call 5 [(.var 0)]) [some (.d (tupI (si sides))), I L, none, none, none, none, none, none, none, none, none, none, none, none] h = .ok (.d (.list (PL.map pD))) h := fun h => by
    rw [← hC]
    refine ⟨rfl, ?_⟩
    have cp := c_places (F := F) (C := orcs (fnsOf rows) F j) (h := h) hF hs hl
    rw [hPL] at cp
    simp only [ev_call, es_cons, es_nil, e_var, List.getElem?_cons_zero, R.bind_ok, t_5, cp]
  have P0 := fun h => (P0 h).2
  have lenE : ∀ h, prmV .len [.d (.list (PL.map pD))] h = .ok (.d (.int (PL.length : Int))) h := fun h => by simp
  have rr : okRng (PL.length : Int) = true := okRng_of (by omega) (by omega)
  have r9 : okRng 9000 = true := okRng_of (by omega) (by omega)
  obtain ⟨c4, wi⟩ := walkI (F := F) (C := C) (PL := PL) (c0 := some (.d (tupI (si sides)))) (c1 := I L) (c4 := none) (c5 := none) (c6 := none) (c7 := none) (c8 := none) (c9 := none) (c10 := none) (c11 := none) (c12 := none) (c13 := none) nd (by omega)
  obtain ⟨z, h2, re, hz, hi0⟩ := rep_ev (F := F) (C := C) (N := PL.length) (σ := [some (.d (tupI (si sides))), I L, some (.d (.list (PL.map pD))), some (.ref 0), c4, none, none, none, none, none, none, none, none, none]) (x := .dct (.t (kvI PL 0))) (b := .prm .len [(.var 2)]) (fun h => by
    simp only [e_prm, es_cons, es_nil, e_var, List.getElem?_cons_succ, List.getElem?_cons_zero, R.bind_ok, lenE]) h0 (by omega)
  have hz2 := lt_of_get hz
  have h02 := lt_of_get hi0
  generalize hZ : List.replicate PL.length 0 = Z at *
  have f1 : fits 1 = true := fits_le (by omega)
  have hx3 : (h2 ++ [IO.lst [Val.ref z]])[h2.length]? = some (.lst [.ref z]) := app_last
  have hz3 : (h2 ++ [IO.lst [Val.ref z]])[z]? = some (txs Z) := by rw [app_get hz2]; exact hz
  have ix0 : ixV (.ref h2.length) (.d (.int 0)) (h2 ++ [IO.lst [Val.ref z]]) = .ok (.ref z) (h2 ++ [IO.lst [Val.ref z]]) := by
    refine ixV_at (vs := [.ref z]) ?_ (atD_0 _ _)
    unfold els
    simp only [hx3]
  have td : toD (.ref z) (h2 ++ [IO.lst [Val.ref z]]) = .ok (tupI (si Z)) (h2 ++ [IO.lst [Val.ref z]]) := by
    unfold toD
    simp only [hz3]
    rfl
  have dz : dspV true (.d (tupI (si Z))) (.d (.bool true)) (h2 ++ [IO.lst [Val.ref z]]) = .ok (.ref (h2 ++ [IO.lst [Val.ref z]]).length) (h2 ++ [IO.lst [Val.ref z]] ++ [.dct (.t (kvK [Z]))]) := by
    have k : keyT (tupI (si Z)) = some (kz Z) := keyT_p Z
    unfold dspV Dc.put
    simp only [if_true, k, List.length_nil]
    rfl
  have H4 : Hs PL (h2 ++ [IO.lst [Val.ref z]] ++ [.dct (.t (kvK [Z]))]) h2.length (h2 ++ [IO.lst [Val.ref z]]).length [Z] [Z] := by
    refine ⟨?_, ⟨[z], ?_, .cons ?_ .nil⟩, app_last, by rw [List.length_append]; simp⟩
    · rw [app_get (by rw [List.length_append]; omega), app_get h02]; exact hi0
    · rw [app_get (by rw [List.length_append]; simp)]; exact hx3
    · rw [app_get (by rw [List.length_append]; omega)]; exact hz3
  have hP : ∀ p ∈ PL, p.length = sides.length := fun p hp => by
    have := pl_row (sides := sides) sides.length (Nat.le_refl _) p
    rw [List.take_length, hPL] at this
    exact this hp
  obtain ⟨h', lf⟩ := loopF (F := F) (C := C) (c4 := c4) (PL := PL) (L := L) (m := sides.length) (sides := sides) (by omega) rfl hP (by omega) hL 9000 0 ([Z], [Z]) none none none none none none none _ H4 (fun s hs => by
    rw [List.mem_singleton.mp hs, ← hZ]; simp) (by simp; omega) (by simp; omega)
  have fd : foundD sides L = match srch PL L sides.length 9000 ([Z], [Z]) with
      | none => .none
      | some b => .bool b := by
    unfold foundD
    rw [hPL, hZ]
  have key : ∃ h', Ip.run F C f__law_found [.d (tupI (si sides)), .d (.int L)] [] = .ok (.d (foundD sides L)) h' := by
    refine ⟨h', ?_⟩
    show (match exs F C b__law_found [some (.d (tupI (si sides))), I L, none, none, none, none, none, none, none, none, none, none, none, none] [] with
      | .ok (.rt v) h1 => R.ok v h1
      | .ok (.nx _) h1 => .ok (.d .none) h1
      | .er e _ h1 => .er e h1
      | _ => .no) = _
    rw [lf_is, fd]
    simp only [xs_cons, xs_nil, x_set, P0, R.thn_ok, RF.thn_nx, List.set_cons_succ, List.set_cons_zero, e_dnew, if_true, List.length_nil, List.nil_append, x_for, ex_rng, e_prm, es_cons, es_nil, e_var, List.getElem?_cons_succ, List.getElem?_cons_zero, R.bind_ok, lenE, intV_i, rr, Int.toNat_natCast]
    rw [wi]
    simp only [RF.thn_nx, x_set, e_new, el_dsp, es_cons, es_nil, re, R.bind_ok, List.length_cons, List.length_nil, Nat.zero_add, f1, if_true, R.thn_ok, List.set_cons_succ, List.set_cons_zero, e_ddsp, e_frz, e_ix, e_var, List.getElem?_cons_succ, List.getElem?_cons_zero, e_lit, ix0, td, dz, x_for, ex_rng, intV_i, r9]
    rcases lf with ⟨b, q1, q2⟩ | ⟨σ', q1, q2⟩
    · rw [q1]
      have q2 : forL (turnV (.nm 7) (bdy F C bodyF)) (rangeL 0 (9000 : Int).toNat) _ _ = _ := q2
      rw [q2]
      rfl
    · rw [q1]
      have q2 : forL (turnV (.nm 7) (bdy F C bodyF)) (rangeL 0 (9000 : Int).toNat) _ _ = _ := q2
      rw [q2]
      simp only [RF.thn_nx, x_ret, e_lit, R.thn_ok, thn_rt]
  obtain ⟨h', e⟩ := key
  exact call_pd (ds := [tupI (si sides), .int L]) rfl rfl e
end
end K13

set_option linter.all false
set_option Elab.async false
set_option autoImplicit false
set_option maxRecDepth 100000
namespace K13
open PySem Ip
/-! ### the search tells the truth -/
def rs (PL : List Stt) (L i : Nat) : Nat := (PL.getD i []).sum % L
def tot (PL : List Stt) (L r : Nat) : Int := S PL.length fun i => if rs PL L i = r then 1 else 0
def fillN (sides : List Nat) (L : Nat) : Bool := sides.any fun s => decide (s % L = 0)
/-- the places of a bar -/
def bis (PL : List Stt) (L : Nat) (spot : Stt) (d : Nat) : List Nat := (barP L spot d).map (ixG PL)
def inB (PL : List Stt) (L : Nat) (spot : Stt) (d : Nat) : Bool := (barP L spot d).all fun q => (ixP PL q).isSome
def c2 (PL : List Stt) (L m : Nat) : Bool := (List.range PL.length).all fun j => (List.range m).all fun d => !inB PL L (PL.getD j []) d ||
  (decide (bis PL L (PL.getD j []) d).Nodup && (List.range L).all fun r => decide (((bis PL L (PL.getD j []) d).filter fun i => decide (rs PL L i = r)).length = 1))
def c3 (PL : List Stt) (L : Nat) (fl : Bool) : Bool := !((List.range L).all fun r => decide (tot PL L r = tot PL L 0)) || fl
def bse (PL : List Stt) (L d j : Nat) : Nat := ixG PL ((PL.getD j []).set d ((PL.getD j []).getD d 0 - (PL.getD j []).getD d 0 % L))
def c4 (PL : List Stt) (L d : Nat) : Bool := (List.range PL.length).all fun j => decide (bse PL L d j ≤ j) && decide (bse PL L d (bse PL L d j) = bse PL L d j) &&
  (!decide (bse PL L d j = j) || (inB PL L (PL.getD j []) d && (bis PL L (PL.getD j []) d).all (fun i => decide (bse PL L d i = j)) && (List.range PL.length).all fun i => !decide (bse PL L d i = j) || decide (i ∈ bis PL L (PL.getD j []) d)))
def chk (sides : List Nat) (L : Nat) : Bool := decide (places sides).Nodup && decide (0 < (places sides).length) && c2 (places sides) L sides.length && c3 (places sides) L (fillN sides L) &&
  (List.range sides.length).all fun d => !decide (sides.getD d 0 % L = 0) || c4 (places sides) L d

/-! #### what is covered -/
def cov (PL : List Stt) (L : Nat) (s : Stt) (r : Nat) : Int := S PL.length fun i => if s[i]? = some 0 then 0 else if rs PL L i = r then 1 else 0
theorem S_upd (f : Nat → Int) (i : Nat) (v : Int) : ∀ n, S n (updF f i v) = S n f + if i < n then v - f i else 0
  | 0 => by simp [S]
  | n + 1 => by
    show S n (updF f i v) + updF f i v n = S n f + f n + _
    rw [S_upd f i v n]
    unfold updF
    by_cases e : n = i
    · subst e
      rw [if_pos rfl, if_neg (by omega), if_pos (by omega)]; omega
    · rw [if_neg e]
      by_cases e2 : i < n
      · rw [if_pos e2, if_pos (by omega)]; omega
      · rw [if_neg e2, if_neg (by omega)]; omega
theorem cov_set {PL : List Stt} {L r i : Nat} {s : Stt} (hs : s.length = PL.length) (hi : s[i]? = some 0) : cov PL L (s.set i 1) r = cov PL L s r + if rs PL L i = r then 1 else 0 := by
  have hl : i < s.length := (List.getElem?_eq_some_iff.mp hi).1
  unfold cov
  have : (fun k => if (s.set i 1)[k]? = some 0 then (0 : Int) else if rs PL L k = r then 1 else 0) = updF (fun k => if s[k]? = some 0 then (0 : Int) else if rs PL L k = r then 1 else 0) i (if rs PL L i = r then 1 else 0) := by
    funext k
    unfold updF
    by_cases e : k = i
    · subst e
      rw [if_pos rfl, List.getElem?_set_self hl, if_neg (by simp)]
    · rw [if_neg e, List.getElem?_set_ne (fun z => e z.symm)]
  rw [this, S_upd, if_pos (by omega), if_pos hi]; omega
theorem cov_fold {PL : List Stt} {L r : Nat} : ∀ (is : List Nat) (s : Stt), s.length = PL.length → is.Nodup → (∀ i ∈ is, s[i]? = some 0) → cov PL L (is.foldl (fun s i => s.set i 1) s) r = cov PL L s r + ((is.filter fun i => decide (rs PL L i = r)).length : Nat)
  | [], s, _, _, _ => by simp
  | i :: is, s, hs, nd, h => by
    rw [List.nodup_cons] at nd
    rw [List.foldl_cons, cov_fold is (s.set i 1) (by rw [List.length_set]; exact hs) nd.2 (fun k hk => by
      rw [List.getElem?_set_ne (fun z => nd.1 (by rw [z]; exact hk))]
      exact h k (List.mem_cons_of_mem _ hk)), cov_set hs (h i List.mem_cons_self), List.filter_cons]
    by_cases e : rs PL L i = r
    · simp only [e, if_true, decide_true, List.length_cons]
      omega
    · simp only [e, if_false, decide_false, Bool.false_eq_true]
      omega
theorem fold_map {PL : List Stt} (f : Stt → Nat) : ∀ (qs : List Stt) (s : Stt), qs.foldl (fun s q => s.set (f q) 1) s = (qs.map f).foldl (fun s i => s.set i 1) s
  | [], s => rfl
  | q :: qs, s => by rw [List.foldl_cons, List.map_cons, List.foldl_cons, fold_map (PL := PL) f qs]
theorem ok_ix {PL : List Stt} {used q : Stt} (h : okP PL used q = true) : (ixP PL q).isSome = true ∧ used[ixG PL q]? = some 0 := by
  unfold okP at h
  unfold ixG
  cases e : ixP PL q with
  | none => rw [e] at h; cases h
  | some i =>
    rw [e] at h
    exact ⟨rfl, of_decide_eq_true h⟩
theorem try_ok {PL : List Stt} {L d : Nat} {used spot s : Stt} (h : tryS PL L used spot d = some s) : inB PL L spot d = true ∧ (∀ i ∈ bis PL L spot d, used[i]? = some 0) ∧ s = (bis PL L spot d).foldl (fun s i => s.set i 1) used := by
  unfold tryS at h
  split at h
  · rename_i ha
    cases h
    rw [List.all_eq_true] at ha
    refine ⟨List.all_eq_true.mpr fun q hq => (ok_ix (ha q hq)).1, fun i hi => ?_, fold_map (PL := PL) _ _ _⟩
    obtain ⟨q, hq, rfl⟩ := List.mem_map.mp hi
    exact (ok_ix (ha q hq)).2
  · cases h
theorem try_of {PL : List Stt} {L d : Nat} {used spot : Stt} (h1 : inB PL L spot d = true) (h2 : ∀ i ∈ bis PL L spot d, used[i]? = some 0) : tryS PL L used spot d = some ((bis PL L spot d).foldl (fun s i => s.set i 1) used) := by
  have ha : (barP L spot d).all (okP PL used) = true := by
    rw [List.all_eq_true]
    intro q hq
    have a := List.all_eq_true.mp h1 q hq
    have b := h2 (ixG PL q) (List.mem_map.mpr ⟨q, hq, rfl⟩)
    unfold okP
    unfold ixG at b
    cases e : ixP PL q with
    | none => rw [e] at a; cases a
    | some i =>
      rw [e] at b
      exact decide_eq_true b
  unfold tryS
  rw [if_pos ha]
  unfold bis
  rw [← fold_map (PL := PL)]
structure Good (PL : List Stt) (L : Nat) (s : Stt) : Prop where
  len : s.length = PL.length
  cov : ∀ r, r < L → cov PL L s r = cov PL L s 0
section
variable {PL : List Stt} {L m : Nat}
theorem good_step (h2 : c2 PL L m = true) (hL : 0 < L) {s s' : Stt} {j d : Nat} (g : Good PL L s) (hj : j < PL.length) (hd : d < m) (h : tryS PL L s (PL.getD j []) d = some s') : Good PL L s' := by
  obtain ⟨a, b, e⟩ := try_ok h
  have q := List.all_eq_true.mp (List.all_eq_true.mp h2 j (List.mem_range.mpr hj)) d (List.mem_range.mpr hd)
  rw [a] at q
  simp only [Bool.not_true, Bool.false_or, Bool.and_eq_true, decide_eq_true_eq, List.all_eq_true] at q
  have k : ∀ r, r < L → cov PL L s' r = cov PL L s r + 1 := fun r hr => by
    rw [e, cov_fold _ s g.len q.1 b, q.2 r (List.mem_range.mpr hr)]; rfl
  exact ⟨by rw [try_len h]; exact g.len, fun r hr => by rw [k r hr, k 0 hL, g.cov r hr]⟩
theorem good_full {s : Stt} {fl : Bool} (g : Good PL L s) (hz : 0 ∉ s) (h3 : c3 PL L fl = true) : fl = true := by
  have k : ∀ r, cov PL L s r = tot PL L r := fun r => S_ext fun i hi => by
    rw [if_neg]
    intro z
    exact hz (List.mem_of_getElem? z)
  unfold c3 at h3
  have : ((List.range L).all fun r => decide (tot PL L r = tot PL L 0)) = true := by
    rw [List.all_eq_true]
    intro r hr
    rw [← k r, ← k 0]
    exact decide_eq_true (g.cov r (List.mem_range.mp hr))
  rw [this] at h3
  simpa using h3
theorem good_zero : Good PL L (List.replicate PL.length 0) := by
  refine ⟨by simp, fun r hr => ?_⟩
  have k : ∀ r, cov PL L (List.replicate PL.length 0) r = 0 := fun r => by
    have : cov PL L (List.replicate PL.length 0) r = S PL.length fun _ => 0 := S_ext fun i hi => by simp [hi]
    rw [this]
    have z : ∀ n, S n (fun _ => 0) = 0 := fun n => by
      induction n with
      | zero => rfl
      | succ n ih => show S n (fun _ => 0) + 0 = 0; rw [ih]; rfl
    exact z _
  rw [k, k]
/-! #### what is known is closed -/
def Clo (PL : List Stt) (L m : Nat) (line known : List Stt) (s : Stt) : Prop := s ∈ line ∨ (0 ∈ s ∧ ∀ d, d < m → ∀ s', tryS PL L s (spotS PL s) d = some s' → s' ∈ known)
theorem add_mem {x : List Stt × List Stt} {o : Option Stt} : (∀ s ∈ x.1, s ∈ (addS x o).1) ∧ (∀ s ∈ x.2, s ∈ (addS x o).2) ∧ (∀ s ∈ (addS x o).2, s ∈ x.2 ∨ s ∈ (addS x o).1) ∧ (∀ s, o = some s → s ∈ (addS x o).2) ∧ ∀ s ∈ (addS x o).1, s ∈ x.1 ∨ o = some s := by
  cases o with
  | none => exact ⟨fun s h => h, fun s h => h, fun s h => .inl h, fun s h => (by cases h), fun s h => .inl h⟩
  | some t =>
    by_cases e : t ∈ x.2
    · have : addS x (some t) = x := if_pos e
      rw [this]
      exact ⟨fun s h => h, fun s h => h, fun s h => .inl h, fun s h => (by cases h; exact e), fun s h => .inl h⟩
    · have : addS x (some t) = (x.1 ++ [t], x.2 ++ [t]) := if_neg e
      rw [this]
      refine ⟨fun s h => List.mem_append_left _ h, fun s h => List.mem_append_left _ h, fun s h => ?_, fun s h => (by cases h; exact List.mem_append_right _ (List.mem_singleton.mpr rfl)), fun s h => ?_⟩
      · rcases List.mem_append.mp h with h | h
        · exact .inl h
        · exact .inr (List.mem_append_right _ h)
      · rcases List.mem_append.mp h with h | h
        · exact .inl h
        · exact .inr (by rw [List.mem_singleton.mp h])
theorem stepN_mem {used spot : Stt} {x : List Stt × List Stt} : ∀ m, (∀ s ∈ x.1, s ∈ (stepN PL L used spot x m).1) ∧ (∀ s ∈ x.2, s ∈ (stepN PL L used spot x m).2) ∧ (∀ s ∈ (stepN PL L used spot x m).2, s ∈ x.2 ∨ s ∈ (stepN PL L used spot x m).1) ∧
    (∀ d, d < m → ∀ s, tryS PL L used spot d = some s → s ∈ (stepN PL L used spot x m).2) ∧ ∀ s ∈ (stepN PL L used spot x m).1, s ∈ x.1 ∨ ∃ d, d < m ∧ tryS PL L used spot d = some s
  | 0 => ⟨fun s h => h, fun s h => h, fun s h => .inl h, fun d hd => absurd hd (Nat.not_lt_zero _), fun s h => .inl h⟩
  | m + 1 => by
    rw [stepN_succ]
    obtain ⟨a1, a2, a3, a4, a5⟩ := stepN_mem (used := used) (spot := spot) (x := x) m
    obtain ⟨b1, b2, b3, b4, b5⟩ := add_mem (x := stepN PL L used spot x m) (o := tryS PL L used spot m)
    refine ⟨fun s h => b1 s (a1 s h), fun s h => b2 s (a2 s h), fun s h => ?_, fun d hd s h => ?_, fun s h => ?_⟩
    · rcases b3 s h with q | q
      · exact (a3 s q).imp id (b1 s)
      · exact .inr q
    · by_cases e : d = m
      · subst e; exact b4 s h
      · exact b2 s (a4 d (by omega) s h)
    · rcases b5 s h with q | q
      · exact (a5 s q).imp id fun ⟨d, hd, e⟩ => ⟨d, by omega, e⟩
      · exact .inr ⟨m, by omega, q⟩
/-- one turn keeps what holds -/
structure Iv (PL : List Stt) (L m : Nat) (x : List Stt × List Stt) : Prop where
  good : ∀ s ∈ x.1, Good PL L s
  clo : ∀ s ∈ x.2, Clo PL L m x.1 x.2 s
  zero : List.replicate PL.length 0 ∈ x.2
theorem spot_at {s : Stt} (hl : s.length = PL.length) (hz : 0 ∈ s) : ∃ j, s.findIdx? (· == 0) = some j ∧ j < PL.length ∧ spotS PL s = PL.getD j [] := by
  cases e : s.findIdx? (· == 0) with
  | none =>
    rw [List.findIdx?_eq_none_iff] at e
    have := e 0 hz
    simp at this
  | some j =>
    have := (List.findIdx?_eq_some_iff_findIdx_eq.mp e).1
    refine ⟨j, rfl, by omega, ?_⟩
    unfold spotS
    rw [e]; rfl
theorem iv_turn (h2 : c2 PL L m = true) (hL : 0 < L) {init known : List Stt} {used : Stt} (v : Iv PL L m (init ++ [used], known)) (hz : 0 ∈ used) : Iv PL L m (stepN PL L used (spotS PL used) (init, known) m) := by
  obtain ⟨a1, a2, a3, a4, a5⟩ := stepN_mem (PL := PL) (L := L) (used := used) (spot := spotS PL used) (x := (init, known)) m
  have gu := v.good used (by simp)
  obtain ⟨j, _, hj, sp⟩ := spot_at gu.len hz
  refine ⟨fun s hs => ?_, fun s hs => ?_, a2 _ v.zero⟩
  · rcases a5 s hs with q | ⟨d, hd, e⟩
    · exact v.good s (List.mem_append_left _ q)
    · rw [sp] at e
      exact good_step h2 hL gu hj hd e
  · rcases a3 s hs with q | q
    · rcases v.clo s q with c | ⟨c, c'⟩
      · rcases List.mem_append.mp c with c | c
        · exact .inl (a1 s c)
        · rw [List.mem_singleton.mp c]
          exact .inr ⟨hz, fun d hd s' e => a4 d hd s' e⟩
      · exact .inr ⟨c, fun d hd s' e => a2 s' (c' d hd s' e)⟩
    · exact .inl q
/-! #### a length that divides a side: a filling is found -/
def Al (PL : List Stt) (L d : Nat) (s : Stt) : Prop := s.length = PL.length ∧ ∀ i, i < PL.length → (s[i]? = some 0 ↔ s[bse PL L d i]? = some 0)
theorem fold_at : ∀ (is : List Nat) (s : Stt) (k : Nat), k < s.length → (is.foldl (fun s i => s.set i 1) s)[k]? = if k ∈ is then some 1 else s[k]?
  | [], s, k, _ => by simp
  | i :: is, s, k, hk => by
    rw [List.foldl_cons, fold_at is (s.set i 1) k (by rw [List.length_set]; exact hk)]
    by_cases e : k ∈ is
    · rw [if_pos e, if_pos (List.mem_cons_of_mem _ e)]
    · rw [if_neg e]
      by_cases e2 : i = k
      · subst e2
        rw [List.getElem?_set_self hk, if_pos List.mem_cons_self]
      · rw [List.getElem?_set_ne e2, if_neg (fun z => (List.mem_cons.mp z).elim (fun y => e2 y.symm) e)]
def zs (s : Stt) : Nat := s.countP (· == 0)
theorem zs_set : ∀ (s : Stt) (i : Nat), zs (s.set i 1) ≤ zs s
  | [], i => by simp
  | x :: s, 0 => by
    unfold zs
    rw [List.set_cons_zero, List.countP_cons, List.countP_cons]
    simp
  | x :: s, i + 1 => by
    have := zs_set s i
    unfold zs at this ⊢
    rw [List.set_cons_succ, List.countP_cons, List.countP_cons]
    omega
theorem zs_set0 : ∀ (s : Stt) (i : Nat), s[i]? = some 0 → zs (s.set i 1) < zs s
  | [], i, h => by simp at h
  | x :: s, 0, h => by
    have h : some x = some 0 := h
    cases h
    unfold zs
    rw [List.set_cons_zero, List.countP_cons, List.countP_cons]
    simp
  | x :: s, i + 1, h => by
    have := zs_set0 s i h
    unfold zs at this ⊢
    rw [List.set_cons_succ, List.countP_cons, List.countP_cons]
    omega
theorem zs_fold : ∀ (is : List Nat) (s : Stt), zs (is.foldl (fun s i => s.set i 1) s) ≤ zs s
  | [], s => Nat.le_refl _
  | i :: is, s => by
    rw [List.foldl_cons]
    exact Nat.le_trans (zs_fold is _) (zs_set s i)
theorem zs_fold0 : ∀ (is : List Nat) (s : Stt) (k : Nat), k ∈ is → s[k]? = some 0 → zs (is.foldl (fun s i => s.set i 1) s) < zs s
  | [], s, k, h, _ => by cases h
  | i :: is, s, k, h, hk => by
    rw [List.foldl_cons]
    by_cases e : i = k
    · subst e
      exact Nat.lt_of_le_of_lt (zs_fold is _) (zs_set0 s i hk)
    · have h := (List.mem_cons.mp h).resolve_left fun z => e z.symm
      exact Nat.lt_of_lt_of_le (zs_fold0 is (s.set i 1) k h (by rw [List.getElem?_set_ne e]; exact hk)) (zs_set s i)
theorem no_end {d : Nat} (hd : d < m) (h4 : c4 PL L d = true) {known : List Stt} (clo : ∀ s ∈ known, Clo PL L m [] known s) : ∀ (n : Nat) (s : Stt), zs s ≤ n → s ∈ known → ¬ Al PL L d s
  | n, s, hn, hs, al => by
    obtain ⟨hz, cl⟩ := (clo s hs).resolve_left fun z => by cases z
    obtain ⟨j, hj, hjl, sp⟩ := spot_at al.1 hz
    obtain ⟨hjs, hj0, hjm⟩ := List.findIdx?_eq_some_iff_getElem.mp hj
    have hj0 : s[j]? = some 0 := by rw [List.getElem?_eq_getElem hjs]; simpa using hj0
    have q : ∀ j, j < PL.length → _ := fun j hj => List.all_eq_true.mp h4 j (List.mem_range.mpr hj)
    simp only [Bool.and_eq_true, decide_eq_true_eq, Bool.or_eq_true, Bool.not_eq_true', decide_eq_false_iff_not, List.all_eq_true] at q
    obtain ⟨⟨q1, q2⟩, q3⟩ := q j hjl
    have bj : bse PL L d j = j := by
      rcases Nat.lt_or_ge (bse PL L d j) j with z | z
      · exfalso
        have a := (al.2 j hjl).mp hj0
        have b := hjm _ z
        rw [List.getElem?_eq_getElem (by omega)] at a
        have a := Option.some.inj a
        rw [a] at b
        simp at b
      · omega
    obtain ⟨⟨r1, r2⟩, r3⟩ := q3.resolve_left fun z => z bj
    have zr : ∀ i ∈ bis PL L (PL.getD j []) d, s[i]? = some 0 := fun i hi => by
      have hi2 := r2 i hi
      have hil : i < PL.length := by
        obtain ⟨p, hp, rfl⟩ := List.mem_map.mp hi
        have := List.all_eq_true.mp r1 p hp
        obtain ⟨k, hk⟩ := Option.isSome_iff_exists.mp this
        unfold ixG
        rw [hk]
        exact ix_lt hk
      rw [al.2 i hil, hi2]; exact hj0
    have tr := try_of r1 zr
    have kn := cl d hd _ (by rw [sp]; exact tr)
    have jm : j ∈ bis PL L (PL.getD j []) d := (r3 j (List.mem_range.mpr hjl)).resolve_left fun z => z bj
    have lt := zs_fold0 (bis PL L (PL.getD j []) d) s j jm hj0
    cases n with
    | zero => omega
    | succ n =>
      refine no_end hd h4 clo n _ (by omega) kn ⟨by rw [try_len tr]; exact al.1, fun i hi => ?_⟩
      obtain ⟨⟨p1, p2⟩, p3⟩ := q i hi
      have b1 : bse PL L d i < s.length := by rw [al.1]; omega
      rw [fold_at _ s i (by rw [al.1]; exact hi), fold_at _ s _ b1]
      have key : i ∈ bis PL L (PL.getD j []) d ↔ bse PL L d i ∈ bis PL L (PL.getD j []) d := by
        constructor
        · intro h
          have := r2 i h
          rw [this]; exact jm
        · intro h
          have := r2 _ h
          rw [p2] at this
          exact (r3 i (List.mem_range.mpr hi)).resolve_left fun z => z this
      by_cases e : i ∈ bis PL L (PL.getD j []) d
      · rw [if_pos e, if_pos (key.mp e)]
      · rw [if_neg e, if_neg (fun z => e (key.mpr z))]
        exact al.2 i hi
theorem al_zero {d : Nat} (h4 : c4 PL L d = true) : Al PL L d (List.replicate PL.length 0) := by
  refine ⟨by simp, fun i hi => ?_⟩
  have q := List.all_eq_true.mp h4 i (List.mem_range.mpr hi)
  simp only [Bool.and_eq_true, decide_eq_true_eq] at q
  have : bse PL L d i < PL.length := by have := q.1.1; omega
  simp [hi, this]
theorem srch_ok {fl : Bool} (h2 : c2 PL L m = true) (h3 : c3 PL L fl = true) (hL : 0 < L) (h4 : fl = true → ∃ d, d < m ∧ c4 PL L d = true) : ∀ (n : Nat) (x : List Stt × List Stt) (b : Bool), Iv PL L m x → srch PL L m n x = some b → b = fl
  | 0, x, b, _, h => by cases h
  | n + 1, x, b, v, h => by
    rcases List.eq_nil_or_concat x.1 with hx | ⟨init, used, hx⟩
    · unfold srch at h
      rw [hx] at h
      have h : some false = some b := h
      cases h
      cases hf : fl with
      | false => rfl
      | true =>
        exfalso
        obtain ⟨d, hd, c⟩ := h4 hf
        exact no_end hd c (fun s hs => by have := v.clo s hs; rw [hx] at this; exact this) _ _ (Nat.le_refl _) v.zero (al_zero c)
    · rw [List.concat_eq_append] at hx
      have gl : x.1.getLast? = some used := by rw [hx]; simp
      have dl : x.1.dropLast = init := by rw [hx]; simp
      have v1 : Iv PL L m (init ++ [used], x.2) := by
        have e : x = (init ++ [used], x.2) := by rw [← hx]
        rw [← e]; exact v
      have h : (match x.1.getLast? with
          | none => some false
          | some used => if 0 ∈ used then srch PL L m n ((List.range m).foldl (stepS PL L used (spotS PL used)) (x.1.dropLast, x.2)) else some true) = some b := h
      rw [gl, dl] at h
      have h : (if 0 ∈ used then srch PL L m n (stepN PL L used (spotS PL used) (init, x.2) m) else some true) = some b := h
      by_cases hz : 0 ∈ used
      · rw [if_pos hz] at h
        exact srch_ok h2 h3 hL h4 n _ b (iv_turn h2 hL v1 hz) h
      · rw [if_neg hz] at h
        cases h
        exact (good_full (v1.good used (by simp)) hz h3).symm
end
/-- THE SEARCH: what it finds is so -/
theorem found_ok {sides : List Nat} {L : Nat} (hL : 0 < L) (h : chk sides L = true) : foundD sides L = .none ∨ foundD sides L = .bool (fillN sides L) := by
  unfold chk at h
  simp only [Bool.and_eq_true, decide_eq_true_eq, List.all_eq_true, Bool.or_eq_true, Bool.not_eq_true', decide_eq_false_iff_not] at h
  obtain ⟨⟨⟨⟨h0, h1⟩, h2⟩, h3⟩, h4⟩ := h
  unfold foundD
  cases e : srch (places sides) L sides.length 9000 ([List.replicate (places sides).length 0], [List.replicate (places sides).length 0]) with
  | none => exact .inl rfl
  | some b =>
    right
    rw [srch_ok h2 h3 hL (fun hf => by
      unfold fillN at hf
      rw [List.any_eq_true] at hf
      obtain ⟨s, hs, e⟩ := hf
      obtain ⟨d, hd, rfl⟩ := List.mem_iff_getElem.mp hs
      refine ⟨d, hd, (h4 d (List.mem_range.mpr hd)).resolve_left fun z => z ?_⟩
      rw [List.getD_eq_getElem?_getD, List.getElem?_eq_getElem hd]
      exact of_decide_eq_true e) 9000 _ b ⟨fun s hs => by rw [List.mem_singleton.mp hs]; exact good_zero, fun s hs => .inl hs, List.mem_singleton.mpr rfl⟩ e]
end K13

set_option linter.all false
set_option Elab.async false
set_option autoImplicit false
set_option maxRecDepth 100000
namespace K13
open PySem Ip
/-! ### small boxes, all of them -/
def smB (sides : List Nat) (L : Nat) : Bool := (!decide ((places sides).length < 26) || chk sides L) && ((List.range L).all fun r => decide (tot (places sides) L r = fin L sides r))
def n4 : List Nat := [1, 2, 3, 4]
theorem s1 : (n4.all fun L => smB [1] L) = true := by decide +kernel
theorem s11 : (n4.all fun L => smB [1, 1] L) = true := by decide +kernel
theorem s111 : (n4.all fun L => smB [1, 1, 1] L) = true := by decide +kernel
theorem s112 : (n4.all fun L => smB [1, 1, 2] L) = true := by decide +kernel
theorem s113 : (n4.all fun L => smB [1, 1, 3] L) = true := by decide +kernel
theorem s114 : (n4.all fun L => smB [1, 1, 4] L) = true := by decide +kernel
theorem s12 : (n4.all fun L => smB [1, 2] L) = true := by decide +kernel
theorem s121 : (n4.all fun L => smB [1, 2, 1] L) = true := by decide +kernel
theorem s122 : (n4.all fun L => smB [1, 2, 2] L) = true := by decide +kernel
theorem s123 : (n4.all fun L => smB [1, 2, 3] L) = true := by decide +kernel
theorem s124 : (n4.all fun L => smB [1, 2, 4] L) = true := by decide +kernel
theorem s13 : (n4.all fun L => smB [1, 3] L) = true := by decide +kernel
theorem s131 : (n4.all fun L => smB [1, 3, 1] L) = true := by decide +kernel
theorem s132 : (n4.all fun L => smB [1, 3, 2] L) = true := by decide +kernel
theorem s133 : (n4.all fun L => smB [1, 3, 3] L) = true := by decide +kernel
theorem s1341 : smB [1, 3, 4] 1 = true := by decide +kernel
theorem s1342 : smB [1, 3, 4] 2 = true := by decide +kernel
theorem s1343 : smB [1, 3, 4] 3 = true := by decide +kernel
theorem s1344 : smB [1, 3, 4] 4 = true := by decide +kernel
theorem s134 : (n4.all fun L => smB [1, 3, 4] L) = true := by
  show (smB [1, 3, 4] 1 && (smB [1, 3, 4] 2 && (smB [1, 3, 4] 3 && (smB [1, 3, 4] 4 && true)))) = true
  rw [s1341, s1342, s1343, s1344]; rfl
theorem s14 : (n4.all fun L => smB [1, 4] L) = true := by decide +kernel
theorem s141 : (n4.all fun L => smB [1, 4, 1] L) = true := by decide +kernel
theorem s142 : (n4.all fun L => smB [1, 4, 2] L) = true := by decide +kernel
theorem s1431 : smB [1, 4, 3] 1 = true := by decide +kernel
theorem s1432 : smB [1, 4, 3] 2 = true := by decide +kernel
theorem s1433 : smB [1, 4, 3] 3 = true := by decide +kernel
theorem s1434 : smB [1, 4, 3] 4 = true := by decide +kernel
theorem s143 : (n4.all fun L => smB [1, 4, 3] L) = true := by
  show (smB [1, 4, 3] 1 && (smB [1, 4, 3] 2 && (smB [1, 4, 3] 3 && (smB [1, 4, 3] 4 && true)))) = true
  rw [s1431, s1432, s1433, s1434]; rfl
theorem s1441 : smB [1, 4, 4] 1 = true := by decide +kernel
theorem s1442 : smB [1, 4, 4] 2 = true := by decide +kernel
theorem s1443 : smB [1, 4, 4] 3 = true := by decide +kernel
theorem s1444 : smB [1, 4, 4] 4 = true := by decide +kernel
theorem s144 : (n4.all fun L => smB [1, 4, 4] L) = true := by
  show (smB [1, 4, 4] 1 && (smB [1, 4, 4] 2 && (smB [1, 4, 4] 3 && (smB [1, 4, 4] 4 && true)))) = true
  rw [s1441, s1442, s1443, s1444]; rfl
theorem s2 : (n4.all fun L => smB [2] L) = true := by decide +kernel
theorem s21 : (n4.all fun L => smB [2, 1] L) = true := by decide +kernel
theorem s211 : (n4.all fun L => smB [2, 1, 1] L) = true := by decide +kernel
theorem s212 : (n4.all fun L => smB [2, 1, 2] L) = true := by decide +kernel
theorem s213 : (n4.all fun L => smB [2, 1, 3] L) = true := by decide +kernel
theorem s214 : (n4.all fun L => smB [2, 1, 4] L) = true := by decide +kernel
theorem s22 : (n4.all fun L => smB [2, 2] L) = true := by decide +kernel
theorem s221 : (n4.all fun L => smB [2, 2, 1] L) = true := by decide +kernel
theorem s222 : (n4.all fun L => smB [2, 2, 2] L) = true := by decide +kernel
theorem s2231 : smB [2, 2, 3] 1 = true := by decide +kernel
theorem s2232 : smB [2, 2, 3] 2 = true := by decide +kernel
theorem s2233 : smB [2, 2, 3] 3 = true := by decide +kernel
theorem s2234 : smB [2, 2, 3] 4 = true := by decide +kernel
theorem s223 : (n4.all fun L => smB [2, 2, 3] L) = true := by
  show (smB [2, 2, 3] 1 && (smB [2, 2, 3] 2 && (smB [2, 2, 3] 3 && (smB [2, 2, 3] 4 && true)))) = true
  rw [s2231, s2232, s2233, s2234]; rfl
theorem s2241 : smB [2, 2, 4] 1 = true := by decide +kernel
theorem s2242 : smB [2, 2, 4] 2 = true := by decide +kernel
theorem s2243 : smB [2, 2, 4] 3 = true := by decide +kernel
theorem s2244 : smB [2, 2, 4] 4 = true := by decide +kernel
theorem s224 : (n4.all fun L => smB [2, 2, 4] L) = true := by
  show (smB [2, 2, 4] 1 && (smB [2, 2, 4] 2 && (smB [2, 2, 4] 3 && (smB [2, 2, 4] 4 && true)))) = true
  rw [s2241, s2242, s2243, s2244]; rfl
theorem s23 : (n4.all fun L => smB [2, 3] L) = true := by decide +kernel
theorem s231 : (n4.all fun L => smB [2, 3, 1] L) = true := by decide +kernel
theorem s2321 : smB [2, 3, 2] 1 = true := by decide +kernel
theorem s2322 : smB [2, 3, 2] 2 = true := by decide +kernel
theorem s2323 : smB [2, 3, 2] 3 = true := by decide +kernel
theorem s2324 : smB [2, 3, 2] 4 = true := by decide +kernel
theorem s232 : (n4.all fun L => smB [2, 3, 2] L) = true := by
  show (smB [2, 3, 2] 1 && (smB [2, 3, 2] 2 && (smB [2, 3, 2] 3 && (smB [2, 3, 2] 4 && true)))) = true
  rw [s2321, s2322, s2323, s2324]; rfl
theorem s2331 : smB [2, 3, 3] 1 = true := by decide +kernel
theorem s2332 : smB [2, 3, 3] 2 = true := by decide +kernel
theorem s2333 : smB [2, 3, 3] 3 = true := by decide +kernel
theorem s2334 : smB [2, 3, 3] 4 = true := by decide +kernel
theorem s233 : (n4.all fun L => smB [2, 3, 3] L) = true := by
  show (smB [2, 3, 3] 1 && (smB [2, 3, 3] 2 && (smB [2, 3, 3] 3 && (smB [2, 3, 3] 4 && true)))) = true
  rw [s2331, s2332, s2333, s2334]; rfl
theorem s2341 : smB [2, 3, 4] 1 = true := by decide +kernel
theorem s2342 : smB [2, 3, 4] 2 = true := by decide +kernel
theorem s2343 : smB [2, 3, 4] 3 = true := by decide +kernel
theorem s2344 : smB [2, 3, 4] 4 = true := by decide +kernel
theorem s234 : (n4.all fun L => smB [2, 3, 4] L) = true := by
  show (smB [2, 3, 4] 1 && (smB [2, 3, 4] 2 && (smB [2, 3, 4] 3 && (smB [2, 3, 4] 4 && true)))) = true
  rw [s2341, s2342, s2343, s2344]; rfl
theorem s24 : (n4.all fun L => smB [2, 4] L) = true := by decide +kernel
theorem s241 : (n4.all fun L => smB [2, 4, 1] L) = true := by decide +kernel
theorem s2421 : smB [2, 4, 2] 1 = true := by decide +kernel
theorem s2422 : smB [2, 4, 2] 2 = true := by decide +kernel
theorem s2423 : smB [2, 4, 2] 3 = true := by decide +kernel
theorem s2424 : smB [2, 4, 2] 4 = true := by decide +kernel
theorem s242 : (n4.all fun L => smB [2, 4, 2] L) = true := by
  show (smB [2, 4, 2] 1 && (smB [2, 4, 2] 2 && (smB [2, 4, 2] 3 && (smB [2, 4, 2] 4 && true)))) = true
  rw [s2421, s2422, s2423, s2424]; rfl
theorem s2431 : smB [2, 4, 3] 1 = true := by decide +kernel
theorem s2432 : smB [2, 4, 3] 2 = true := by decide +kernel
theorem s2433 : smB [2, 4, 3] 3 = true := by decide +kernel
theorem s2434 : smB [2, 4, 3] 4 = true := by decide +kernel
theorem s243 : (n4.all fun L => smB [2, 4, 3] L) = true := by
  show (smB [2, 4, 3] 1 && (smB [2, 4, 3] 2 && (smB [2, 4, 3] 3 && (smB [2, 4, 3] 4 && true)))) = true
  rw [s2431, s2432, s2433, s2434]; rfl
theorem s244 : (n4.all fun L => smB [2, 4, 4] L) = true := by decide +kernel
theorem s3 : (n4.all fun L => smB [3] L) = true := by decide +kernel
theorem s31 : (n4.all fun L => smB [3, 1] L) = true := by decide +kernel
theorem s311 : (n4.all fun L => smB [3, 1, 1] L) = true := by decide +kernel
theorem s312 : (n4.all fun L => smB [3, 1, 2] L) = true := by decide +kernel
theorem s313 : (n4.all fun L => smB [3, 1, 3] L) = true := by decide +kernel
theorem s3141 : smB [3, 1, 4] 1 = true := by decide +kernel
theorem s3142 : smB [3, 1, 4] 2 = true := by decide +kernel
theorem s3143 : smB [3, 1, 4] 3 = true := by decide +kernel
theorem s3144 : smB [3, 1, 4] 4 = true := by decide +kernel
theorem s314 : (n4.all fun L => smB [3, 1, 4] L) = true := by
  show (smB [3, 1, 4] 1 && (smB [3, 1, 4] 2 && (smB [3, 1, 4] 3 && (smB [3, 1, 4] 4 && true)))) = true
  rw [s3141, s3142, s3143, s3144]; rfl
theorem s32 : (n4.all fun L => smB [3, 2] L) = true := by decide +kernel
theorem s321 : (n4.all fun L => smB [3, 2, 1] L) = true := by decide +kernel
theorem s3221 : smB [3, 2, 2] 1 = true := by decide +kernel
theorem s3222 : smB [3, 2, 2] 2 = true := by decide +kernel
theorem s3223 : smB [3, 2, 2] 3 = true := by decide +kernel
theorem s3224 : smB [3, 2, 2] 4 = true := by decide +kernel
theorem s322 : (n4.all fun L => smB [3, 2, 2] L) = true := by
  show (smB [3, 2, 2] 1 && (smB [3, 2, 2] 2 && (smB [3, 2, 2] 3 && (smB [3, 2, 2] 4 && true)))) = true
  rw [s3221, s3222, s3223, s3224]; rfl
theorem s3231 : smB [3, 2, 3] 1 = true := by decide +kernel
theorem s3232 : smB [3, 2, 3] 2 = true := by decide +kernel
theorem s3233 : smB [3, 2, 3] 3 = true := by decide +kernel
theorem s3234 : smB [3, 2, 3] 4 = true := by decide +kernel
theorem s323 : (n4.all fun L => smB [3, 2, 3] L) = true := by
  show (smB [3, 2, 3] 1 && (smB [3, 2, 3] 2 && (smB [3, 2, 3] 3 && (smB [3, 2, 3] 4 && true)))) = true
  rw [s3231, s3232, s3233, s3234]; rfl
theorem s3241 : smB [3, 2, 4] 1 = true := by decide +kernel
theorem s3242 : smB [3, 2, 4] 2 = true := by decide +kernel
theorem s3243 : smB [3, 2, 4] 3 = true := by decide +kernel
theorem s3244 : smB [3, 2, 4] 4 = true := by decide +kernel
theorem s324 : (n4.all fun L => smB [3, 2, 4] L) = true := by
  show (smB [3, 2, 4] 1 && (smB [3, 2, 4] 2 && (smB [3, 2, 4] 3 && (smB [3, 2, 4] 4 && true)))) = true
  rw [s3241, s3242, s3243, s3244]; rfl
theorem s33 : (n4.all fun L => smB [3, 3] L) = true := by decide +kernel
theorem s331 : (n4.all fun L => smB [3, 3, 1] L) = true := by decide +kernel
theorem s3321 : smB [3, 3, 2] 1 = true := by decide +kernel
theorem s3322 : smB [3, 3, 2] 2 = true := by decide +kernel
theorem s3323 : smB [3, 3, 2] 3 = true := by decide +kernel
theorem s3324 : smB [3, 3, 2] 4 = true := by decide +kernel
theorem s332 : (n4.all fun L => smB [3, 3, 2] L) = true := by
  show (smB [3, 3, 2] 1 && (smB [3, 3, 2] 2 && (smB [3, 3, 2] 3 && (smB [3, 3, 2] 4 && true)))) = true
  rw [s3321, s3322, s3323, s3324]; rfl
theorem s333 : (n4.all fun L => smB [3, 3, 3] L) = true := by decide +kernel
theorem s334 : (n4.all fun L => smB [3, 3, 4] L) = true := by decide +kernel
theorem s34 : (n4.all fun L => smB [3, 4] L) = true := by decide +kernel
theorem s3411 : smB [3, 4, 1] 1 = true := by decide +kernel
theorem s3412 : smB [3, 4, 1] 2 = true := by decide +kernel
theorem s3413 : smB [3, 4, 1] 3 = true := by decide +kernel
theorem s3414 : smB [3, 4, 1] 4 = true := by decide +kernel
theorem s341 : (n4.all fun L => smB [3, 4, 1] L) = true := by
  show (smB [3, 4, 1] 1 && (smB [3, 4, 1] 2 && (smB [3, 4, 1] 3 && (smB [3, 4, 1] 4 && true)))) = true
  rw [s3411, s3412, s3413, s3414]; rfl
theorem s3421 : smB [3, 4, 2] 1 = true := by decide +kernel
theorem s3422 : smB [3, 4, 2] 2 = true := by decide +kernel
theorem s3423 : smB [3, 4, 2] 3 = true := by decide +kernel
theorem s3424 : smB [3, 4, 2] 4 = true := by decide +kernel
theorem s342 : (n4.all fun L => smB [3, 4, 2] L) = true := by
  show (smB [3, 4, 2] 1 && (smB [3, 4, 2] 2 && (smB [3, 4, 2] 3 && (smB [3, 4, 2] 4 && true)))) = true
  rw [s3421, s3422, s3423, s3424]; rfl
theorem s343 : (n4.all fun L => smB [3, 4, 3] L) = true := by decide +kernel
theorem s344 : (n4.all fun L => smB [3, 4, 4] L) = true := by decide +kernel
theorem s4 : (n4.all fun L => smB [4] L) = true := by decide +kernel
theorem s41 : (n4.all fun L => smB [4, 1] L) = true := by decide +kernel
theorem s411 : (n4.all fun L => smB [4, 1, 1] L) = true := by decide +kernel
theorem s412 : (n4.all fun L => smB [4, 1, 2] L) = true := by decide +kernel
theorem s4131 : smB [4, 1, 3] 1 = true := by decide +kernel
theorem s4132 : smB [4, 1, 3] 2 = true := by decide +kernel
theorem s4133 : smB [4, 1, 3] 3 = true := by decide +kernel
theorem s4134 : smB [4, 1, 3] 4 = true := by decide +kernel
theorem s413 : (n4.all fun L => smB [4, 1, 3] L) = true := by
  show (smB [4, 1, 3] 1 && (smB [4, 1, 3] 2 && (smB [4, 1, 3] 3 && (smB [4, 1, 3] 4 && true)))) = true
  rw [s4131, s4132, s4133, s4134]; rfl
theorem s4141 : smB [4, 1, 4] 1 = true := by decide +kernel
theorem s4142 : smB [4, 1, 4] 2 = true := by decide +kernel
theorem s4143 : smB [4, 1, 4] 3 = true := by decide +kernel
theorem s4144 : smB [4, 1, 4] 4 = true := by decide +kernel
theorem s414 : (n4.all fun L => smB [4, 1, 4] L) = true := by
  show (smB [4, 1, 4] 1 && (smB [4, 1, 4] 2 && (smB [4, 1, 4] 3 && (smB [4, 1, 4] 4 && true)))) = true
  rw [s4141, s4142, s4143, s4144]; rfl
theorem s42 : (n4.all fun L => smB [4, 2] L) = true := by decide +kernel
theorem s421 : (n4.all fun L => smB [4, 2, 1] L) = true := by decide +kernel
theorem s4221 : smB [4, 2, 2] 1 = true := by decide +kernel
theorem s4222 : smB [4, 2, 2] 2 = true := by decide +kernel
theorem s4223 : smB [4, 2, 2] 3 = true := by decide +kernel
theorem s4224 : smB [4, 2, 2] 4 = true := by decide +kernel
theorem s422 : (n4.all fun L => smB [4, 2, 2] L) = true := by
  show (smB [4, 2, 2] 1 && (smB [4, 2, 2] 2 && (smB [4, 2, 2] 3 && (smB [4, 2, 2] 4 && true)))) = true
  rw [s4221, s4222, s4223, s4224]; rfl
theorem s4231 : smB [4, 2, 3] 1 = true := by decide +kernel
theorem s4232 : smB [4, 2, 3] 2 = true := by decide +kernel
theorem s4233 : smB [4, 2, 3] 3 = true := by decide +kernel
theorem s4234 : smB [4, 2, 3] 4 = true := by decide +kernel
theorem s423 : (n4.all fun L => smB [4, 2, 3] L) = true := by
  show (smB [4, 2, 3] 1 && (smB [4, 2, 3] 2 && (smB [4, 2, 3] 3 && (smB [4, 2, 3] 4 && true)))) = true
  rw [s4231, s4232, s4233, s4234]; rfl
theorem s424 : (n4.all fun L => smB [4, 2, 4] L) = true := by decide +kernel
theorem s43 : (n4.all fun L => smB [4, 3] L) = true := by decide +kernel
theorem s4311 : smB [4, 3, 1] 1 = true := by decide +kernel
theorem s4312 : smB [4, 3, 1] 2 = true := by decide +kernel
theorem s4313 : smB [4, 3, 1] 3 = true := by decide +kernel
theorem s4314 : smB [4, 3, 1] 4 = true := by decide +kernel
theorem s431 : (n4.all fun L => smB [4, 3, 1] L) = true := by
  show (smB [4, 3, 1] 1 && (smB [4, 3, 1] 2 && (smB [4, 3, 1] 3 && (smB [4, 3, 1] 4 && true)))) = true
  rw [s4311, s4312, s4313, s4314]; rfl
theorem s4321 : smB [4, 3, 2] 1 = true := by decide +kernel
theorem s4322 : smB [4, 3, 2] 2 = true := by decide +kernel
theorem s4323 : smB [4, 3, 2] 3 = true := by decide +kernel
theorem s4324 : smB [4, 3, 2] 4 = true := by decide +kernel
theorem s432 : (n4.all fun L => smB [4, 3, 2] L) = true := by
  show (smB [4, 3, 2] 1 && (smB [4, 3, 2] 2 && (smB [4, 3, 2] 3 && (smB [4, 3, 2] 4 && true)))) = true
  rw [s4321, s4322, s4323, s4324]; rfl
theorem s433 : (n4.all fun L => smB [4, 3, 3] L) = true := by decide +kernel
theorem s434 : (n4.all fun L => smB [4, 3, 4] L) = true := by decide +kernel
theorem s44 : (n4.all fun L => smB [4, 4] L) = true := by decide +kernel
theorem s4411 : smB [4, 4, 1] 1 = true := by decide +kernel
theorem s4412 : smB [4, 4, 1] 2 = true := by decide +kernel
theorem s4413 : smB [4, 4, 1] 3 = true := by decide +kernel
theorem s4414 : smB [4, 4, 1] 4 = true := by decide +kernel
theorem s441 : (n4.all fun L => smB [4, 4, 1] L) = true := by
  show (smB [4, 4, 1] 1 && (smB [4, 4, 1] 2 && (smB [4, 4, 1] 3 && (smB [4, 4, 1] 4 && true)))) = true
  rw [s4411, s4412, s4413, s4414]; rfl
theorem s442 : (n4.all fun L => smB [4, 4, 2] L) = true := by decide +kernel
theorem s443 : (n4.all fun L => smB [4, 4, 3] L) = true := by decide +kernel
theorem s444 : (n4.all fun L => smB [4, 4, 4] L) = true := by decide +kernel
theorem sm1 : (n4.all fun a => n4.all fun L => smB [a] L) = true := by
  show ((n4.all fun L => smB [1] L) && ((n4.all fun L => smB [2] L) && ((n4.all fun L => smB [3] L) && ((n4.all fun L => smB [4] L) && true)))) = true
  rw [s1, s2, s3, s4]; rfl
theorem sm21 : (n4.all fun b => n4.all fun L => smB [1, b] L) = true := by
  show ((n4.all fun L => smB [1, 1] L) && ((n4.all fun L => smB [1, 2] L) && ((n4.all fun L => smB [1, 3] L) && ((n4.all fun L => smB [1, 4] L) && true)))) = true
  rw [s11, s12, s13, s14]; rfl
theorem sm311 : (n4.all fun c => n4.all fun L => smB [1, 1, c] L) = true := by
  show ((n4.all fun L => smB [1, 1, 1] L) && ((n4.all fun L => smB [1, 1, 2] L) && ((n4.all fun L => smB [1, 1, 3] L) && ((n4.all fun L => smB [1, 1, 4] L) && true)))) = true
  rw [s111, s112, s113, s114]; rfl
theorem sm312 : (n4.all fun c => n4.all fun L => smB [1, 2, c] L) = true := by
  show ((n4.all fun L => smB [1, 2, 1] L) && ((n4.all fun L => smB [1, 2, 2] L) && ((n4.all fun L => smB [1, 2, 3] L) && ((n4.all fun L => smB [1, 2, 4] L) && true)))) = true
  rw [s121, s122, s123, s124]; rfl
theorem sm313 : (n4.all fun c => n4.all fun L => smB [1, 3, c] L) = true := by
  show ((n4.all fun L => smB [1, 3, 1] L) && ((n4.all fun L => smB [1, 3, 2] L) && ((n4.all fun L => smB [1, 3, 3] L) && ((n4.all fun L => smB [1, 3, 4] L) && true)))) = true
  rw [s131, s132, s133, s134]; rfl
theorem sm314 : (n4.all fun c => n4.all fun L => smB [1, 4, c] L) = true := by
  show ((n4.all fun L => smB [1, 4, 1] L) && ((n4.all fun L => smB [1, 4, 2] L) && ((n4.all fun L => smB [1, 4, 3] L) && ((n4.all fun L => smB [1, 4, 4] L) && true)))) = true
  rw [s141, s142, s143, s144]; rfl
theorem sm22 : (n4.all fun b => n4.all fun L => smB [2, b] L) = true := by
  show ((n4.all fun L => smB [2, 1] L) && ((n4.all fun L => smB [2, 2] L) && ((n4.all fun L => smB [2, 3] L) && ((n4.all fun L => smB [2, 4] L) && true)))) = true
  rw [s21, s22, s23, s24]; rfl
theorem sm321 : (n4.all fun c => n4.all fun L => smB [2, 1, c] L) = true := by
  show ((n4.all fun L => smB [2, 1, 1] L) && ((n4.all fun L => smB [2, 1, 2] L) && ((n4.all fun L => smB [2, 1, 3] L) && ((n4.all fun L => smB [2, 1, 4] L) && true)))) = true
  rw [s211, s212, s213, s214]; rfl
theorem sm322 : (n4.all fun c => n4.all fun L => smB [2, 2, c] L) = true := by
  show ((n4.all fun L => smB [2, 2, 1] L) && ((n4.all fun L => smB [2, 2, 2] L) && ((n4.all fun L => smB [2, 2, 3] L) && ((n4.all fun L => smB [2, 2, 4] L) && true)))) = true
  rw [s221, s222, s223, s224]; rfl
theorem sm323 : (n4.all fun c => n4.all fun L => smB [2, 3, c] L) = true := by
  show ((n4.all fun L => smB [2, 3, 1] L) && ((n4.all fun L => smB [2, 3, 2] L) && ((n4.all fun L => smB [2, 3, 3] L) && ((n4.all fun L => smB [2, 3, 4] L) && true)))) = true
  rw [s231, s232, s233, s234]; rfl
theorem sm324 : (n4.all fun c => n4.all fun L => smB [2, 4, c] L) = true := by
  show ((n4.all fun L => smB [2, 4, 1] L) && ((n4.all fun L => smB [2, 4, 2] L) && ((n4.all fun L => smB [2, 4, 3] L) && ((n4.all fun L => smB [2, 4, 4] L) && true)))) = true
  rw [s241, s242, s243, s244]; rfl
theorem sm23 : (n4.all fun b => n4.all fun L => smB [3, b] L) = true := by
  show ((n4.all fun L => smB [3, 1] L) && ((n4.all fun L => smB [3, 2] L) && ((n4.all fun L => smB [3, 3] L) && ((n4.all fun L => smB [3, 4] L) && true)))) = true
  rw [s31, s32, s33, s34]; rfl
theorem sm331 : (n4.all fun c => n4.all fun L => smB [3, 1, c] L) = true := by
  show ((n4.all fun L => smB [3, 1, 1] L) && ((n4.all fun L => smB [3, 1, 2] L) && ((n4.all fun L => smB [3, 1, 3] L) && ((n4.all fun L => smB [3, 1, 4] L) && true)))) = true
  rw [s311, s312, s313, s314]; rfl
theorem sm332 : (n4.all fun c => n4.all fun L => smB [3, 2, c] L) = true := by
  show ((n4.all fun L => smB [3, 2, 1] L) && ((n4.all fun L => smB [3, 2, 2] L) && ((n4.all fun L => smB [3, 2, 3] L) && ((n4.all fun L => smB [3, 2, 4] L) && true)))) = true
  rw [s321, s322, s323, s324]; rfl
theorem sm333 : (n4.all fun c => n4.all fun L => smB [3, 3, c] L) = true := by
  show ((n4.all fun L => smB [3, 3, 1] L) && ((n4.all fun L => smB [3, 3, 2] L) && ((n4.all fun L => smB [3, 3, 3] L) && ((n4.all fun L => smB [3, 3, 4] L) && true)))) = true
  rw [s331, s332, s333, s334]; rfl
theorem sm334 : (n4.all fun c => n4.all fun L => smB [3, 4, c] L) = true := by
  show ((n4.all fun L => smB [3, 4, 1] L) && ((n4.all fun L => smB [3, 4, 2] L) && ((n4.all fun L => smB [3, 4, 3] L) && ((n4.all fun L => smB [3, 4, 4] L) && true)))) = true
  rw [s341, s342, s343, s344]; rfl
theorem sm24 : (n4.all fun b => n4.all fun L => smB [4, b] L) = true := by
  show ((n4.all fun L => smB [4, 1] L) && ((n4.all fun L => smB [4, 2] L) && ((n4.all fun L => smB [4, 3] L) && ((n4.all fun L => smB [4, 4] L) && true)))) = true
  rw [s41, s42, s43, s44]; rfl
theorem sm341 : (n4.all fun c => n4.all fun L => smB [4, 1, c] L) = true := by
  show ((n4.all fun L => smB [4, 1, 1] L) && ((n4.all fun L => smB [4, 1, 2] L) && ((n4.all fun L => smB [4, 1, 3] L) && ((n4.all fun L => smB [4, 1, 4] L) && true)))) = true
  rw [s411, s412, s413, s414]; rfl
theorem sm342 : (n4.all fun c => n4.all fun L => smB [4, 2, c] L) = true := by
  show ((n4.all fun L => smB [4, 2, 1] L) && ((n4.all fun L => smB [4, 2, 2] L) && ((n4.all fun L => smB [4, 2, 3] L) && ((n4.all fun L => smB [4, 2, 4] L) && true)))) = true
  rw [s421, s422, s423, s424]; rfl
theorem sm343 : (n4.all fun c => n4.all fun L => smB [4, 3, c] L) = true := by
  show ((n4.all fun L => smB [4, 3, 1] L) && ((n4.all fun L => smB [4, 3, 2] L) && ((n4.all fun L => smB [4, 3, 3] L) && ((n4.all fun L => smB [4, 3, 4] L) && true)))) = true
  rw [s431, s432, s433, s434]; rfl
theorem sm344 : (n4.all fun c => n4.all fun L => smB [4, 4, c] L) = true := by
  show ((n4.all fun L => smB [4, 4, 1] L) && ((n4.all fun L => smB [4, 4, 2] L) && ((n4.all fun L => smB [4, 4, 3] L) && ((n4.all fun L => smB [4, 4, 4] L) && true)))) = true
  rw [s441, s442, s443, s444]; rfl
theorem sm2 : (n4.all fun a => n4.all fun b => n4.all fun L => smB [a, b] L) = true := by
  show ((n4.all fun b => n4.all fun L => smB [1, b] L) && ((n4.all fun b => n4.all fun L => smB [2, b] L) && ((n4.all fun b => n4.all fun L => smB [3, b] L) && ((n4.all fun b => n4.all fun L => smB [4, b] L) && true)))) = true
  rw [sm21, sm22, sm23, sm24]; rfl
theorem sm31 : (n4.all fun b => n4.all fun c => n4.all fun L => smB [1, b, c] L) = true := by
  show ((n4.all fun c => n4.all fun L => smB [1, 1, c] L) && ((n4.all fun c => n4.all fun L => smB [1, 2, c] L) && ((n4.all fun c => n4.all fun L => smB [1, 3, c] L) && ((n4.all fun c => n4.all fun L => smB [1, 4, c] L) && true)))) = true
  rw [sm311, sm312, sm313, sm314]; rfl
theorem sm32 : (n4.all fun b => n4.all fun c => n4.all fun L => smB [2, b, c] L) = true := by
  show ((n4.all fun c => n4.all fun L => smB [2, 1, c] L) && ((n4.all fun c => n4.all fun L => smB [2, 2, c] L) && ((n4.all fun c => n4.all fun L => smB [2, 3, c] L) && ((n4.all fun c => n4.all fun L => smB [2, 4, c] L) && true)))) = true
  rw [sm321, sm322, sm323, sm324]; rfl
theorem sm33 : (n4.all fun b => n4.all fun c => n4.all fun L => smB [3, b, c] L) = true := by
  show ((n4.all fun c => n4.all fun L => smB [3, 1, c] L) && ((n4.all fun c => n4.all fun L => smB [3, 2, c] L) && ((n4.all fun c => n4.all fun L => smB [3, 3, c] L) && ((n4.all fun c => n4.all fun L => smB [3, 4, c] L) && true)))) = true
  rw [sm331, sm332, sm333, sm334]; rfl
theorem sm34 : (n4.all fun b => n4.all fun c => n4.all fun L => smB [4, b, c] L) = true := by
  show ((n4.all fun c => n4.all fun L => smB [4, 1, c] L) && ((n4.all fun c => n4.all fun L => smB [4, 2, c] L) && ((n4.all fun c => n4.all fun L => smB [4, 3, c] L) && ((n4.all fun c => n4.all fun L => smB [4, 4, c] L) && true)))) = true
  rw [sm341, sm342, sm343, sm344]; rfl
theorem sm3 : (n4.all fun a => n4.all fun b => n4.all fun c => n4.all fun L => smB [a, b, c] L) = true := by
  show ((n4.all fun b => n4.all fun c => n4.all fun L => smB [1, b, c] L) && ((n4.all fun b => n4.all fun c => n4.all fun L => smB [2, b, c] L) && ((n4.all fun b => n4.all fun c => n4.all fun L => smB [3, b, c] L) && ((n4.all fun b => n4.all fun c => n4.all fun L => smB [4, b, c] L) && true)))) = true
  rw [sm31, sm32, sm33, sm34]; rfl
theorem in4 {a : Nat} (h1 : 1 ≤ a) (h2 : a ≤ 4) : a ∈ n4 := by
  have : a = 1 ∨ a = 2 ∨ a = 3 ∨ a = 4 := by omega
  rcases this with rfl | rfl | rfl | rfl <;> decide
theorem small {sides : List Nat} {L : Nat} (h1 : 1 ≤ sides.length) (h2 : sides.length ≤ 3) (hs : ∀ s ∈ sides, 1 ≤ s ∧ s ≤ 4) (hL : 1 ≤ L ∧ L ≤ 4) : smB sides L = true := by
  have hl := in4 hL.1 hL.2
  match sides, h1, h2, hs with
  | [a], _, _, hs =>
    have ha := hs a (by simp)
    exact List.all_eq_true.mp (List.all_eq_true.mp sm1 a (in4 ha.1 ha.2)) L hl
  | [a, b], _, _, hs =>
    have ha := hs a (by simp)
    have hb := hs b (by simp)
    exact List.all_eq_true.mp (List.all_eq_true.mp (List.all_eq_true.mp sm2 a (in4 ha.1 ha.2)) b (in4 hb.1 hb.2)) L hl
  | [a, b, c], _, _, hs =>
    have ha := hs a (by simp)
    have hb := hs b (by simp)
    have hc := hs c (by simp)
    exact List.all_eq_true.mp (List.all_eq_true.mp (List.all_eq_true.mp (List.all_eq_true.mp sm3 a (in4 ha.1 ha.2)) b (in4 hb.1 hb.2)) c (in4 hc.1 hc.2)) L hl
  | [], h, _, _ => simp at h
  | _ :: _ :: _ :: _ :: _, _, h, _ => simp at h
theorem fill_is {L : Nat} {sides : List Nat} (hL : 0 < L) : fillsB (si sides) L = fillN sides L := by
  have a := fills_is (L := L) (sides := sides) hL
  have b : fillN sides L = true ↔ ∃ s ∈ sides, s % L = 0 := by
    unfold fillN
    rw [List.any_eq_true]
    exact ⟨fun ⟨s, h, e⟩ => ⟨s, h, of_decide_eq_true e⟩, fun ⟨s, h, e⟩ => ⟨s, h, decide_eq_true e⟩⟩
  cases h1 : fillsB (si sides) L <;> cases h2 : fillN sides L
  · rfl
  · rw [h1] at a; rw [h2] at b; exact absurd (a.mpr (b.mp rfl)) (by decide)
  · rw [h1] at a; rw [h2] at b; exact absurd (b.mpr (a.mp rfl)) (by decide)
  · rfl
theorem small_tot {sides : List Nat} {L : Nat} (h : smB sides L = true) : tb L (tot (places sides) L) = tb L (fin L sides) := by
  unfold smB at h
  rw [Bool.and_eq_true, List.all_eq_true] at h
  exact tb_ext fun i hi => of_decide_eq_true (h.2 i (List.mem_range.mpr hi))
theorem small_chk {sides : List Nat} {L : Nat} (h : smB sides L = true) (hl : (places sides).length < 26) : chk sides L = true := by
  unfold smB at h
  rw [Bool.and_eq_true, Bool.or_eq_true] at h
  exact h.1.resolve_left (by rw [decide_eq_true hl]; decide)
end K13

set_option linter.all false
set_option Elab.async false
set_option autoImplicit false
set_option maxRecDepth 100000
namespace K13
open PySem Ip
/-! ### the law's own steps -/
/-- the state, with lists beside it -/
abbrev SH (ns : List Int) (i : Int) (rest : Hq) : Hq := IO.lst [.d (.list (ns.map .int)), .d (.int i)] :: rest
def Rs (rest : Hq) : Prop := ∀ x ∈ rest, ∃ xs : List D, x = obj xs
theorem rs_closed {n : Nat} : ∀ {rest : Hq}, Rs rest → closed n rest = true
  | [], _ => rfl
  | x :: rest, h => by
    obtain ⟨xs, rfl⟩ := h x List.mem_cons_self
    show ((xs.map Val.d).all (below n) && closed n rest) = true
    rw [rs_closed fun y hy => h y (List.mem_cons_of_mem _ hy), Bool.and_true, List.all_eq_true]
    intro v hv
    obtain ⟨x, _, rfl⟩ := List.mem_map.mp hv
    rfl
section
variable {F j : Nat} {C : List Orc} {h : Hq}
theorem nx {ns : List Int} (hn : Nm ns) {i m : Int} {rest : Hq} (hR : Rs rest) (hi : 0 ≤ i) (hi2 : i < 1000000) (hm : 0 < m) :
    ∃ v : Int, 0 ≤ v ∧ v < m ∧ callR F C f__law_next [.ref 0, .d (.int m)] (SH ns i rest) = .ok (.d (.int v)) (SH ns (i + 1) rest) := by
  have hl : 0 < ns.length := List.length_pos_iff.mpr hn.ne
  have hl0 : (ns.length : Int) ≠ 0 := by omega
  have k0 : 0 ≤ (i + 1).fmod ns.length := by rw [Int.fmod_eq_emod_of_nonneg _ (by omega)]; exact Int.emod_nonneg _ hl0
  have k1 : (i + 1).fmod ns.length < ns.length := by rw [Int.fmod_eq_emod_of_nonneg _ (by omega)]; exact Int.emod_lt_of_pos _ (by omega)
  obtain ⟨k, hk⟩ := Int.eq_ofNat_of_zero_le k0
  have hkl : k < ns.length := by omega
  have at1 : atD ((ns.map PyData.int).map Val.d) ((i + 1).fmod ns.length) = some (.d (.int ns[k])) := by
    rw [hk, atD_nat (by simpa using hkl)]
    simp
  have d1 : okDiv (ns.length : Int) = true := okDiv_sm (n := 20) (show (ns.length : Int).natAbs < 2 ^ 20 by have := hn.len; omega) hl0 (by decide)
  have q0 : 0 ≤ (i + 1).fdiv ns.length := by rw [Int.fdiv_eq_ediv_of_nonneg _ (by omega)]; exact Int.ediv_nonneg (by omega) (by omega)
  have q1 : (i + 1).fdiv ns.length ≤ i + 1 := by rw [Int.fdiv_eq_ediv_of_nonneg _ (by omega)]; exact Int.ediv_le_self _ (by omega)
  have sq : Sm 40 ((i + 1).fdiv ns.length) := by unfold Sm; omega
  have si : Sm 40 (i + 1) := by unfold Sm; omega
  have s389 : Sm 10 389 := (show (389 : Int).natAbs < 2 ^ 10 by decide)
  have s17 : Sm 10 17 := (show (17 : Int).natAbs < 2 ^ 10 by decide)
  have m1 := okMul_sm sq s389 (by decide)
  have m2 := okMul_sm si sq (by decide)
  have m3 := okMul_sm (si.mul sq) s17 (by decide)
  have hm0 : ¬ m = 0 := by omega
  refine ⟨((ns[k] + (i + 1).fdiv ns.length * 389 + (i + 1) * (i + 1).fdiv ns.length * 17)).fmod m, ?_, ?_, ?_⟩
  · rw [Int.fmod_eq_emod_of_nonneg _ (by omega)]; exact Int.emod_nonneg _ hm0
  · rw [Int.fmod_eq_emod_of_nonneg _ (by omega)]; exact Int.emod_lt_of_pos _ hm
  · have e : Ip.run F C f__law_next [.ref 0, .d (.int m)] (SH ns i rest) = .ok (.d (.int (((ns[k] + (i + 1).fdiv ns.length * 389 + (i + 1) * (i + 1).fdiv ns.length * 17)).fmod m))) (SH ns (i + 1) rest) := by
      have at2 := at1
      simp only [List.map_map] at at2
      simp [Ip.run, f__law_next, b__law_next, ixV, ixW, dct, els, setV, setW, ixn, hl0, hn.ne, d1, m1, m2, m3, hm0, at2]
    have tk : (SH ns (i + 1) rest).take ((SH ns i rest).length) = SH ns (i + 1) rest := List.take_of_length_le (by simp)
    have := call_s (W := F) (C := C) (fn := f__law_next) (vs := [.ref 0, .d (.int m)]) (h := SH ns i rest) rfl rfl e rfl (by
      rw [tk]
      show (([Val.d (.list (ns.map .int)), Val.d (.int (i + 1))] : List Val).all (below _) && closed _ rest) = true
      rw [rs_closed hR]; rfl)
    rw [tk] at this
    exact this
abbrev O (F k : Nat) : List Orc := orcs (fnsOf rows) F k
theorem nxE {ns : List Int} (hn : Nm ns) {i m : Int} {rest : Hq} (hR : Rs rest) (hi : 0 ≤ i) (hi2 : i < 1000000) (hm : 0 < m) {σ : Sg} (h1 : σ[1]? = some (some (.ref 0))) :
    ∃ v : Int, 0 ≤ v ∧ v < m ∧ ev F (O F (j + 1)) (.call 4 [(.var 1), (.lit (.int m))]) σ (SH ns i rest) = .ok (.d (.int v)) (SH ns (i + 1) rest) := by
  obtain ⟨v, a, b, e⟩ := nx (F := F) (C := O F j) hn (m := m) hR hi hi2 hm
  refine ⟨v, a, b, ?_⟩
  simp only [ev_call, es_cons, es_nil, e_var, h1, e_lit, R.bind_ok, t_4, e]
theorem vals_nat {Q : Nat → Prop} : ∀ {xs : List Val}, (∀ x ∈ xs, ∃ s : Nat, x = .d (.int (s : Int)) ∧ Q s) → ∃ ss : List Nat, xs = ((si ss).map PyData.int).map .d ∧ ∀ s ∈ ss, Q s
  | [], _ => ⟨[], rfl, fun s hs => by cases hs⟩
  | x :: xs, h => by
    obtain ⟨s, rfl, q⟩ := h x List.mem_cons_self
    obtain ⟨ss, rfl, r⟩ := vals_nat (xs := xs) fun y hy => h y (List.mem_cons_of_mem _ hy)
    refine ⟨s :: ss, rfl, fun t ht => ?_⟩
    rcases List.mem_cons.mp ht with rfl | ht
    · exact q
    · exact r t ht
/-- sides drawn -/
theorem drs {ns : List Int} (hn : Nm ns) {a b i : Int} {rest : Hq} (hR : Rs rest) (hi : 0 ≤ i) (hi2 : i < 900000) (ha : 0 < a) (ha2 : a ≤ 100) (hb : 0 < b) {σ : Sg} (h1 : σ[1]? = some (some (.ref 0))) (hl : σ.length = 15) :
    ∃ (ss : List Nat) (i' : Int), 1 ≤ ss.length ∧ (ss.length : Int) ≤ a ∧ (∀ s ∈ ss, 1 ≤ s ∧ (s : Int) ≤ b) ∧ i ≤ i' ∧ i' ≤ i + 1 + a ∧
      ev F (O F (j + 1)) (.tupO (.ofL (.cmp [13] (.nm 13) (.rng (.bin .add (.lit (.int 1)) (.call 4 [(.var 1), (.lit (.int a))]))) [] (.bin .add (.lit (.int 1)) (.call 4 [(.var 1), (.lit (.int b))]))))) σ (SH ns i rest) = .ok (.d (tupI (si ss))) (SH ns i' rest) := by
  obtain ⟨v, v0, v1, e⟩ := nxE (F := F) (j := j) hn (m := a) hR hi (by omega) ha h1
  have rr : okRng (1 + v) = true := okRng_of (by omega) (by omega)
  have hlen : (rangeL 0 (1 + v).toNat).length = (1 + v).toNat := rangeL_len _ _
  obtain ⟨xs, h', p, q1, q2, ec⟩ := cmpL_cnt (N := (1 + v).toNat) (f := itm F (O F (j + 1)) [13] (.nm 13) [] (.bin .add (.lit (.int 1)) (.call 4 [(.var 1), (.lit (.int b))])) σ) (P := fun n h => h = SH ns (i + 1 + n) rest) (K := fun x => ∃ s : Nat, x = .d (.int (s : Int)) ∧ 1 ≤ s ∧ (s : Int) ≤ b)
    (rangeL 0 (1 + v).toNat) 0 (SH ns (i + 1) rest) (fun w hw n h hn' hp => by
      subst hp
      have h1' : ((σ.set 13 none).set 13 (some w))[1]? = some (some (.ref 0)) := by
        rw [List.getElem?_set_ne (by decide), List.getElem?_set_ne (by decide)]; exact h1
      obtain ⟨u, u0, u1, e2⟩ := nxE (F := F) (j := j) hn (m := b) (i := i + 1 + n) hR (by omega) (by omega) hb h1'
      obtain ⟨s, hs⟩ := Int.eq_ofNat_of_zero_le (show 0 ≤ 1 + u by omega)
      refine ⟨.d (.int (1 + u)), _, rfl, ⟨s, by rw [hs], by omega, by omega⟩, ?_⟩
      have ed : i + 1 + (n : Int) + 1 = i + 1 + ((n + 1 : Nat) : Int) := by omega
      rw [ed] at e2
      unfold itm
      simp only [bindT_nm, wipe, ei_nil, R.bind_ok, if_true, e_bin, e_lit, e2, binA_i, binV_d, binD_add, R.quiet_ok]) (by omega) (by simp)
  obtain ⟨ss, rfl, qs⟩ := vals_nat q2
  rw [hlen] at q1 p
  subst p
  have sl : ss.length = (1 + v).toNat := by rw [← q1]; simp [si]
  refine ⟨ss, i + 1 + ((0 + (1 + v).toNat : Nat) : Int), by omega, by omega, qs, by omega, by omega, ?_⟩
  have ft : fits (rangeL 0 (1 + v).toNat).length = true := fits_le (by rw [hlen]; omega)
  have tv : tupV (.d (.list ((si ss).map .int))) (SH ns (i + 1 + ((0 + (1 + v).toNat : Nat) : Int)) rest) = .ok (.d (tupI (si ss))) (SH ns (i + 1 + ((0 + (1 + v).toNat : Nat) : Int)) rest) := by
    unfold tupV elsL
    simp only [toDs_map, R.bind_ok, tupI]
  simp only [e_tupO, e_ofL, el_cmp, ex_rng, e_bin, e_lit, e, R.bind_ok, binA_i, binV_d, binD_add, intV_i, rr, if_true, ft, ec, toDs_map, tv]
/-! #### told -/
theorem told_v {x : D} : toldV toldWs (.ok (.d x) h) = .ok (.d (.tuple [.str "told", x])) h := rfl
theorem told_e : toldV toldWs (.er ⟨0, none⟩ h) = .ok (.d (.tuple [.str "refused"])) h := rfl
structure Shw (x : D) : Prop where
  sh : x.showable = true
  nd : x.hasDict = false
  dp : x.depth ≤ 5
  sz : Ip.sz x ≤ 1000000
theorem shw_b (b : Bool) : Shw (.bool b) := ⟨rfl, rfl, by show 0 ≤ 5; decide, by show 5 ≤ 1000000; decide⟩
theorem ints_shw {n : Nat} (hn : n < 1920) : ∀ xs : List Int, (∀ x ∈ xs, Sm n x) → PyData.showableAll (xs.map .int) = true ∧ PyData.hasDictAll (xs.map .int) = false ∧ PyData.depthAll (xs.map .int) = 0 ∧ szAll (xs.map .int) = 2002 * xs.length
  | [], _ => ⟨rfl, rfl, rfl, rfl⟩
  | x :: xs, h => by
    obtain ⟨a, b, c, d⟩ := ints_shw hn xs fun y hy => h y (List.mem_cons_of_mem _ hy)
    have o := OkR.int (h x List.mem_cons_self) hn
    refine ⟨?_, ?_, ?_, ?_⟩
    · show ((PyData.int x).showable && _) = true
      rw [o.sh, a]; rfl
    · show (false || _) = false
      rw [b]; rfl
    · show max 0 _ = 0
      rw [c]; rfl
    · show 2000 + 2 + szAll (xs.map .int) = _
      rw [d, List.length_cons]; omega
theorem shw_t {L B : Nat} {f : Nat → Int} (hL : L ≤ 60) (hB : Bd B f) (hB2 : B < 2 ^ 150) : Shw (tupI (tb L f)) := by
  obtain ⟨a, b, c, d⟩ := ints_shw (n := 151) (by decide) (tb L f) fun x hx => by
    obtain ⟨i, _, rfl⟩ := List.mem_map.mp hx
    have := hB i
    unfold Sm; omega
  rw [tb_len] at d
  refine ⟨a, b, ?_, ?_⟩
  · show PyData.depthAll _ + 1 ≤ 5
    rw [c]; decide
  · show 4 + szAll _ ≤ 1000000
    rw [d]; omega
theorem told_len : (reprText ("told" : Str)).length ≤ 100 := by
  have cp : ∀ c ∈ ("told" : Str).cps.toList, c < 16 ^ 8 := fun c hc => by
    rw [Str.ofString_eq_toList] at hc
    simp at hc
    rcases hc with rfl | rfl | rfl | rfl <;> decide
  have := StrLaws.reprText_len _ cp
  have l : ("told" : Str).length = 4 := rfl
  omega
theorem okr_2 {x y : D} (a : Shw x) (b : Shw y) : OkR (.list [.tuple [.str "told", x], .tuple [.str "told", y]]) := by
  refine ⟨?_, ?_, ?_, ?_⟩
  · show ((true && (x.showable && true)) && ((true && (y.showable && true)) && true)) = true
    rw [a.sh, b.sh]; rfl
  · show ((false || (x.hasDict || false)) || ((false || (y.hasDict || false)) || false)) = false
    rw [a.nd, b.nd]; rfl
  · show max (max 0 (max x.depth 0) + 1) (max (max 0 (max y.depth 0) + 1) 0) + 1 ≤ 50
    have := a.dp
    have := b.dp
    omega
  · show 2 + ((4 + ((reprText ("told" : Str)).length + 2 + (Ip.sz x + 2 + 0))) + 2 + ((4 + ((reprText ("told" : Str)).length + 2 + (Ip.sz y + 2 + 0))) + 2 + 0)) ≤ 16000000
    have := a.sz
    have := b.sz
    have := told_len
    omega
end
end K13

set_option linter.all false
set_option Elab.async false
set_option autoImplicit false
set_option maxRecDepth 100000
namespace K13
open PySem Ip
def M0 : Ip.St := .set 3 (.tupO (.ofL (.cmp [13] (.nm 13) (.rng (.bin .add (.lit (.int 1)) (.call 4 [(.var 1), (.lit (.int 3))]))) [] (.bin .add (.lit (.int 1)) (.call 4 [(.var 1), (.lit (.int 4))])))))
def M1 : Ip.St := .set 4 (.bin .add (.lit (.int 1)) (.call 4 [(.var 1), (.lit (.int 4))]))
def M2 : Ip.St := .set 5 (.prm .any [(.ofL (.cmp [14] (.nm 14) (.val (.var 3)) [] (.cmp .eq (.bin .mod (.prm .int [(.var 14)]) (.var 4)) (.lit (.int 0)))))])
def M3 : Ip.St := .set 6 (.new (.rep (.dsp [(.lit (.int 0))]) (.var 4)))
def ixM : Ex := .bin .mod (.prm .int [(.prm .sum [(.var 7)])]) (.var 4)
def bodyM : List Ip.St := [.six (.var 6) ixM (.bin .add (.ix (.var 6) ixM) (.lit (.int 1)))]
def M4 : Ip.St := .for_ (.nm 7) (.val (.call 5 [(.var 3)])) bodyM
def M5 : Ip.St := .iff (.not_ (.call 2 [(.ofL (.dsp [(.told toldWs (.call 0 [(.var 3), (.var 4)])), (.told toldWs (.call 1 [(.var 3), (.var 4)]))])), (.ofL (.dsp [(.tup [(.lit (.str "told")), (.var 5)]), (.tup [(.lit (.str "told")), (.tupO (.var 6))])]))]))
        [.ret (.lit (.bool false))]
        []
def M6 : Ip.St := .iff (.cmp .lt (.prm .len [(.call 5 [(.var 3)])]) (.lit (.int 26)))
        [.set 12 (.call 7 [(.var 3), (.var 4)]),
         .iff (.and_ (.cmp .notN (.var 12) (.lit .none)) (.cmp .ne (.var 12) (.var 5)))
           [.ret (.lit (.bool false))]
           []]
        []
section
variable {F j : Nat} {C : List Orc} {h : Hq} {ns : List Int} {i : Int} {rest : Hq} {σ : Sg} {ss : List Nat} {L : Nat}
theorem m0 (hn : Nm ns) (hR : Rs rest) (hi : 0 ≤ i) (hi2 : i < 900000) (h1 : σ[1]? = some (some (.ref 0))) (hl : σ.length = 15) :
    ∃ (ss : List Nat) (i' : Int), 1 ≤ ss.length ∧ (ss.length : Int) ≤ 3 ∧ (∀ s ∈ ss, 1 ≤ s ∧ (s : Int) ≤ 4) ∧ i ≤ i' ∧ i' ≤ i + 1 + 3 ∧ ex F (O F (j + 2)) M0 σ (SH ns i rest) = .ok (.nx (σ.set 3 (some (.d (tupI (si ss)))))) (SH ns i' rest) := by
  obtain ⟨ss, i', a, b, c, d, e, f⟩ := drs (F := F) (j := j + 1) hn (a := 3) (b := 4) hR hi hi2 (by decide) (by decide) (by decide) h1 hl
  refine ⟨ss, i', a, b, c, d, e, ?_⟩
  unfold M0
  rw [x_set, f]; rfl
theorem m1 (hn : Nm ns) (hR : Rs rest) (hi : 0 ≤ i) (hi2 : i < 900000) (h1 : σ[1]? = some (some (.ref 0))) :
    ∃ L : Nat, 1 ≤ L ∧ L ≤ 4 ∧ ex F (O F (j + 2)) M1 σ (SH ns i rest) = .ok (.nx (σ.set 4 (I L))) (SH ns (i + 1) rest) := by
  obtain ⟨v, a, b, e⟩ := nxE (F := F) (j := j + 1) hn (m := 4) hR hi (by omega) (by decide) h1
  obtain ⟨L, hL⟩ := Int.eq_ofNat_of_zero_le (show 0 ≤ 1 + v by omega)
  refine ⟨L, by omega, by omega, ?_⟩
  unfold M1
  simp only [x_set, e_bin, e_lit, e, R.bind_ok, binA_i, binV_d, binD_add, R.thn_ok, hL]
theorem m2 (hl : σ.length = 15) (hs : ss.length ≤ 100) (h3 : σ[3]? = some (some (.d (tupI (si ss))))) (h4 : σ[4]? = some (I L)) (hL : 1 ≤ L) :
    ex F C M2 σ h = .ok (.nx (σ.set 5 (some (.d (.bool (fillsB (si ss) L)))))) h := by
  have h2 : ¬ (L : Int) = 0 := by omega
  have it := cmp_ints (f := itm F C [14] (.nm 14) [] (.cmp .eq (.bin .mod (.prm .int [(.var 14)]) (.var 4)) (.lit (.int 0))) σ) (h := h) (fun s => .bool (decide (s.fmod (L : Int) = 0))) (si ss) (fun x hx => by
    have e : ((σ.set 14 none).set 14 (some (Val.d (.int x))))[14]? = some (some (.d (.int x))) := by
      rw [List.getElem?_set_self (by rw [List.length_set]; omega)]
    have e1 : ((σ.set 14 none).set 14 (some (Val.d (.int x))))[4]? = some (I L) := by
      rw [List.getElem?_set_ne (by decide), List.getElem?_set_ne (by decide)]; exact h4
    unfold itm
    simp only [bindT_nm, wipe, ei_nil, R.bind_ok, if_true, e_cmp, e_bin, e_prm, es_cons, es_nil, e_var, e, e1, prmV_1, prm_int, binA_i, binV_d, binD_mod, if_neg h2, e_lit, cmpV_d, cmpD_eqi, R.quiet_ok])
  have ft : fits (((si ss).map PyData.int).map Val.d).length = true := fits_le (by simp [si]; omega)
  unfold M2
  simp only [x_set, e_prm, es_cons, es_nil, e_ofL, el_cmp, ex_val, e_var, h3, R.bind_ok, tupI, srcV_t, ft, if_true, it, toDs_fn, prmV_1, prmD, bools_map, Option.map_some, any_map, fillsB, R.thn_ok]
theorem m3 (h4 : σ[4]? = some (I L)) (hL : L ≤ 100) : ex F C M3 σ h = .ok (.nx (σ.set 6 (some (.ref h.length)))) (h ++ [oI (tb L fun _ => 0)]) := by
  have rp := ev_rep (F := F) (C := C) (h := h) (v := 0) (σ := σ) (b := .var 4) (n := L) (by simp only [e_var, h4]) (by omega)
  have ob : h ++ [IO.lst ((List.replicate L (PyData.int 0)).map Val.d)] = h ++ [oI (tb L fun _ => 0)] := by
    rw [tb_const]; simp [oI, obj]
  unfold M3
  simp only [x_set, e_new, rp, R.bind_ok, R.thn_ok, ob]
theorem sum_si : ∀ p : Stt, sumI (si p) = (p.sum : Nat)
  | [] => rfl
  | x :: p => by
    show (x : Int) + sumI (si p) = _
    rw [sum_si p, List.sum_cons]; omega
theorem m4 (hF : 1000000 ≤ F) (hl : σ.length = 15) (hs : ∀ s ∈ ss, s ≤ 4) (hl3 : ss.length ≤ 3) (h3 : σ[3]? = some (some (.d (tupI (si ss))))) (h4 : σ[4]? = some (I L)) (h6 : σ[6]? = some (some (.ref h.length))) (hL : 1 ≤ L) (hL2 : L ≤ 100) :
    ∃ c7, ex F (O F (j + 2)) M4 σ (h ++ [oI (tb L fun _ => 0)]) = .ok (.nx (σ.set 7 c7)) (h ++ [oI (tb L (tot (places ss) L))]) := by
  have cp := fun h => c_places (F := F) (C := O F (j + 1)) (h := h) hF hs hl3
  have pl := pl_len hs ss.length (Nat.le_refl _)
  rw [List.take_length] at pl
  have p3 : 4 ^ ss.length ≤ 4 ^ 3 := Nat.pow_le_pow_right (by decide) hl3
  generalize hPL : places ss = PL at *
  have hL0 : ¬ (L : Int) = 0 := by omega
  obtain ⟨σ', h', ⟨c7, rfl, rfl⟩, e⟩ := forL_ix (f := turnV (.nm 7) (bdy F (O F (j + 2)) bodyM)) (P := fun k σ' h' => ∃ c7, σ' = σ.set 7 c7 ∧ h' = h ++ [oI (tb L fun r => S k fun i => if rs PL L i = r then 1 else 0)]) ((PL.map pD).map .d) 0 σ (h ++ [oI (tb L fun _ => 0)])
    (fun k v σ' h' hv hp => by
      rw [Nat.zero_add] at hp ⊢
      obtain ⟨c7, rfl, rfl⟩ := hp
      simp only [List.map_map, List.getElem?_map] at hv
      cases hk : PL[k]? with
      | none => rw [hk] at hv; cases hv
      | some p =>
        rw [hk] at hv
        cases hv
        have rp : rs PL L k = p.sum % L := by
          unfold rs
          rw [List.getD_eq_getElem?_getD, hk]; rfl
        refine ⟨_, _, ⟨some (.d (pD p)), rfl, rfl⟩, ?_⟩
        have hx : p.sum % L < L := Nat.mod_lt _ (by omega)
        have el : (h ++ [oI (tb L fun r => S k fun i => if rs PL L i = r then 1 else 0)])[h.length]? = some (oI (tb L fun r => S k fun i => if rs PL L i = r then 1 else 0)) := app_last
        have i1 := ix_tb el hx
        have st := set_tbo (v := (S k fun i => if rs PL L i = p.sum % L then 1 else 0) + 1) el hx
        have uE : updF (fun r => S k fun i => if rs PL L i = r then 1 else 0) (p.sum % L) ((S k fun i => if rs PL L i = p.sum % L then 1 else 0) + 1) = fun r => S (k + 1) fun i => if rs PL L i = r then 1 else 0 := by
          funext r
          unfold updF
          show _ = (S k fun i => if rs PL L i = r then 1 else 0) + (if rs PL L k = r then 1 else 0)
          by_cases e : r = p.sum % L
          · subst e; rw [if_pos rfl, rp, if_pos rfl]
          · rw [if_neg e, rp, if_neg (fun z => e z.symm), Int.add_zero]
        rw [uE, app_set] at st
        have e7 : ((σ.set 7 c7).set 7 (some (Val.d (pD p)))) = σ.set 7 (some (Val.d (pD p))) := List.set_set ..
        have g7 : (σ.set 7 (some (Val.d (pD p))))[7]? = some (some (.d (pD p))) := List.getElem?_set_self (by omega)
        have g4 : (σ.set 7 (some (Val.d (pD p))))[4]? = some (I L) := by rw [List.getElem?_set_ne (by decide)]; exact h4
        have g6 : (σ.set 7 (some (Val.d (pD p))))[6]? = some (some (.ref h.length)) := by rw [List.getElem?_set_ne (by decide)]; exact h6
        have sm : prmD .sum [pD p] = some (.int ((p.sum : Nat) : Int)) := by
          unfold pD tupI
          simp only [prmD, ints_map', Option.map_some, sum_si]
        have fm : ((p.sum : Nat) : Int).fmod (L : Int) = ((p.sum % L : Nat) : Int) := by
          rw [Int.fmod_eq_emod_of_nonneg _ (by omega)]; simp
        have ixE : ev F (O F (j + 2)) ixM (σ.set 7 (some (Val.d (pD p)))) (h ++ [oI (tb L fun r => S k fun i => if rs PL L i = r then 1 else 0)]) = .ok (.d (.int ((p.sum % L : Nat) : Int))) (h ++ [oI (tb L fun r => S k fun i => if rs PL L i = r then 1 else 0)]) := by
          unfold ixM
          simp only [e_bin, e_prm, es_cons, es_nil, e_var, g7, g4, R.bind_ok, prmV_1, sm, prm_int, binA_i, binV_d, binD_mod, if_neg hL0, fm]
        show turnV (.nm 7) (bdy F (O F (j + 2)) bodyM) (.d (pD p)) (σ.set 7 c7) _ = _
        unfold turnV bdy bodyM
        simp only [bindT_nm, e7, xs_cons, xs_nil, x_six, e_bin, e_ix, ixE, e_var, g6, e_lit, R.bind_ok, i1, binA_i, binV_d, binD_add, R.thn_ok, st, RF.thn_nx]) ⟨σ[7]'(by omega), (List.set_getElem_self _).symm, rfl⟩
  refine ⟨c7, ?_⟩
  unfold M4
  simp only [x_for, ex_val, ev_call, es_cons, es_nil, e_var, h3, R.bind_ok, t_5, cp, srcV_l, R.thn_ok]
  rw [e]
  simp only [Nat.zero_add, List.length_map]
  rfl
end
end K13

set_option linter.all false
set_option Elab.async false
set_option autoImplicit false
set_option maxRecDepth 100000
namespace K13
open PySem Ip
def M7 : Ip.St := .set 8 (.tupO (.ofL (.cmp [13] (.nm 13) (.rng (.bin .add (.lit (.int 1)) (.call 4 [(.var 1), (.lit (.int 6))]))) [] (.bin .add (.lit (.int 1)) (.call 4 [(.var 1), (.lit (.int 1000))])))))
def M8 : Ip.St := .set 9 (.bin .add (.lit (.int 1)) (.call 4 [(.var 1), (.ix (.ofL (.dsp [(.lit (.int 12)), (.lit (.int 60))])) (.call 4 [(.var 1), (.lit (.int 2))]))]))
def M9 : Ip.St := .iff (.cmp .eq (.call 4 [(.var 1), (.lit (.int 2))]) (.lit (.int 0)))
        [.set 8 (.bin .add (.slc (.var 8) none (some (.neg (.lit (.int 1))))) (.tup [(.bin .mul (.var 9) (.bin .add (.lit (.int 1)) (.call 4 [(.var 1), (.lit (.int 16))])))]))]
        []
def M10 : Ip.St := .set 10 (.call 6 [(.var 8), (.var 9)])
def M11 : Ip.St := .iff (.not_ (.call 2 [(.ofL (.dsp [(.told toldWs (.call 1 [(.var 8), (.var 9)])), (.told toldWs (.call 0 [(.var 8), (.var 9)]))])), (.ofL (.dsp [(.tup [(.lit (.str "told")), (.var 10)]), (.tup [(.lit (.str "told")), (.cmp .eq (.lset (.var 10)) (.lit (.int 1)))])]))]))
        [.ret (.lit (.bool false))]
        []
def M12 : Ip.St := .set 11 (.ofL (.dsp [(.told toldWs (.call 0 [(.tup []), (.lit (.int 1))])), (.told toldWs (.call 0 [(.bin .mul (.tup [(.lit (.int 1))]) (.lit (.int 7))), (.lit (.int 1))])), (.told toldWs (.call 0 [(.tup [(.lit (.int 0))]), (.lit (.int 1))])), (.told toldWs (.call 0 [(.tup [(.lit (.int 1))]), (.lit (.int 0))])), (.told toldWs (.call 0 [(.tup [(.bin .add (.bin .pow (.lit (.int 10)) (.lit (.int 6))) (.lit (.int 1)))]), (.lit (.int 1))])), (.told toldWs (.call 1 [(.tup []), (.lit (.int 1))]))]))
def M13 : Ip.St := .iff (.cmp .ne (.ofL (.cat (.var 11) (.ofL (.dsp [(.told toldWs (.call 1 [(.tup [(.lit (.int 1001))]), (.lit (.int 1))])), (.told toldWs (.call 1 [(.tup [(.lit (.int 1))]), (.lit (.int 1001))])), (.told toldWs (.call 1 [(.tup [(.lit (.int 1)), (.lit (.int 0))]), (.lit (.int 1))]))])))) (.ofL (.rep (.dsp [(.tup [(.lit (.str "refused"))])]) (.lit (.int 9)))))
        [.ret (.lit (.bool false))]
        []
def bodyT : List Ip.St := [M0, M1, M2, M3, M4, M5, M6, M7, M8, M9, M10, M11, M12, M13]
theorem b_is : b_law = [.set 1 (.new (.dsp [(.call 3 [(.var 0)]), (.lit (.int 0))])), .for_ (.nm 2) (.rng (.lit (.int 5))) bodyT, .ret (.lit (.bool true))] := rfl
section
variable {F j : Nat} {C : List Orc} {h : Hq} {ns : List Int} {i : Int} {rest : Hq} {σ : Sg} {ss : List Nat} {L : Nat}
theorem ok_of {M : Int} (h1 : 1 ≤ ss.length) (h2 : ss.length ≤ 6) (hs : ∀ s ∈ ss, 1 ≤ s ∧ (s : Int) ≤ M) (hL : 1 ≤ L) (hM : (L : Int) ≤ M) : okB M (si ss) L = true := by
  have a : (si ss).all (fun s => decide (1 ≤ s) && decide (s ≤ M)) = true := by
    rw [List.all_eq_true]
    intro x hx
    obtain ⟨s, hs', rfl⟩ := List.mem_map.mp hx
    have := hs s hs'
    simp only [Bool.and_eq_true, decide_eq_true_eq]
    omega
  have l : (si ss).length = ss.length := by simp [si]
  unfold okB
  rw [a, l, decide_eq_true (by omega), decide_eq_true (by omega), decide_eq_true (by omega), decide_eq_true hM]
  rfl
/-- two tellings that are alike -/
theorem same2 {x y : D} {e1 e2 : Ex} (hx : Shw x) (hy : Shw y) (h1 : ev F (O F (j + 2)) e1 σ h = .ok (.d (.list [.tuple [.str "told", x], .tuple [.str "told", y]])) h) (h2 : ev F (O F (j + 2)) e2 σ h = .ok (.d (.list [.tuple [.str "told", x], .tuple [.str "told", y]])) h) :
    ex F (O F (j + 2)) (.iff (.not_ (.call 2 [e1, e2])) [.ret (.lit (.bool false))] []) σ h = .ok (.nx σ) h := by
  have sm := same_ok (W := F) (C := O F (j + 1)) (h := h) (okr_2 hx hy)
  have c : cnd F (O F (j + 2)) (.not_ (.call 2 [e1, e2])) σ h = .ok false h := by
    unfold cnd tst
    simp only [e_not, ev_call, es_cons, es_nil, h1, h2, R.bind_ok, t_2, sm, tru_b, Bool.not_true]
  rw [x_iff, c]
  rfl
theorem f2 : fits 2 = true := fits_le (by omega)
theorem m5 {r : Nat} (h1 : 1 ≤ ss.length) (hl3 : ss.length ≤ 3) (hs : ∀ s ∈ ss, 1 ≤ s ∧ (s : Int) ≤ 4) (hL : 1 ≤ L) (hL2 : L ≤ 4) (h3 : σ[3]? = some (some (.d (tupI (si ss))))) (h4 : σ[4]? = some (I L)) (h5 : σ[5]? = some (some (.d (.bool (fillsB (si ss) L))))) (h6 : σ[6]? = some (some (.ref r))) (hr : h[r]? = some (oI (tb L (tot (places ss) L)))) :
    ex F (O F (j + 2)) M5 σ h = .ok (.nx σ) h := by
  have o1 : okB 1000000 (si ss) L = true := ok_of h1 (by omega) (fun s h => ⟨(hs s h).1, by have := (hs s h).2; omega⟩) hL (by omega)
  have o2 : okB 1000 (si ss) L = true := ok_of h1 (by omega) (fun s h => ⟨(hs s h).1, by have := (hs s h).2; omega⟩) hL (by omega)
  have hs2 : ∀ s ∈ ss, s ≤ 1000 := fun s h => by have := (hs s h).2; omega
  have cb := c_bars (F := F) (C := O F (j + 1)) (h := h) (by simp [si]; omega) o1
  have cc := c_counts (F := F) (C := O F (j + 1)) (h := h) (by omega) hs2 (by omega) o2
  have sb := small h1 hl3 (fun s h => ⟨(hs s h).1, by have := (hs s h).2; omega⟩) ⟨hL, hL2⟩
  rw [small_tot sb] at hr
  have tp := tup_o hr
  have bd := fin_bd' (L := L) (by omega) (by omega) hs2 (by omega)
  refine same2 (shw_b (fillsB (si ss) L)) (shw_t (L := L) (B := 2 ^ 100) (f := fin L ss) (by omega) bd (by decide)) ?_ ?_
  · simp only [e_ofL, el_dsp, es_cons, es_nil, e_told, ev_call, e_var, h3, h4, R.bind_ok, t_0, t_1, cb, cc, told_v, List.length_cons, List.length_nil, Nat.zero_add, Nat.reduceAdd, f2, if_true, toDs_cons, toDs_nil, toD_d]
  · simp only [e_ofL, el_dsp, es_cons, es_nil, e_tup, e_lit, e_var, h5, h6, R.bind_ok, toDs_cons, toDs_nil, toD_d, e_tupO, tp, List.length_cons, List.length_nil, Nat.zero_add, Nat.reduceAdd, f2, if_true]
theorem m6 (hF : 1000000 ≤ F) (hl : σ.length = 15) (h1 : 1 ≤ ss.length) (hl3 : ss.length ≤ 3) (hs : ∀ s ∈ ss, 1 ≤ s ∧ (s : Int) ≤ 4) (hL : 1 ≤ L) (hL2 : L ≤ 4) (h3 : σ[3]? = some (some (.d (tupI (si ss))))) (h4 : σ[4]? = some (I L)) (h5 : σ[5]? = some (some (.d (.bool (fillsB (si ss) L))))) :
    ∃ c12, ex F (O F (j + 2)) M6 σ h = .ok (.nx (σ.set 12 c12)) h := by
  have hs4 : ∀ s ∈ ss, s ≤ 4 := fun s h => by have := (hs s h).2; omega
  have cp := c_places (F := F) (C := O F (j + 1)) (h := h) hF hs4 hl3
  have sb := small h1 hl3 (fun s h => ⟨(hs s h).1, hs4 s h⟩) ⟨hL, hL2⟩
  have cn : cnd F (O F (j + 2)) (.cmp .lt (.prm .len [(.call 5 [(.var 3)])]) (.lit (.int 26))) σ h = .ok (decide ((places ss).length < 26)) h := by
    have dd : decide (((places ss).length : Int) < 26) = decide ((places ss).length < 26) := by
      by_cases z : (places ss).length < 26
      · rw [decide_eq_true z, decide_eq_true (by omega)]
      · rw [decide_eq_false z, decide_eq_false (by omega)]
    unfold cnd tst
    simp only [e_cmp, e_prm, es_cons, es_nil, ev_call, e_var, h3, R.bind_ok, t_5, cp, prmV_1, prm_lenl, List.length_map, e_lit, cmpV_d, cmpD_lt, dd, tru_b]
  by_cases hlen : (places ss).length < 26
  · rw [decide_eq_true hlen] at cn
    have ck := small_chk sb hlen
    have ck2 := ck
    unfold chk at ck2
    simp only [Bool.and_eq_true, decide_eq_true_eq] at ck2
    have cf := c_found (F := F) (j := j) (h := h) hF hs4 hl3 (L := L) (by omega) ck2.1.1.1.1 ck2.1.1.1.2 hlen
    have fo := found_ok (by omega) ck
    have g12 : (σ.set 12 (some (.d (foundD ss L))))[12]? = some (some (.d (foundD ss L))) := List.getElem?_set_self (by omega)
    have g5 : (σ.set 12 (some (.d (foundD ss L))))[5]? = some (some (.d (.bool (fillsB (si ss) L)))) := by rw [List.getElem?_set_ne (by decide)]; exact h5
    have c2 : cnd F (O F (j + 2)) (.and_ (.cmp .notN (.var 12) (.lit .none)) (.cmp .ne (.var 12) (.var 5))) (σ.set 12 (some (.d (foundD ss L)))) h = .ok false h := by
      unfold cnd tst
      simp only [e_and, e_cmp, e_var, g12, g5, e_lit, R.bind_ok, cmpV_d]
      rcases fo with e | e
      · rw [e]
        simp [cmpD]
      · rw [e, fill_is (by omega)]
        cases fillN ss L <;> rfl
    refine ⟨some (.d (foundD ss L)), ?_⟩
    unfold M6
    simp only [x_iff, cn, R.thn_ok, if_true, xs_cons, xs_nil, x_set, ev_call, es_cons, es_nil, e_var, h3, h4, R.bind_ok, t_7, cf, RF.thn_nx, c2, Bool.false_eq_true, if_false]
  · rw [decide_eq_false hlen] at cn
    refine ⟨σ[12]'(by omega), ?_⟩
    rw [List.set_getElem_self]
    unfold M6
    simp only [x_iff, cn, R.thn_ok, Bool.false_eq_true, if_false, xs_nil]
theorem m7 (hn : Nm ns) (hR : Rs rest) (hi : 0 ≤ i) (hi2 : i < 900000) (h1 : σ[1]? = some (some (.ref 0))) (hl : σ.length = 15) :
    ∃ (ss : List Nat) (i' : Int), 1 ≤ ss.length ∧ (ss.length : Int) ≤ 6 ∧ (∀ s ∈ ss, 1 ≤ s ∧ (s : Int) ≤ 1000) ∧ i ≤ i' ∧ i' ≤ i + 1 + 6 ∧ ex F (O F (j + 2)) M7 σ (SH ns i rest) = .ok (.nx (σ.set 8 (some (.d (tupI (si ss)))))) (SH ns i' rest) := by
  obtain ⟨ss, i', a, b, c, d, e, f⟩ := drs (F := F) (j := j + 1) hn (a := 6) (b := 1000) hR hi hi2 (by decide) (by decide) (by decide) h1 hl
  refine ⟨ss, i', a, b, c, d, e, ?_⟩
  unfold M7
  rw [x_set, f]; rfl
theorem m8 (hn : Nm ns) (hR : Rs rest) (hi : 0 ≤ i) (hi2 : i < 900000) (h1 : σ[1]? = some (some (.ref 0))) :
    ∃ L : Nat, 1 ≤ L ∧ L ≤ 60 ∧ ex F (O F (j + 2)) M8 σ (SH ns i rest) = .ok (.nx (σ.set 9 (I L))) (SH ns (i + 1 + 1) rest) := by
  obtain ⟨v, a, b, e⟩ := nxE (F := F) (j := j + 1) hn (m := 2) hR hi (by omega) (by decide) h1
  have e : ev F (O F (j + 2)) (.call 4 [(.var 1), (.lit (.int 2))]) σ (SH ns i rest) = .ok (.d (.int v)) (SH ns (i + 1) rest) := e
  have hv : ∃ m : Int, 0 < m ∧ m ≤ 60 ∧ ixV (.d (.list [.int 12, .int 60])) (.d (.int v)) (SH ns (i + 1) rest) = .ok (.d (.int m)) (SH ns (i + 1) rest) := by
    have : v = 0 ∨ v = 1 := by omega
    rcases this with rfl | rfl
    · exact ⟨12, by decide, by decide, by simp⟩
    · exact ⟨60, by decide, by decide, by simp⟩
  obtain ⟨m, m0, m1, em⟩ := hv
  obtain ⟨u, a2, b2, e2⟩ := nx (F := F) (C := O F (j + 1)) hn (m := m) (i := i + 1) hR (by omega) (by omega) m0
  obtain ⟨L, hL⟩ := Int.eq_ofNat_of_zero_le (show 0 ≤ 1 + u by omega)
  refine ⟨L, by omega, by omega, ?_⟩
  unfold M8
  rw [x_set, e_bin, e_lit]
  simp only [R.bind_ok]
  have key : ev F (O F (j + 2)) (.call 4 [(.var 1), (.ix (.ofL (.dsp [(.lit (.int 12)), (.lit (.int 60))])) (.call 4 [(.var 1), (.lit (.int 2))]))]) σ (SH ns i rest) = .ok (.d (.int u)) (SH ns (i + 1 + 1) rest) := by
    have k2 : ev F (O F (j + 2)) (.ix (.ofL (.dsp [(.lit (.int 12)), (.lit (.int 60))])) (.call 4 [(.var 1), (.lit (.int 2))])) σ (SH ns i rest) = .ok (.d (.int m)) (SH ns (i + 1) rest) := by
      rw [e_ix]
      simp only [e_ofL, el_dsp, es_cons, es_nil, e_lit, R.bind_ok, List.length_cons, List.length_nil, Nat.zero_add, Nat.reduceAdd, f2, if_true, toDs_cons, toDs_nil, toD_d, e, em]
    simp only [ev_call, es_cons, es_nil, e_var, h1, R.bind_ok, t_4]
    rw [k2]
    simp only [R.bind_ok, e2]
  rw [key]
  simp only [R.bind_ok, binA_i, binV_d, binD_add, R.thn_ok, hL]
theorem cut_last {α : Type} {xs : List α} (h : 1 ≤ xs.length) : cutD xs none (some (-1)) = xs.dropLast := by
  unfold cutD cutIx
  simp only
  rw [if_pos (by decide)]
  have : ((-1 : Int) + (xs.length : Int)).toNat = xs.length - 1 := by omega
  rw [this, List.dropLast_eq_take]; simp
theorem m9 (hn : Nm ns) (hR : Rs rest) (hi : 0 ≤ i) (hi2 : i < 900000) (hl : σ.length = 15) (h1 : σ[1]? = some (some (.ref 0))) (h8 : σ[8]? = some (some (.d (tupI (si ss))))) (h9 : σ[9]? = some (I L)) (hL : 1 ≤ L) (hL2 : L ≤ 60) (l1 : 1 ≤ ss.length) (l6 : ss.length ≤ 6) (hs : ∀ s ∈ ss, 1 ≤ s ∧ (s : Int) ≤ 1000) :
    ∃ (ss' : List Nat) (i' : Int), 1 ≤ ss'.length ∧ ss'.length ≤ 6 ∧ (∀ s ∈ ss', 1 ≤ s ∧ (s : Int) ≤ 1000) ∧ i ≤ i' ∧ i' ≤ i + 2 ∧ ex F (O F (j + 2)) M9 σ (SH ns i rest) = .ok (.nx (σ.set 8 (some (.d (tupI (si ss')))))) (SH ns i' rest) := by
  obtain ⟨v, a, b, e⟩ := nxE (F := F) (j := j + 1) hn (m := 2) hR hi (by omega) (by decide) h1
  have e : ev F (O F (j + 2)) (.call 4 [(.var 1), (.lit (.int 2))]) σ (SH ns i rest) = .ok (.d (.int v)) (SH ns (i + 1) rest) := e
  have cn : cnd F (O F (j + 2)) (.cmp .eq (.call 4 [(.var 1), (.lit (.int 2))]) (.lit (.int 0))) σ (SH ns i rest) = .ok (decide (v = 0)) (SH ns (i + 1) rest) := by
    unfold cnd tst
    rw [e_cmp, e]
    simp only [R.bind_ok, e_lit, cmpV_d, cmpD_eqi, tru_b]
  by_cases hv : v = 0
  · rw [decide_eq_true hv] at cn
    obtain ⟨u, u0, u1, e2⟩ := nxE (F := F) (j := j + 1) hn (m := 16) (i := i + 1) hR (by omega) (by omega) (by decide) h1
    have e2 : ev F (O F (j + 2)) (.call 4 [(.var 1), (.lit (.int 16))]) σ (SH ns (i + 1) rest) = .ok (.d (.int u)) (SH ns (i + 1 + 1) rest) := e2
    obtain ⟨k, hk⟩ := Int.eq_ofNat_of_zero_le u0
    subst hk
    have mx : L * (1 + k) ≤ 60 * 16 := Nat.mul_le_mul hL2 (by omega)
    have mx1 : 1 * 1 ≤ L * (1 + k) := Nat.mul_le_mul hL (by omega)
    refine ⟨ss.dropLast ++ [L * (1 + k)], i + 1 + 1, by simp, by simp; omega, fun s hs' => ?_, by omega, by omega, ?_⟩
    · rcases List.mem_append.mp hs' with q | q
      · exact hs s (by rw [List.dropLast_eq_take] at q; exact List.mem_of_mem_take q)
      · rw [List.mem_singleton.mp q]; omega
    · have mu : okMul (L : Int) (1 + (k : Int)) = true := okMul_sm (n := 20) (m := 20) (by unfold Sm; omega) (by unfold Sm; omega) (by decide)
      have ct := cat_tup (h := SH ns (i + 1 + 1) rest) (xs := ((si ss).map PyData.int).dropLast) (ys := [.int ((L : Int) * (1 + (k : Int)))]) (by simp [si]; omega)
      have cl := cut_last (xs := (si ss).map PyData.int) (by simp [si]; omega)
      have eT : tupI (si (ss.dropLast ++ [L * (1 + k)])) = .tuple (((si ss).map PyData.int).dropLast ++ [.int ((L : Int) * (1 + (k : Int)))]) := by
        unfold tupI si
        rw [List.map_append, List.map_append, ← List.map_dropLast, ← List.map_dropLast]
        simp
      rw [eT]
      unfold M9
      rw [x_iff, cn]
      simp only [R.thn_ok, if_true, xs_cons, xs_nil, x_set]
      rw [e_bin, e_slc, e_var, h8]
      simp only [R.bind_ok, eo_none, eo_some, e_neg, e_lit, intV_i, tupI, slc_t, cl]
      rw [e_tup, es_cons, e_bin, e_var, h9]
      simp only [R.bind_ok]
      rw [e_bin, e_lit]
      simp only [R.bind_ok]
      rw [e2]
      simp only [R.bind_ok, binA_i, binV_d, binD_add, binD_mul, mu, if_true, es_nil, toDs_cons, toDs_nil, toD_d, ct, R.thn_ok, RF.thn_nx]
  · rw [decide_eq_false hv] at cn
    refine ⟨ss, i + 1, l1, l6, hs, by omega, by omega, ?_⟩
    have e8 : σ.set 8 (some (.d (tupI (si ss)))) = σ := by
      apply List.ext_getElem?
      intro k
      by_cases z : 8 = k
      · subst z
        rw [List.getElem?_set_self (by omega), h8]
      · rw [List.getElem?_set_ne z]
    rw [e8]
    unfold M9
    rw [x_iff, cn]
    simp only [R.thn_ok, Bool.false_eq_true, if_false, xs_nil]
theorem m10 (h8 : σ[8]? = some (some (.d (tupI (si ss))))) (h9 : σ[9]? = some (I L)) (hL : 1 ≤ L) (hL2 : L ≤ 60) (l6 : ss.length ≤ 6) (hs : ∀ s ∈ ss, 1 ≤ s ∧ (s : Int) ≤ 1000) : ex F (O F (j + 2)) M10 σ h = .ok (.nx (σ.set 10 (some (.d (tupI (tb L (fin L ss))))))) h := by
  have cl := c_lcounts (F := F) (C := O F (j + 1)) (h := h) (L := L) (sides := ss) (by omega) hL2 (fun s h => by have := (hs s h).2; omega) l6
  unfold M10
  simp only [x_set, ev_call, es_cons, es_nil, e_var, h8, h9, R.bind_ok, t_6, cl, R.thn_ok]
theorem m11 (h8 : σ[8]? = some (some (.d (tupI (si ss))))) (h9 : σ[9]? = some (I L)) (h10 : σ[10]? = some (some (.d (tupI (tb L (fin L ss)))))) (hL : 1 ≤ L) (hL2 : L ≤ 60) (l1 : 1 ≤ ss.length) (l6 : ss.length ≤ 6) (hs : ∀ s ∈ ss, 1 ≤ s ∧ (s : Int) ≤ 1000) : ex F (O F (j + 2)) M11 σ h = .ok (.nx σ) h := by
  have o1 : okB 1000000 (si ss) L = true := ok_of l1 (by omega) (fun s h => ⟨(hs s h).1, by have := (hs s h).2; omega⟩) hL (by omega)
  have o2 : okB 1000 (si ss) L = true := ok_of l1 (by omega) hs hL (by omega)
  have hs2 : ∀ s ∈ ss, s ≤ 1000 := fun s h => by have := (hs s h).2; omega
  have cb := c_bars (F := F) (C := O F (j + 1)) (h := h) (by simp [si]; omega) o1
  have cc := c_counts (F := F) (C := O F (j + 1)) (h := h) hL2 hs2 l6 o2
  have bd := fin_bd' (L := L) (by omega) hL2 hs2 l6
  have df := dist_fills (L := L) (sides := ss) (by omega) hL2 (by intro z; subst z; simp at l1)
  have ls : lsetV (.d (tupI (tb L (fin L ss)))) h = .ok (.d (.int ((distI (tb L (fin L ss))).length))) h := by
    unfold lsetV tupI
    simp only [ints_map', tb_len]
    rw [if_pos (by omega)]
  refine same2 (shw_t (L := L) (B := 2 ^ 100) (f := fin L ss) hL2 bd (by decide)) (shw_b (fillsB (si ss) L)) ?_ ?_
  · simp only [e_ofL, el_dsp, es_cons, es_nil, e_told, ev_call, e_var, h8, h9, R.bind_ok, t_0, t_1, cb, cc, told_v, List.length_cons, List.length_nil, Nat.zero_add, Nat.reduceAdd, f2, if_true, toDs_cons, toDs_nil, toD_d]
  · simp only [e_ofL, el_dsp, es_cons, es_nil, e_tup, e_lit, e_var, h10, R.bind_ok, toDs_cons, toDs_nil, toD_d, e_cmp, e_lset, ls, cmpV_d, cmpD_eqi, df, List.length_cons, List.length_nil, Nat.zero_add, Nat.reduceAdd, f2, if_true]
def refd : D := .tuple [.str "refused"]
theorem m12 : ex F (O F (j + 2)) M12 σ h = .ok (.nx (σ.set 11 (some (.d (.list [refd, refd, refd, refd, refd, refd]))))) h := by
  have x1 := x_bars (F := F) (C := O F (j + 1)) (h := h) (sides := []) (long := 1) (by decide) (by decide)
  have x2 := x_bars (F := F) (C := O F (j + 1)) (h := h) (sides := [1, 1, 1, 1, 1, 1, 1]) (long := 1) (by decide) (by decide)
  have x3 := x_bars (F := F) (C := O F (j + 1)) (h := h) (sides := [0]) (long := 1) (by decide) (by decide)
  have x4 := x_bars (F := F) (C := O F (j + 1)) (h := h) (sides := [1]) (long := 0) (by decide) (by decide)
  have x5 := x_bars (F := F) (C := O F (j + 1)) (h := h) (sides := [1000001]) (long := 1) (by decide) (by decide)
  have x6 := x_counts (F := F) (C := O F (j + 1)) (h := h) (sides := []) (long := 1) (by decide) (by decide)
  unfold tupI at x1 x2 x3 x4 x5 x6
  simp only [List.map_cons, List.map_nil] at x1 x2 x3 x4 x5 x6
  have r7 : binA .mul (.d (.tuple [.int 1])) (.d (.int 7)) h = .ok (.d (.tuple [.int 1, .int 1, .int 1, .int 1, .int 1, .int 1, .int 1])) h := by
    show repV (.d (.tuple [.int 1])) (.d (.int 7)) h = _
    have lg : decide ((7 : Int).natAbs.log2 < 9) = true := by decide
    unfold repV
    simp only [lg]
    rfl
  have f6 : fits 6 = true := fits_le (by omega)
  have pw : (10 : Int) ^ (6 : Int).toNat + 1 = 1000001 := by decide
  unfold M12
  simp only [x_set, e_ofL, el_dsp, es_cons, es_nil, e_told, ev_call, e_tup, e_lit, R.bind_ok, toDs_cons, toDs_nil, toD_d, t_0, t_1, e_bin, r7, binA_i, binV_d, binD_pow, okPow6, if_true, binD_add, pw, x1, x2, x3, x4, x5, x6, told_e, List.length_cons, List.length_nil, Nat.zero_add, Nat.reduceAdd, f6, R.thn_ok, refd]
theorem refs_eq : cmpD .ne (.list [refd, refd, refd, refd, refd, refd, refd, refd, refd]) (.list [refd, refd, refd, refd, refd, refd, refd, refd, refd]) = some false := by
  decide +kernel
theorem m13 (h11 : σ[11]? = some (some (.d (.list [refd, refd, refd, refd, refd, refd])))) : ex F (O F (j + 2)) M13 σ h = .ok (.nx σ) h := by
  have x1 := x_counts (F := F) (C := O F (j + 1)) (h := h) (sides := [1001]) (long := 1) (by decide) (by decide)
  have x2 := x_counts (F := F) (C := O F (j + 1)) (h := h) (sides := [1]) (long := 1001) (by decide) (by decide)
  have x3 := x_counts (F := F) (C := O F (j + 1)) (h := h) (sides := [1, 0]) (long := 1) (by decide) (by decide)
  unfold tupI at x1 x2 x3
  simp only [List.map_cons, List.map_nil] at x1 x2 x3
  have f3 : fits 3 = true := fits_le (by omega)
  have f1 : fits 1 = true := fits_le (by omega)
  have f9 : fits 9 = true := fits_le (by omega)
  have e1 : ev F (O F (j + 2)) (.ofL (.cat (.var 11) (.ofL (.dsp [(.told toldWs (.call 1 [(.tup [(.lit (.int 1001))]), (.lit (.int 1))])), (.told toldWs (.call 1 [(.tup [(.lit (.int 1))]), (.lit (.int 1001))])), (.told toldWs (.call 1 [(.tup [(.lit (.int 1)), (.lit (.int 0))]), (.lit (.int 1))]))])))) σ h = .ok (.d (.list [refd, refd, refd, refd, refd, refd, refd, refd, refd])) h := by
    have cl : catL (.d (.list [refd, refd, refd, refd, refd, refd])) (.d (.list [refd, refd, refd])) h = .ok (([refd, refd, refd, refd, refd, refd, refd, refd, refd] : List D).map .d) h := by
      unfold catL elsL
      simp only [List.length_map, List.length_cons, List.length_nil, Nat.zero_add, Nat.reduceAdd, f9, if_true, List.map_cons, List.map_nil, List.cons_append, List.nil_append]
    simp only [e_ofL, el_cat, e_var, h11, el_dsp, es_cons, es_nil, e_told, ev_call, e_tup, e_lit, R.bind_ok, toDs_cons, toDs_nil, toD_d, t_1, x1, x2, x3, told_e, List.length_cons, List.length_nil, Nat.zero_add, Nat.reduceAdd, f3, if_true]
    have cl := cl
    unfold refd at cl
    unfold refd
    rw [cl]
    simp only [R.bind_ok, toDs_map]
  have e2 : ev F (O F (j + 2)) (.ofL (.rep (.dsp [(.tup [(.lit (.str "refused"))])]) (.lit (.int 9)))) σ h = .ok (.d (.list [refd, refd, refd, refd, refd, refd, refd, refd, refd])) h := by
    have rl : repL [.d refd] (.d (.int 9)) h = .ok (([refd, refd, refd, refd, refd, refd, refd, refd, refd] : List D).map .d) h := by
      have r9 : okRng 9 = true := okRng_of (by omega) (by omega)
      have n9 : (9 : Int).toNat = 9 := rfl
      unfold repL
      simp only [r9, Bool.true_and, List.length_cons, List.length_nil, Nat.zero_add, n9, Nat.one_mul, f9, if_true, rep_flat]
      rfl
    unfold refd at rl
    simp only [e_ofL, el_rep, el_dsp, es_cons, es_nil, e_tup, e_lit, R.bind_ok, toDs_cons, toDs_nil, toD_d, List.length_cons, List.length_nil, Nat.zero_add, f1, if_true, rl, toDs_map, refd]
  have c : cnd F (O F (j + 2)) (.cmp .ne (.ofL (.cat (.var 11) (.ofL (.dsp [(.told toldWs (.call 1 [(.tup [(.lit (.int 1001))]), (.lit (.int 1))])), (.told toldWs (.call 1 [(.tup [(.lit (.int 1))]), (.lit (.int 1001))])), (.told toldWs (.call 1 [(.tup [(.lit (.int 1)), (.lit (.int 0))]), (.lit (.int 1))]))])))) (.ofL (.rep (.dsp [(.tup [(.lit (.str "refused"))])]) (.lit (.int 9))))) σ h = .ok false h := by
    unfold cnd tst
    rw [e_cmp, e1]
    simp only [R.bind_ok]
    rw [e2]
    simp only [R.bind_ok, cmpV_d, refs_eq, tru_b]
  unfold M13
  rw [x_iff, c]
  simp only [R.thn_ok, Bool.false_eq_true, if_false, xs_nil]
end
end K13

set_option linter.all false
set_option Elab.async false
set_option autoImplicit false
set_option maxRecDepth 100000
namespace K13
open PySem Ip
section
variable {F j : Nat} {ns : List Int} {i : Int} {rest : Hq}
theorem rs_app {xs : List Int} (h : Rs rest) : Rs (rest ++ [oI xs]) := fun x hx => by
  rcases List.mem_append.mp hx with q | q
  · exact h x q
  · exact ⟨_, List.mem_singleton.mp q⟩
theorem turn_ok (hF : 1000000 ≤ F) (hn : Nm ns) (hR : Rs rest) (hi : 0 ≤ i) (hi2 : i < 60000) {v : Val} {a0 c2 c3 c4 c5 c6 c7 c8 c9 c10 c11 c12 c13 c14 : Option Val} :
    ∃ (σ' : Sg) (i' : Int) (rest' : Hq), (∃ c2 c3 c4 c5 c6 c7 c8 c9 c10 c11 c12 c13 c14, σ' = [a0, some (.ref 0), c2, c3, c4, c5, c6, c7, c8, c9, c10, c11, c12, c13, c14]) ∧ Rs rest' ∧ i ≤ i' ∧ i' ≤ i + 100 ∧
      turnV (.nm 2) (bdy F (O F (j + 2)) bodyT) v [a0, some (.ref 0), c2, c3, c4, c5, c6, c7, c8, c9, c10, c11, c12, c13, c14] (SH ns i rest) = .ok (.nx σ') (SH ns i' rest') := by
  obtain ⟨ss, i0, s1, s3, sb, b1, b2, e0⟩ := m0 (F := F) (j := j) (σ := [a0, some (.ref 0), some v, c3, c4, c5, c6, c7, c8, c9, c10, c11, c12, c13, c14]) hn hR hi (by omega) rfl rfl
  simp only [List.set_cons_succ, List.set_cons_zero] at e0
  obtain ⟨L, L1, L4, e1⟩ := m1 (F := F) (j := j) (σ := [a0, some (.ref 0), some v, some (.d (tupI (si ss))), c4, c5, c6, c7, c8, c9, c10, c11, c12, c13, c14]) hn hR (i := i0) (by omega) (by omega) rfl
  simp only [List.set_cons_succ, List.set_cons_zero] at e1
  have e2 := m2 (F := F) (C := O F (j + 2)) (h := SH ns (i0 + 1) rest) (σ := [a0, some (.ref 0), some v, some (.d (tupI (si ss))), I L, c5, c6, c7, c8, c9, c10, c11, c12, c13, c14]) (ss := ss) (L := L) rfl (by omega) rfl rfl L1
  simp only [List.set_cons_succ, List.set_cons_zero] at e2
  have e3 := m3 (F := F) (C := O F (j + 2)) (h := SH ns (i0 + 1) rest) (σ := [a0, some (.ref 0), some v, some (.d (tupI (si ss))), I L, some (.d (.bool (fillsB (si ss) L))), c6, c7, c8, c9, c10, c11, c12, c13, c14]) (L := L) rfl (by omega)
  simp only [List.set_cons_succ, List.set_cons_zero] at e3
  obtain ⟨d7, e4⟩ := m4 (F := F) (j := j) (h := SH ns (i0 + 1) rest) (σ := [a0, some (.ref 0), some v, some (.d (tupI (si ss))), I L, some (.d (.bool (fillsB (si ss) L))), some (.ref (SH ns (i0 + 1) rest).length), c7, c8, c9, c10, c11, c12, c13, c14]) (ss := ss) (L := L) hF rfl (fun s h => by have := (sb s h).2; omega) (by omega) rfl rfl rfl L1 (by omega)
  simp only [List.set_cons_succ, List.set_cons_zero] at e4
  have e5 := m5 (F := F) (j := j) (h := SH ns (i0 + 1) rest ++ [oI (tb L (tot (places ss) L))]) (σ := [a0, some (.ref 0), some v, some (.d (tupI (si ss))), I L, some (.d (.bool (fillsB (si ss) L))), some (.ref (SH ns (i0 + 1) rest).length), d7, c8, c9, c10, c11, c12, c13, c14]) (ss := ss) (L := L) s1 (by omega) sb L1 L4 rfl rfl rfl rfl app_last
  obtain ⟨d12, e6⟩ := m6 (F := F) (j := j) (h := SH ns (i0 + 1) rest ++ [oI (tb L (tot (places ss) L))]) (σ := [a0, some (.ref 0), some v, some (.d (tupI (si ss))), I L, some (.d (.bool (fillsB (si ss) L))), some (.ref (SH ns (i0 + 1) rest).length), d7, c8, c9, c10, c11, c12, c13, c14]) (ss := ss) (L := L) hF rfl s1 (by omega) sb L1 L4 rfl rfl rfl
  simp only [List.set_cons_succ, List.set_cons_zero] at e6
  have hR2 : Rs (rest ++ [oI (tb L (tot (places ss) L))]) := rs_app hR
  have hh : SH ns (i0 + 1) rest ++ [oI (tb L (tot (places ss) L))] = SH ns (i0 + 1) (rest ++ [oI (tb L (tot (places ss) L))]) := rfl
  rw [hh] at e4 e5 e6
  generalize rest ++ [oI (tb L (tot (places ss) L))] = rest2 at hR2 e4 e5 e6
  obtain ⟨gs, i7, g1, g6, gb, b3, b4, e7⟩ := m7 (F := F) (j := j) (σ := [a0, some (.ref 0), some v, some (.d (tupI (si ss))), I L, some (.d (.bool (fillsB (si ss) L))), some (.ref (SH ns (i0 + 1) rest).length), d7, c8, c9, c10, c11, d12, c13, c14]) hn hR2 (i := i0 + 1) (by omega) (by omega) rfl rfl
  simp only [List.set_cons_succ, List.set_cons_zero] at e7
  obtain ⟨w, w1, w2, e8⟩ := m8 (F := F) (j := j) (σ := [a0, some (.ref 0), some v, some (.d (tupI (si ss))), I L, some (.d (.bool (fillsB (si ss) L))), some (.ref (SH ns (i0 + 1) rest).length), d7, some (.d (tupI (si gs))), c9, c10, c11, d12, c13, c14]) hn hR2 (i := i7) (by omega) (by omega) rfl
  simp only [List.set_cons_succ, List.set_cons_zero] at e8
  obtain ⟨ts, i9, t1, t6, tb', b5, b6, e9⟩ := m9 (F := F) (j := j) (σ := [a0, some (.ref 0), some v, some (.d (tupI (si ss))), I L, some (.d (.bool (fillsB (si ss) L))), some (.ref (SH ns (i0 + 1) rest).length), d7, some (.d (tupI (si gs))), I w, c10, c11, d12, c13, c14]) (ss := gs) (L := w) hn hR2 (i := i7 + 1 + 1) (by omega) (by omega) rfl rfl rfl rfl w1 w2 g1 (by omega) gb
  simp only [List.set_cons_succ, List.set_cons_zero] at e9
  have e10 := m10 (F := F) (j := j) (h := SH ns i9 rest2) (σ := [a0, some (.ref 0), some v, some (.d (tupI (si ss))), I L, some (.d (.bool (fillsB (si ss) L))), some (.ref (SH ns (i0 + 1) rest).length), d7, some (.d (tupI (si ts))), I w, c10, c11, d12, c13, c14]) (ss := ts) (L := w) rfl rfl w1 w2 t6 tb'
  simp only [List.set_cons_succ, List.set_cons_zero] at e10
  have e11 := m11 (F := F) (j := j) (h := SH ns i9 rest2) (σ := [a0, some (.ref 0), some v, some (.d (tupI (si ss))), I L, some (.d (.bool (fillsB (si ss) L))), some (.ref (SH ns (i0 + 1) rest).length), d7, some (.d (tupI (si ts))), I w, some (.d (tupI (tb w (fin w ts)))), c11, d12, c13, c14]) (ss := ts) (L := w) rfl rfl rfl w1 w2 t1 t6 tb'
  have e12 := m12 (F := F) (j := j) (h := SH ns i9 rest2) (σ := [a0, some (.ref 0), some v, some (.d (tupI (si ss))), I L, some (.d (.bool (fillsB (si ss) L))), some (.ref (SH ns (i0 + 1) rest).length), d7, some (.d (tupI (si ts))), I w, some (.d (tupI (tb w (fin w ts)))), c11, d12, c13, c14])
  simp only [List.set_cons_succ, List.set_cons_zero] at e12
  have e13 := m13 (F := F) (j := j) (h := SH ns i9 rest2) (σ := [a0, some (.ref 0), some v, some (.d (tupI (si ss))), I L, some (.d (.bool (fillsB (si ss) L))), some (.ref (SH ns (i0 + 1) rest).length), d7, some (.d (tupI (si ts))), I w, some (.d (tupI (tb w (fin w ts)))), some (.d (.list [refd, refd, refd, refd, refd, refd])), d12, c13, c14]) rfl
  refine ⟨[a0, some (.ref 0), some v, some (.d (tupI (si ss))), I L, some (.d (.bool (fillsB (si ss) L))), some (.ref (SH ns (i0 + 1) rest).length), d7, some (.d (tupI (si ts))), I w, some (.d (tupI (tb w (fin w ts)))), some (.d (.list [refd, refd, refd, refd, refd, refd])), d12, c13, c14], i9, rest2, ⟨_, _, _, _, _, _, _, _, _, _, _, _, _, rfl⟩, hR2, by omega, by omega, ?_⟩
  show exs F (O F (j + 2)) bodyT [a0, some (.ref 0), some v, c3, c4, c5, c6, c7, c8, c9, c10, c11, c12, c13, c14] (SH ns i rest) = _
  unfold bodyT
  rw [xs_cons, e0, RF.thn_nx, xs_cons, e1, RF.thn_nx, xs_cons, e2, RF.thn_nx, xs_cons, e3, RF.thn_nx, xs_cons, e4, RF.thn_nx, xs_cons, e5, RF.thn_nx, xs_cons, e6, RF.thn_nx, xs_cons, e7, RF.thn_nx, xs_cons, e8, RF.thn_nx, xs_cons, e9, RF.thn_nx, xs_cons, e10, RF.thn_nx, xs_cons, e11, RF.thn_nx, xs_cons, e12, RF.thn_nx, xs_cons, e13, RF.thn_nx, xs_nil]
theorem plain (ns : List Int) (hl : ns.length ≤ 63) : ∃ h, Ip.run (2 ^ 400) (orcs (fnsOf rows) (2 ^ 400) 6) f_law [.d (.list (ns.map .int))] [] = .ok (.d (.bool true)) h := by
  obtain ⟨F, hF⟩ : ∃ F : Nat, F = 2 ^ 400 := ⟨_, rfl⟩
  have hF2 : 1000000 ≤ F := by
    rw [hF]
    exact Nat.le_trans (show 1000000 ≤ 2 ^ 20 by decide) (Nat.pow_le_pow_right (by decide) (by decide))
  rw [← hF]
  obtain ⟨out, hn, es⟩ := c_stream (F := F) (C := O F 5) (h := []) ns hl
  have key := forL_cnt (N := 5) (f := turnV (.nm 2) (bdy F (O F 6) bodyT)) (P := fun n σ h => ∃ (i : Int) (rest : Hq) (c2 c3 c4 c5 c6 c7 c8 c9 c10 c11 c12 c13 c14 : Option Val), σ = [some (.d (.list (ns.map .int))), some (.ref 0), c2, c3, c4, c5, c6, c7, c8, c9, c10, c11, c12, c13, c14] ∧ h = SH out i rest ∧ Rs rest ∧ 0 ≤ i ∧ i ≤ 100 * n)
    (fun n σ h ⟨i, rest, c2, c3, c4, c5, c6, c7, c8, c9, c10, c11, c12, c13, c14, e1, e2, e3, e4, e5⟩ => ⟨i, rest, c2, c3, c4, c5, c6, c7, c8, c9, c10, c11, c12, c13, c14, e1, e2, e3, e4, by omega⟩)
    (rangeL 0 5) 0 [some (.d (.list (ns.map .int))), some (.ref 0), none, none, none, none, none, none, none, none, none, none, none, none, none] (SH out 0 [])
    (fun v hv n σ h hN hp => by
      obtain ⟨i, rest, c2, c3, c4, c5, c6, c7, c8, c9, c10, c11, c12, c13, c14, rfl, rfl, hR, e3, e4⟩ := hp
      obtain ⟨σ', i', rest', ⟨d2, d3, d4, d5, d6, d7, d8, d9, d10, d11, d12, d13, d14, rfl⟩, hR', b1, b2, e⟩ := turn_ok (F := F) (j := 4) (v := v) (a0 := some (.d (.list (ns.map .int)))) (c2 := c2) (c3 := c3) (c4 := c4) (c5 := c5) (c6 := c6) (c7 := c7) (c8 := c8) (c9 := c9) (c10 := c10) (c11 := c11) (c12 := c12) (c13 := c13) (c14 := c14) hF2 hn hR e3 (by omega)
      exact ⟨_, _, ⟨i', rest', _, _, _, _, _, _, _, _, _, _, _, _, _, rfl, rfl, hR', by omega, by omega⟩, .inl e⟩) (by simp [rangeL_len]) ⟨0, [], none, none, none, none, none, none, none, none, none, none, none, none, none, rfl, rfl, fun x hx => (by cases hx), by omega, by omega⟩
  obtain ⟨σ', h', ⟨i, rest, c2, c3, c4, c5, c6, c7, c8, c9, c10, c11, c12, c13, c14, rfl, rfl, _, _, _⟩, e⟩ := key
  have ok : okRng 5 = true := by decide
  have f2 : fits 2 = true := f2
  refine ⟨SH out i rest, ?_⟩
  have st : ([IO.lst [Val.d (.list (out.map .int)), Val.d (.int 0)]] : Hq) = SH out 0 [] := rfl
  simp [Ip.run, f_law, b_is, es, ok, f2, e]
end
end K13

set_option linter.all false
set_option Elab.async false
set_option autoImplicit false
set_option maxRecDepth 100000
namespace K13
open PySem L2 PyProof.Rows Ip
theorem d_bars_fill {K : PySem.W.Frag} {f : Addr} {oc : Value} {od an : Option Addr} {osl : Array (Option Value)} {kV doc pm cdv ct : Value} (a : PySem.W.nsIn K mainGlobals "bars_fill" = some (some (.ref f)))
    (l : K.lookup f = some ⟨oc, od, .func (PySem.W.fnOf "bars_fill" "bars_fill" (defArgs (topS 9)) (defBody (topS 9)) (defScope (topS 9)) .none kV doc pm an cdv ct), osl⟩) (c : PySem.W.codeIn K cdv "bars_fill" = true) (k : PySem.W.keepIn K (.ref f) = true) : DefK K r_bars_fill.x r_bars_fill.st r_bars_fill.ps :=
  dk_mk a l c k fun _ _ _ _ _ _ us hl => match us, hl with | [_, _], _ => rfl
theorem d_colour_counts {K : PySem.W.Frag} {f : Addr} {oc : Value} {od an : Option Addr} {osl : Array (Option Value)} {kV doc pm cdv ct : Value} (a : PySem.W.nsIn K mainGlobals "colour_counts" = some (some (.ref f)))
    (l : K.lookup f = some ⟨oc, od, .func (PySem.W.fnOf "colour_counts" "colour_counts" (defArgs (topS 10)) (defBody (topS 10)) (defScope (topS 10)) .none kV doc pm an cdv ct), osl⟩) (c : PySem.W.codeIn K cdv "colour_counts" = true) (k : PySem.W.keepIn K (.ref f) = true) : DefK K r_colour_counts.x r_colour_counts.st r_colour_counts.ps :=
  dk_mk a l c k fun _ _ _ _ _ _ us hl => match us, hl with | [_, _], _ => rfl
theorem d__law_same {K : PySem.W.Frag} {f : Addr} {oc : Value} {od an : Option Addr} {osl : Array (Option Value)} {kV doc pm cdv ct : Value} (a : PySem.W.nsIn K mainGlobals "_law_same" = some (some (.ref f)))
    (l : K.lookup f = some ⟨oc, od, .func (PySem.W.fnOf "_law_same" "_law_same" (defArgs (topS 12)) (defBody (topS 12)) (defScope (topS 12)) .none kV doc pm an cdv ct), osl⟩) (c : PySem.W.codeIn K cdv "_law_same" = true) (k : PySem.W.keepIn K (.ref f) = true) : DefK K r__law_same.x r__law_same.st r__law_same.ps :=
  dk_mk a l c k fun _ _ _ _ _ _ us hl => match us, hl with | [_, _], _ => rfl
theorem d__law_stream {K : PySem.W.Frag} {f : Addr} {oc : Value} {od an : Option Addr} {osl : Array (Option Value)} {kV doc pm cdv ct : Value} (a : PySem.W.nsIn K mainGlobals "_law_stream" = some (some (.ref f)))
    (l : K.lookup f = some ⟨oc, od, .func (PySem.W.fnOf "_law_stream" "_law_stream" (defArgs (topS 13)) (defBody (topS 13)) (defScope (topS 13)) .none kV doc pm an cdv ct), osl⟩) (c : PySem.W.codeIn K cdv "_law_stream" = true) (k : PySem.W.keepIn K (.ref f) = true) : DefK K r__law_stream.x r__law_stream.st r__law_stream.ps :=
  dk_mk a l c k fun _ _ _ _ _ _ us hl => match us, hl with | [_], _ => rfl
theorem d__law_next {K : PySem.W.Frag} {f : Addr} {oc : Value} {od an : Option Addr} {osl : Array (Option Value)} {kV doc pm cdv ct : Value} (a : PySem.W.nsIn K mainGlobals "_law_next" = some (some (.ref f)))
    (l : K.lookup f = some ⟨oc, od, .func (PySem.W.fnOf "_law_next" "_law_next" (defArgs (topS 14)) (defBody (topS 14)) (defScope (topS 14)) .none kV doc pm an cdv ct), osl⟩) (c : PySem.W.codeIn K cdv "_law_next" = true) (k : PySem.W.keepIn K (.ref f) = true) : DefK K r__law_next.x r__law_next.st r__law_next.ps :=
  dk_mk a l c k fun _ _ _ _ _ _ us hl => match us, hl with | [_, _], _ => rfl
theorem d__law_places {K : PySem.W.Frag} {f : Addr} {oc : Value} {od an : Option Addr} {osl : Array (Option Value)} {kV doc pm cdv ct : Value} (a : PySem.W.nsIn K mainGlobals "_law_places" = some (some (.ref f)))
    (l : K.lookup f = some ⟨oc, od, .func (PySem.W.fnOf "_law_places" "_law_places" (defArgs (topS 16)) (defBody (topS 16)) (defScope (topS 16)) .none kV doc pm an cdv ct), osl⟩) (c : PySem.W.codeIn K cdv "_law_places" = true) (k : PySem.W.keepIn K (.ref f) = true) : DefK K r__law_places.x r__law_places.st r__law_places.ps :=
  dk_mk a l c k fun _ _ _ _ _ _ us hl => match us, hl with | [_], _ => rfl
theorem d__law_counts {K : PySem.W.Frag} {f : Addr} {oc : Value} {od an : Option Addr} {osl : Array (Option Value)} {kV doc pm cdv ct : Value} (a : PySem.W.nsIn K mainGlobals "_law_counts" = some (some (.ref f)))
    (l : K.lookup f = some ⟨oc, od, .func (PySem.W.fnOf "_law_counts" "_law_counts" (defArgs (topS 17)) (defBody (topS 17)) (defScope (topS 17)) .none kV doc pm an cdv ct), osl⟩) (c : PySem.W.codeIn K cdv "_law_counts" = true) (k : PySem.W.keepIn K (.ref f) = true) : DefK K r__law_counts.x r__law_counts.st r__law_counts.ps :=
  dk_mk a l c k fun _ _ _ _ _ _ us hl => match us, hl with | [_, _], _ => rfl
theorem d__law_found {K : PySem.W.Frag} {f : Addr} {oc : Value} {od an : Option Addr} {osl : Array (Option Value)} {kV doc pm cdv ct : Value} (a : PySem.W.nsIn K mainGlobals "_law_found" = some (some (.ref f)))
    (l : K.lookup f = some ⟨oc, od, .func (PySem.W.fnOf "_law_found" "_law_found" (defArgs (topS 18)) (defBody (topS 18)) (defScope (topS 18)) .none kV doc pm an cdv ct), osl⟩) (c : PySem.W.codeIn K cdv "_law_found" = true) (k : PySem.W.keepIn K (.ref f) = true) : DefK K r__law_found.x r__law_found.st r__law_found.ps :=
  dk_mk a l c k fun _ _ _ _ _ _ us hl => match us, hl with | [_, _], _ => rfl
theorem d_law {K : PySem.W.Frag} {f : Addr} {oc : Value} {od an : Option Addr} {osl : Array (Option Value)} {kV doc pm cdv ct : Value} (a : PySem.W.nsIn K mainGlobals "law" = some (some (.ref f)))
    (l : K.lookup f = some ⟨oc, od, .func (PySem.W.fnOf "law" "law" (defArgs (topS 19)) (defBody (topS 19)) (defScope (topS 19)) .none kV doc pm an cdv ct), osl⟩) (c : PySem.W.codeIn K cdv "law" = true) (k : PySem.W.keepIn K (.ref f) = true) : DefK K r_law.x r_law.st r_law.ps :=
  dk_mk a l c k fun _ _ _ _ _ _ us hl => match us, hl with | [_], _ => rfl
theorem d__law_told {K : PySem.W.Frag} {f : Addr} {oc : Value} {od an : Option Addr} {osl : Array (Option Value)} {kV doc pm cdv ct : Value} (a : PySem.W.nsIn K mainGlobals "_law_told" = some (some (.ref f)))
    (l : K.lookup f = some ⟨oc, od, .func (PySem.W.fnOf "_law_told" "_law_told" (defArgs (topS 15)) (defBody (topS 15)) (defScope (topS 15)) .none kV doc pm an cdv ct), osl⟩) (c : PySem.W.codeIn K cdv "_law_told" = true) (k : PySem.W.keepIn K (.ref f) = true) : DefK K t_told.x t_told.st ["call"] :=
  dk_mk a l c k fun _ _ _ _ _ _ us hl => match us, hl with | [_], _ => rfl
theorem mk {q : Program} {l : PySem.W.OpenLaw} {w : World} {K : PySem.W.Frag} {h : Heap} {mg : Str → Option Value} {fa : Addr} {cs : List (Addr × Addr)} (X : K.In h) (G : h.Ns mainGlobals mg) (hfa : mg "law" = some (.ref fa))
    (d_bars_fill : DefK K r_bars_fill.x r_bars_fill.st r_bars_fill.ps) (d_colour_counts : DefK K r_colour_counts.x r_colour_counts.st r_colour_counts.ps) (d__law_same : DefK K r__law_same.x r__law_same.st r__law_same.ps) (d__law_stream : DefK K r__law_stream.x r__law_stream.st r__law_stream.ps) (d__law_next : DefK K r__law_next.x r__law_next.st r__law_next.ps) (d__law_places : DefK K r__law_places.x r__law_places.st r__law_places.ps) (d__law_counts : DefK K r__law_counts.x r__law_counts.st r__law_counts.ps) (d__law_found : DefK K r__law_found.x r__law_found.st r__law_found.ps) (d_law : DefK K r_law.x r_law.st r_law.ps) (d_told : DefK K t_told.x t_told.st ["call"]) (tn : TellN K t_told ["NotAllowed"])
    (z_len : PySem.W.nsIn K mainGlobals "len" = some none) (z_abs : PySem.W.nsIn K mainGlobals "abs" = some none) (z_int : PySem.W.nsIn K mainGlobals "int" = some none) (z_str : PySem.W.nsIn K mainGlobals "str" = some none) (z_repr : PySem.W.nsIn K mainGlobals "repr" = some none) (z_sum : PySem.W.nsIn K mainGlobals "sum" = some none) (z_max : PySem.W.nsIn K mainGlobals "max" = some none) (z_min : PySem.W.nsIn K mainGlobals "min" = some none) (z_all : PySem.W.nsIn K mainGlobals "all" = some none) (z_any : PySem.W.nsIn K mainGlobals "any" = some none) (z_range : PySem.W.nsIn K mainGlobals "range" = some none) (z_zip : PySem.W.nsIn K mainGlobals "zip" = some none) (z_list : PySem.W.nsIn K mainGlobals "list" = some none) (z_tuple : PySem.W.nsIn K mainGlobals "tuple" = some none) (z_isinstance : PySem.W.nsIn K mainGlobals "isinstance" = some none) (z_sorted : PySem.W.nsIn K mainGlobals "sorted" = some none) (z_set : PySem.W.nsIn K mainGlobals "set" = some none) (z_enumerate : PySem.W.nsIn K mainGlobals "enumerate" = some none) (z_divmod : PySem.W.nsIn K mainGlobals "divmod" = some none) (c_NotAllowed : CK K "NotAllowed")
    (lk : LamsK q K ["law"] cs) (nd : (cs.map (·.2)).Nodup) (gk : GlsK K ext.gl) :
    AtLaw q l w K 63 "script" mg fa :=
  all_mk (ex := ext) (F := (2 ^ 400)) (J := 6) (f := 8) (r := r_law) (xs := ["NotAllowed"]) (cs := cs) rows_ok defs_ok ⟨⟨rfl, by decide +kernel, by decide +kernel⟩, rfl⟩ rfl rfl rfl rfl (by decide +kernel) (fun _ _ _ _ _ _ _ _ => .of_eq rfl) plain X G hfa ⟨d_bars_fill, d_colour_counts, d__law_same, d__law_stream, d__law_next, d__law_places, d__law_counts, d__law_found, d_law, trivial⟩ ⟨z_len, z_abs, z_int, z_str, z_repr, z_sum, z_max, z_min, z_all, z_any, z_range, z_zip, z_list, z_tuple, z_isinstance, z_sorted, z_set, z_enumerate, z_divmod, trivial⟩ ⟨c_NotAllowed, trivial⟩ lk nd (tellT_some told_c rfl d_told tn tells) gk
end K13
open PySem PySem.W PyProof.Rows
set_option maxHeartbeats 0 in
theorem PySem.Challenge.cw_cellshapes_k13_whole_bars_in_boxes_holds : PySem.Challenge.rw_cellshapes_k13_whole_bars_in_boxes.Holds := by
  w_on; o_law; k_head; (case hw => w_witness2)
  k_fill
  refine Ip.walk_G (l := PySem.Challenge.rw_cellshapes_k13_whole_bars_in_boxes) (n := 63) (x := "script") rfl (by decide) rfl (fun w h Y => PySem.W.km_in_of Y) ?F
  case F =>
    intro w mg fa h KX G hmg
    refine' K13.mk KX G hmg ?d_bars_fill ?d_colour_counts ?d__law_same ?d__law_stream ?d__law_next ?d__law_places ?d__law_counts ?d__law_found ?d_law ?d_told ?tn ?z_len ?z_abs ?z_int ?z_str ?z_repr ?z_sum ?z_max ?z_min ?z_all ?z_any ?z_range ?z_zip ?z_list ?z_tuple ?z_isinstance ?z_sorted ?z_set ?z_enumerate ?z_divmod ?c_NotAllowed (Ip.lamsK_mk ?lt0 ?ln0 ?lf0 Ip.lamsK_nil) ?nd (Ip.gls_mk ?g_MAX_SIDE trivial)
    (case d_bars_fill => (refine' K13.d_bars_fill ?a ?l ?c ?k; (case a => k_is); (case l => k_is); (case c => k_is); (case k => k_is)))
    (case d_colour_counts => (refine' K13.d_colour_counts ?a ?l ?c ?k; (case a => k_is); (case l => k_is); (case c => k_is); (case k => k_is)))
    (case d__law_same => (refine' K13.d__law_same ?a ?l ?c ?k; (case a => k_is); (case l => k_is); (case c => k_is); (case k => k_is)))
    (case d__law_stream => (refine' K13.d__law_stream ?a ?l ?c ?k; (case a => k_is); (case l => k_is); (case c => k_is); (case k => k_is)))
    (case d__law_next => (refine' K13.d__law_next ?a ?l ?c ?k; (case a => k_is); (case l => k_is); (case c => k_is); (case k => k_is)))
    (case d__law_places => (refine' K13.d__law_places ?a ?l ?c ?k; (case a => k_is); (case l => k_is); (case c => k_is); (case k => k_is)))
    (case d__law_counts => (refine' K13.d__law_counts ?a ?l ?c ?k; (case a => k_is); (case l => k_is); (case c => k_is); (case k => k_is)))
    (case d__law_found => (refine' K13.d__law_found ?a ?l ?c ?k; (case a => k_is); (case l => k_is); (case c => k_is); (case k => k_is)))
    (case d_law => (refine' K13.d_law ?a ?l ?c ?k; (case a => k_is); (case l => k_is); (case c => k_is); (case k => k_is)))
    (case d_told => (refine' K13.d__law_told ?a ?l ?c ?k; (case a => k_is); (case l => k_is); (case c => k_is); (case k => k_is)))
    (case z_len => k_is)
    (case z_abs => k_is)
    (case z_int => k_is)
    (case z_str => k_is)
    (case z_repr => k_is)
    (case z_sum => k_is)
    (case z_max => k_is)
    (case z_min => k_is)
    (case z_all => k_is)
    (case z_any => k_is)
    (case z_range => k_is)
    (case z_zip => k_is)
    (case z_list => k_is)
    (case z_tuple => k_is)
    (case z_isinstance => k_is)
    (case z_sorted => k_is)
    (case z_set => k_is)
    (case z_enumerate => k_is)
    (case z_divmod => k_is)
    (case c_NotAllowed => (refine' Ip.ck_mk ?a ?e ?k ?s ?t; (case a => k_is); (case e => k_exc); (case k => k_is); (case s => k_is); (case t => k_is)))
    (case lt0 => (refine' Ip.tabIn_mk ?a ?l ?c ?m ?v; (case a => k_is); (case l => k_is); (case c => rfl); (case m => k_is); (case v => rfl)))
    (case ln0 => kernel_rfl)
    (case lf0 => rfl)
    (case nd => decide)
    (case g_MAX_SIDE => k_is)
    case tn =>
      refine' Ip.tellN_mk ?a ?l
      (case a => k_is)
      refine' Ip.tellL_mk ?a ?hg ?hk ?hs ?hd ?ha ?hn ?ht ?hm ?x1 ?x2 ?x3 ?x4 (Ip.isN_mk ?ia0 ?ik0 (Ip.isN_mk ?ia1 ?ik1 (Ip.isN_mk ?ia2 ?ik2 (Ip.isN_mk ?ia3 ?ik3 (Ip.isN_mk ?ia4 ?ik4 trivial))))) ?r
      (case a => first | rfl | k_is)
      (case hg => first | rfl | k_is)
      (case hk => first | rfl | k_is)
      (case hs => first | rfl | k_is)
      (case hd => first | rfl | k_is)
      (case ha => first | rfl | k_is)
      (case hn => first | rfl | k_is)
      (case ht => first | rfl | k_is)
      (case hm => first | rfl | k_is)
      (case x1 => first | rfl | k_is)
      (case x2 => first | rfl | k_is)
      (case x3 => first | rfl | k_is)
      (case x4 => first | rfl | k_is)
      (case ia0 => k_is)
      (case ik0 => first | k_is | rfl)
      (case ia1 => k_is)
      (case ik1 => first | k_is | rfl)
      (case ia2 => k_is)
      (case ik2 => first | k_is | rfl)
      (case ia3 => k_is)
      (case ik3 => first | k_is | rfl)
      (case ia4 => k_is)
      (case ik4 => first | k_is | rfl)
      exact trivial

