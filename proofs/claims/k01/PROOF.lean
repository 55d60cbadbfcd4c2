import PyProof.Rows.All
import HandS.ForExc
import HandS.Comp
import HandS.Lambda
import HandS.Wide
import HandS.Deep
import HandS.Zip
import HandS.Iter
import HandS.FStr
import HandS.TupAny
import HandS.TupMul
import HandS.NoneIn
import HandS.Conv
import KE.SortData
import HandS.Flow
import HandS.Ends
import PySem.Challenge.RW_cellshapes_k01_ratios
set_option linter.all false
set_option Elab.async false
/-! An evaluator of our own over plain data: values, objects, expressions, statements, calls. -/
namespace Ip
open PySem

abbrev D := PyData

/-- a value: plain data that nobody changes; an object of this run that may change; a def -/
inductive Val where
  | d (x : D)
  | ref (n : Nat)
  | fn (f : Nat)

/-- an object: a list that may change; one that is data from now on -/
inductive IO where
  | lst (xs : List Val)
  | dead (x : D)

abbrev Hq := List IO
abbrev Sg := List (Option Val)

structure Exc where
  cls : Nat
  arg : Option D

inductive R (α : Type) where
  | ok (a : α) (h : Hq)
  | er (e : Exc) (h : Hq)
  | no

def R.bind {α β : Type} (r : R α) (f : α → Hq → R β) : R β :=
  match r with
  | .ok a h => f a h
  | .er e h => .er e h
  | .no => .no
@[simp] theorem R.bind_ok {α β : Type} (a : α) (h : Hq) (f : α → Hq → R β) : (R.ok a h).bind f = f a h := rfl
@[simp] theorem R.bind_er {α β : Type} (e : Exc) (h : Hq) (f : α → Hq → R β) : (R.er e h : R α).bind f = R.er e h := rfl
@[simp] theorem R.bind_no {α β : Type} (f : α → Hq → R β) : (R.no : R α).bind f = R.no := rfl
theorem R.bind_assoc {α β γ : Type} (r : R α) (f : α → Hq → R β) (g : β → Hq → R γ) : (r.bind f).bind g = r.bind fun a h => (f a h).bind g := by cases r <;> rfl
/-- nothing may be raised -/
def R.quiet {α : Type} (r : R α) : R α := match r with
  | .er _ _ => .no
  | r => r
@[simp] theorem R.quiet_ok {α : Type} (a : α) (h : Hq) : (R.ok a h).quiet = .ok a h := rfl
@[simp] theorem R.quiet_no {α : Type} : (R.no : R α).quiet = .no := rfl
/-- a look that may fail -/
def R.of {α : Type} (o : Option α) (h : Hq) : R α := match o with | some a => .ok a h | none => .no
@[simp] theorem R.of_some {α : Type} (a : α) (h : Hq) : R.of (some a) h = .ok a h := rfl
@[simp] theorem R.of_none {α : Type} (h : Hq) : (R.of none h : R α) = .no := rfl

inductive Flow where
  | nx (σ : Sg)
  | bk (σ : Sg)
  | ct (σ : Sg)
  | rt (v : Val)

/-! ### looking at values -/
def allO (f : Val → Option D) : List Val → Option (List D)
  | [] => some []
  | v :: vs => match f v, allO f vs with
    | some x, some xs => some (x :: xs)
    | _, _ => none
/-- the data that a value is now -/
def pk (h : Hq) : Nat → Val → Option D
  | 0, v => match v with
    | .d x => some x
    | _ => none
  | n + 1, v => match v with
    | .d x => some x
    | .ref a => match h[a]? with
      | some (.lst vs) => (allO (pk h n) vs).map .list
      | some (.dead x) => some x
      | none => none
    | .fn _ => none
abbrev pks (h : Hq) (n : Nat) (vs : List Val) : Option (List D) := allO (pk h n) vs
abbrev peek (h : Hq) (v : Val) : Option D := pk h 3 v

def dat : Val → Option D
  | .d x => some x
  | _ => none
def dats : List Val → Option (List D)
  | [] => some []
  | v :: vs => match dat v, dats vs with
    | some x, some xs => some (x :: xs)
    | _, _ => none
/-- a value that becomes data: the object changes no more (its items are data) -/
def toD (v : Val) (h : Hq) : R D := match v with
  | .d x => .ok x h
  | .ref a => match h[a]? with
    | some (.lst vs) => match dats vs with
      | some ds => .ok (.list ds) (h.set a (.dead (.list ds)))
      | none => .no
    | some (.dead x) => .ok x h
    | none => .no
  | .fn _ => .no
def toDs : List Val → Hq → R (List D)
  | [], h => .ok [] h
  | v :: vs, h => (toD v h).bind fun x h1 => (toDs vs h1).bind fun xs h2 => .ok (x :: xs) h2

mutual
/-- no list within -/
def flat : D → Bool
  | .none | .bool _ | .int _ | .str _ => true
  | .tuple xs => flatAll xs
  | .list _ => false
  | .dict _ => false
def flatAll : List D → Bool
  | [] => true
  | x :: xs => flat x && flatAll xs
end

/-- the items of a list or tuple -/
def els (h : Hq) : Val → Option (List Val)
  | .d (.list xs) => some (xs.map .d)
  | .d (.tuple xs) => some (xs.map .d)
  | .ref n => match h[n]? with
    | some (.lst vs) => some vs
    | some (.dead (.list xs)) => some (xs.map .d)
    | _ => none
  | _ => none

def fits (n : Nat) : Bool := decide (n ≤ 16777216)
def truthD : D → Option Bool
  | .none => some false
  | .bool b => some b
  | .int i => some (i != 0)
  | .str s => if fits s.length then some (s.length != 0) else none
  | .list xs => some (!xs.isEmpty)
  | .tuple xs => some (!xs.isEmpty)
  | .dict _ => none
def tru (v : Val) (h : Hq) : R Bool := match peek h v with
  | some x => R.of (truthD x) h
  | none => .no

/-! ### operators -/
inductive Bop | add | sub | mul | fdiv | mod | pow
inductive Cop | eq | ne | lt | le | gt | ge | isN | notN | inn | nin

def okMul (i j : Int) : Bool := decide (i.natAbs.log2 + j.natAbs.log2 < 900000)
def okDiv (j : Int) : Bool := decide (j ≠ 0) && decide (j.natAbs.log2 < 8000)
def okPow (i j : Int) : Bool := decide (0 ≤ j) && decide (j ≤ 1000000) && decide (i.natAbs.log2 < 64)

def binD : Bop → D → D → Option D
  | .add, .int i, .int j => some (.int (i + j))
  | .add, .str x, .str y => if fits (x.length + y.length) then some (.str (x ++ y)) else none
  | .sub, .int i, .int j => some (.int (i - j))
  | .mul, .int i, .int j => if okMul i j then some (.int (i * j)) else none
  | .fdiv, .int i, .int j => if okDiv j then some (.int (i.fdiv j)) else none
  | .mod, .int i, .int j => if j = 0 then none else some (.int (i.fmod j))
  | .pow, .int i, .int j => if okPow i j then some (.int (i ^ j.toNat)) else none
  | _, _, _ => none

def cmpD : Cop → D → D → Option Bool
  | .eq, .int x, .int y => some (decide (x = y))
  | .ne, .int x, .int y => some (!decide (x = y))
  | .eq, .str x, .str y => some (decide (x = y))
  | .ne, .str x, .str y => some (!decide (x = y))
  | .eq, x, y => if SeqAt.shaped x && SeqAt.shaped y then some (PyData.eqv x y) else none
  | .ne, x, y => if SeqAt.shaped x && SeqAt.shaped y then some (!PyData.eqv x y) else none
  | .lt, .int i, .int j => some (decide (i < j))
  | .le, .int i, .int j => some (decide (i ≤ j))
  | .gt, .int i, .int j => some (decide (j < i))
  | .ge, .int i, .int j => some (decide (j ≤ i))
  | .isN, x, .none => some (match x with | .none => true | _ => false)
  | .notN, x, .none => some (match x with | .none => false | _ => true)
  | _, _, _ => none

/-- Python's place of an index -/
def ixn (n : Nat) (i : Int) : Option Nat := if 0 ≤ i then (if i < n then some i.toNat else none) else if -(n : Int) ≤ i then some (i + n).toNat else none
def atD (xs : List Val) (i : Int) : Option Val := match ixn xs.length i with | some j => xs[j]? | none => none
/-- an end of a slice -/
def cutIx (n d : Nat) : Option Int → Nat
  | none => d
  | some i => if i < 0 then (i + n).toNat else min i.toNat n
def cutD {α : Type} (xs : List α) (lo hi : Option Int) : List α := (xs.drop (cutIx xs.length 0 lo)).take (cutIx xs.length xs.length hi - cutIx xs.length 0 lo)

/-! ### built-ins by their data -/
inductive Prm | len | abs | int | str | repr | sum | max1 | min1 | max2 | min2 | all | any

def intsOf : List D → Option (List Int)
  | [] => some []
  | .int i :: r => (intsOf r).map (i :: ·)
  | _ => none
def boolsOf : List D → Option (List Bool)
  | [] => some []
  | .bool i :: r => (boolsOf r).map (i :: ·)
  | _ => none
def maxI : Int → List Int → Int
  | m, [] => m
  | m, x :: r => maxI (if x > m then x else m) r
def minI : Int → List Int → Int
  | m, [] => m
  | m, x :: r => minI (if x < m then x else m) r
def sumI : List Int → Int
  | [] => 0
  | x :: r => x + sumI r

def prmD : Prm → List D → Option D
  | .len, [.list xs] => some (.int xs.length)
  | .len, [.tuple xs] => some (.int xs.length)
  | .len, [.str s] => if fits s.length then some (.int s.length) else none
  | .abs, [.int i] => some (.int (if i < 0 then -i else i))
  | .int, [.int i] => some (.int i)
  | .int, [.bool b] => some (.int (if b then 1 else 0))
  | .str, [.int i] => if i.natAbs.log2 < 1920 then some (.str (toString i)) else none
  | .repr, [.list xs] => if (PyData.list xs).showable && !(PyData.list xs).hasDict && decide ((PyData.list xs).depth ≤ 60) && fits (PyData.list xs).shown.length then some (.str (PyData.list xs).shown) else none
  | .repr, [.tuple xs] => if (PyData.tuple xs).showable && !(PyData.tuple xs).hasDict && decide ((PyData.tuple xs).depth ≤ 60) && fits (PyData.tuple xs).shown.length then some (.str (PyData.tuple xs).shown) else none
  | .sum, [.list xs] => (intsOf xs).map fun ns => .int (sumI ns)
  | .max1, [.list xs] => match intsOf xs with | some (n :: ns) => some (.int (maxI n ns)) | _ => none
  | .min1, [.list xs] => match intsOf xs with | some (n :: ns) => some (.int (minI n ns)) | _ => none
  | .max2, [.int i, .int j] => some (.int (if j > i then j else i))
  | .min2, [.int i, .int j] => some (.int (if j < i then j else i))
  | .all, [.list xs] => (boolsOf xs).map fun bs => .bool (bs.all id)
  | .any, [.list xs] => (boolsOf xs).map fun bs => .bool (bs.any id)
  | _, _ => none

/-! ### syntax -/
inductive Tgt where
  | nm (i : Nat)
  | tp (is : List Nat)

mutual
inductive Ex where
  | lit (x : D)
  | var (i : Nat)
  | fnv (f : Nat)
  | bin (o : Bop) (a b : Ex)
  | neg (a : Ex)
  | cmp (o : Cop) (a b : Ex)
  | chn (o o' : Cop) (a b c : Ex)
  | and_ (a b : Ex)
  | or_ (a b : Ex)
  | not_ (a : Ex)
  | ife (c a b : Ex)
  | tup (xs : List Ex)
  | ofL (l : Lx)
  | new (l : Lx)
  | ix (a b : Ex)
  | slc (a : Ex) (lo hi : Option Ex)
  | call (f : Nat) (xs : List Ex)
  | prm (p : Prm) (xs : List Ex)
  | app (o a : Ex)
  | fmt (a : Ex)
  | fst (xs : List Ex)
  | frz (a : Ex)
  | nev
/-- a list that is made here -/
inductive Lx where
  | dsp (xs : List Ex)
  | cmp (own : List Nat) (t : Tgt) (s : Sx) (ifs : List Ex) (e : Ex)
/-- what is walked -/
inductive Sx where
  | val (a : Ex)
  | rng (a : Ex)
  | rng2 (a b : Ex)
  | zip (a b : Ex)
end

inductive St where
  | set (i : Nat) (e : Ex)
  | asg (t : Tgt) (e : Ex)
  | par (i j : Nat) (a b : Ex)
  | six (o i e : Ex)
  | exp (e : Ex)
  | iff (c : Ex) (a b : List St)
  | for_ (t : Tgt) (s : Sx) (b : List St)
  | whl (c : Ex) (b : List St)
  | ret (e : Ex)
  | retN
  | brk
  | cnt
  | pas
  | rse (c : Nat)
  | nev

/-! ### walks -/
def bindT (h : Hq) : Tgt → Val → Sg → Option Sg
  | .nm i, v, σ => some (σ.set i (some v))
  | .tp is, v, σ => match els h v with
    | some vs => if vs.length = is.length then some ((is.zip vs).foldl (fun s p => s.set p.1 (some p.2)) σ) else none
    | none => none
def wipe (σ : Sg) : List Nat → Sg
  | [] => σ
  | i :: is => (wipe σ is).set i none

/-- what a statement brings about -/
inductive RF where
  | ok (fl : Flow) (h : Hq)
  | er (e : Exc) (σ : Sg) (h : Hq)
  | no
/-- an expression, then a statement's rest -/
def R.thn {α : Type} (r : R α) (σ : Sg) (f : α → Hq → RF) : RF := match r with
  | .ok a h => f a h
  | .er e h => .er e σ h
  | .no => .no
@[simp] theorem R.thn_ok {α : Type} (a : α) (h : Hq) (σ : Sg) (f : α → Hq → RF) : (R.ok a h).thn σ f = f a h := rfl
@[simp] theorem R.thn_er {α : Type} (e : Exc) (h : Hq) (σ : Sg) (f : α → Hq → RF) : (R.er e h : R α).thn σ f = .er e σ h := rfl
@[simp] theorem R.thn_no {α : Type} (σ : Sg) (f : α → Hq → RF) : (R.no : R α).thn σ f = .no := rfl
/-- a statement, then the next -/
def RF.thn (r : RF) (f : Sg → Hq → RF) : RF := match r with
  | .ok (.nx σ) h => f σ h
  | r => r
/-- a loop's body, then the next turn -/
def RF.turn (r : RF) (f : Sg → Hq → RF) : RF := match r with
  | .ok (.nx σ) h => f σ h
  | .ok (.ct σ) h => f σ h
  | .ok (.bk σ) h => .ok (.nx σ) h
  | r => r
@[simp] theorem RF.thn_nx (σ : Sg) (h : Hq) (f : Sg → Hq → RF) : (RF.ok (.nx σ) h).thn f = f σ h := rfl
@[simp] theorem RF.turn_nx (σ : Sg) (h : Hq) (f : Sg → Hq → RF) : (RF.ok (.nx σ) h).turn f = f σ h := rfl
@[simp] theorem RF.turn_ct (σ : Sg) (h : Hq) (f : Sg → Hq → RF) : (RF.ok (.ct σ) h).turn f = f σ h := rfl
@[simp] theorem RF.turn_bk (σ : Sg) (h : Hq) (f : Sg → Hq → RF) : (RF.ok (.bk σ) h).turn f = .ok (.nx σ) h := rfl
def forL (f : Val → Sg → Hq → RF) : List Val → Sg → Hq → RF
  | [], σ, h => .ok (.nx σ) h
  | v :: vs, σ, h => (f v σ h).turn fun σ' h1 => forL f vs σ' h1
/-- over an object, as it stands at each turn -/
def forO (f : Val → Sg → Hq → RF) (n : Nat) : Nat → Nat → Sg → Hq → RF
  | 0, _, _, _ => .no
  | w + 1, i, σ, h => match els h (.ref n) with
    | none => .no
    | some vs => match vs[i]? with
      | none => .ok (.nx σ) h
      | some v => (f v σ h).turn fun σ' h1 => forO f n w (i + 1) σ' h1
def whlN (c : Sg → Hq → R Bool) (f : Sg → Hq → RF) : Nat → Sg → Hq → RF
  | 0, _, _ => .no
  | w + 1, σ, h => (c σ h).thn σ fun b h1 => if b then (f σ h1).turn fun σ' h2 => whlN c f w σ' h2 else .ok (.nx σ) h1
def cmpL (f : Val → Hq → R (List Val)) : List Val → Hq → R (List Val)
  | [], h => .ok [] h
  | v :: vs, h => (f v h).bind fun ws h1 => (cmpL f vs h1).bind fun us h2 => .ok (ws ++ us) h2
def rangeL : Int → Nat → List Val
  | _, 0 => []
  | i, n + 1 => .d (.int i) :: rangeL (i + 1) n
def okRng (i : Int) : Bool := decide (i.natAbs.log2 < 62)

abbrev Orc := Nat → List Val → Hq → R Val
/-- what is walked: data, or an object -/
inductive Sv where
  | data (vs : List Val)
  | obj (n : Nat)

def binV (o : Bop) (x y : Val) (h : Hq) : R Val := match peek h x, peek h y with
  | some a, some b => match binD o a b with
    | some c => .ok (.d c) h
    | none => .no
  | _, _ => .no
def cmpV (o : Cop) (x y : Val) (h : Hq) : R Bool := match peek h x, peek h y with
  | some a, some b => match cmpD o a b with
    | some c => .ok c h
    | none => .no
  | _, _ => .no
def ixV (x y : Val) (h : Hq) : R Val := match els h x, y with
  | some vs, .d (.int i) => match atD vs i with
    | some v => .ok v h
    | none => .no
  | none, .d (.int i) => match x with
    | .d (.str z) => if fits z.length then match ixn z.cps.toList.length i with
        | some j => match z.cps.toList[j]? with
          | some c => .ok (.d (.str ⟨#[c]⟩)) h
          | none => .no
        | none => .no
      else .no
    | _ => .no
  | _, _ => .no
/-- the items of a list -/
def elsL (h : Hq) : Val → Option (List Val)
  | .d (.list xs) => some (xs.map .d)
  | .ref n => match h[n]? with
    | some (.lst vs) => some vs
    | some (.dead (.list xs)) => some (xs.map .d)
    | _ => none
  | _ => none
def slcV (x : Val) (l u : Option Int) (h : Hq) : R Val := match elsL h x with
  | some vs => (toDs (cutD vs l u) h).bind fun ds h1 => .ok (.d (.list ds)) h1
  | none => match x with
    | .d (.tuple xs) => .ok (.d (.tuple (cutD xs l u))) h
    | .d (.str z) => if fits z.length then .ok (.d (.str ⟨(cutD z.cps.toList l u).toArray⟩)) h else .no
    | _ => .no
/-- a list that may change -/
def lstV (x : Val) (h : Hq) : R Unit := match x with
  | .ref n => match h[n]? with
    | some (.lst _) => .ok () h
    | _ => .no
  | _ => .no
def prmV (p : Prm) (vs : List Val) (h : Hq) : R Val := match pks h 3 vs with
  | some ds => match prmD p ds with
    | some c => .ok (.d c) h
    | none => .no
  | none => .no
def appV (o v : Val) (h : Hq) : R Val := match o with
  | .ref n => match h[n]? with
    | some (.lst vs) => if vs.length < 16777216 then .ok (.d .none) (h.set n (.lst (vs ++ [v]))) else .no
    | _ => .no
  | _ => .no
def setV (o i v : Val) (h : Hq) : R Unit := match o, i with
  | .ref n, .d (.int k) => match h[n]? with
    | some (.lst vs) => match ixn vs.length k with
      | some j => .ok () (h.set n (.lst (vs.set j v)))
      | none => .no
    | _ => .no
  | _, _ => .no
/-- the text of an f-string's part -/
def partS : Val → Option Str
  | .d (.str s) => if fits s.length then some s else none
  | .d (.int i) => if i.natAbs.log2 < 1920 then some (toString i) else none
  | _ => none

def intV : Val → Option Int
  | .d (.int i) => some i
  | _ => none
def srcV (v : Val) (h : Hq) : R Sv := match v with
  | .ref n => match h[n]? with
    | some (.lst _) => .ok (.obj n) h
    | some (.dead (.list xs)) => .ok (.data (xs.map .d)) h
    | _ => .no
  | v => match els h v with
    | some vs => .ok (.data vs) h
    | none => .no

mutual
def ev (W : Nat) (C : List Orc) : Ex → Sg → Hq → R Val
  | .lit x, _, h => .ok (.d x) h
  | .var i, σ, h => match σ[i]? with
    | some (some v) => .ok v h
    | _ => .no
  | .fnv f, _, h => .ok (.fn f) h
  | .bin o a b, σ, h => (ev W C a σ h).bind fun x h1 => (ev W C b σ h1).bind fun y h2 => binV o x y h2
  | .neg a, σ, h => (ev W C a σ h).bind fun x h1 => match intV x with
    | some i => .ok (.d (.int (-i))) h1
    | none => .no
  | .cmp o a b, σ, h => (ev W C a σ h).bind fun x h1 => (ev W C b σ h1).bind fun y h2 => (cmpV o x y h2).bind fun c h3 => .ok (.d (.bool c)) h3
  | .chn o o' a b c, σ, h => (ev W C a σ h).bind fun x h1 => (ev W C b σ h1).bind fun y h2 => (cmpV o x y h2).bind fun k h3 =>
      if k then (ev W C c σ h3).bind fun z h4 => (cmpV o' y z h4).bind fun k' h5 => .ok (.d (.bool k')) h5 else .ok (.d (.bool false)) h3
  | .and_ a b, σ, h => (ev W C a σ h).bind fun x h1 => (tru x h1).bind fun k h2 => if k then ev W C b σ h2 else .ok x h2
  | .or_ a b, σ, h => (ev W C a σ h).bind fun x h1 => (tru x h1).bind fun k h2 => if k then .ok x h2 else ev W C b σ h2
  | .not_ a, σ, h => (ev W C a σ h).bind fun x h1 => (tru x h1).bind fun k h2 => .ok (.d (.bool (!k))) h2
  | .ife c a b, σ, h => (ev W C c σ h).bind fun x h1 => (tru x h1).bind fun k h2 => if k then ev W C a σ h2 else ev W C b σ h2
  | .tup xs, σ, h => (evs W C xs σ h).bind fun vs h1 => (toDs vs h1).bind fun ds h2 => .ok (.d (.tuple ds)) h2
  | .ofL l, σ, h => (evL W C l σ h).bind fun vs h1 => (toDs vs h1).bind fun ds h2 => .ok (.d (.list ds)) h2
  | .new l, σ, h => (evL W C l σ h).bind fun vs h1 => .ok (.ref h1.length) (h1 ++ [.lst vs])
  | .ix a b, σ, h => (ev W C a σ h).bind fun x h1 => (ev W C b σ h1).bind fun y h2 => ixV x y h2
  | .slc a lo hi, σ, h => (ev W C a σ h).bind fun x h1 => (evO W C lo σ h1).bind fun l h2 => (evO W C hi σ h2).bind fun u h3 => slcV x l u h3
  | .call f xs, σ, h => match C with
    | c :: _ => (evs W C xs σ h).bind fun vs h1 => c f vs h1
    | [] => .no
  | .prm p xs, σ, h => (evs W C xs σ h).bind fun vs h1 => prmV p vs h1
  | .app o a, σ, h => (ev W C o σ h).bind fun x h1 => (lstV x h1).bind fun _ h1 => (ev W C a σ h1).bind fun y h2 => appV x y h2
  | .fmt a, σ, h => (ev W C a σ h).bind fun x h1 => match partS x with
    | some s => .ok (.d (.str s)) h1
    | none => .no
  | .fst xs, σ, h => (evJ W C xs Str.empty σ h).bind fun s h1 => .ok (.d (.str s)) h1
  | .frz a, σ, h => (ev W C a σ h).bind fun x h1 => (toD x h1).bind fun d h2 => .ok (.d d) h2
  | .nev, _, _ => .no
def evs (W : Nat) (C : List Orc) : List Ex → Sg → Hq → R (List Val)
  | [], _, h => .ok [] h
  | e :: es, σ, h => (ev W C e σ h).bind fun v h1 => (evs W C es σ h1).bind fun vs h2 => .ok (v :: vs) h2
/-- parts, one behind the other -/
def evJ (W : Nat) (C : List Orc) : List Ex → Str → Sg → Hq → R Str
  | [], acc, _, h => .ok acc h
  | e :: es, acc, σ, h => (ev W C e σ h).bind fun v h1 => match v with
    | .d (.str y) => if fits (acc ++ y).length then evJ W C es (acc ++ y) σ h1 else .no
    | _ => .no
def evL (W : Nat) (C : List Orc) : Lx → Sg → Hq → R (List Val)
  | .dsp xs, σ, h => (evs W C xs σ h).bind fun vs h1 => if fits vs.length then .ok vs h1 else .no
  | .cmp own t s ifs e, σ, h => (evS W C s σ h).bind fun sv h1 => match sv with
    | .data vs => if fits vs.length then cmpL (fun v h => match bindT h t v (wipe σ own) with
        | none => .no
        | some σ' => ((evI W C ifs σ' h).bind fun k h2 => if k then (ev W C e σ' h2).bind fun x h3 => .ok [x] h3 else .ok [] h2).quiet) vs h1 else .no
    | .obj n => .no
def evS (W : Nat) (C : List Orc) : Sx → Sg → Hq → R Sv
  | .val a, σ, h => (ev W C a σ h).bind fun x h1 => srcV x h1
  | .rng a, σ, h => (ev W C a σ h).bind fun x h1 => match intV x with
    | some i => if okRng i then .ok (.data (rangeL 0 i.toNat)) h1 else .no
    | none => .no
  | .rng2 a b, σ, h => (ev W C a σ h).bind fun x h1 => (ev W C b σ h1).bind fun y h2 => match intV x, intV y with
    | some i, some j => if okRng i && okRng j then .ok (.data (rangeL i (j - i).toNat)) h2 else .no
    | _, _ => .no
  | .zip a b, σ, h => (ev W C a σ h).bind fun x h1 => (ev W C b σ h1).bind fun y h2 => match x, y with
    | .d (.list xs), .d (.list ys) => .ok (.data ((xs.zip ys).map fun p => .d (.tuple [p.1, p.2]))) h2
    | _, _ => .no
/-- the tests of a comprehension -/
def evI (W : Nat) (C : List Orc) : List Ex → Sg → Hq → R Bool
  | [], _, h => .ok true h
  | e :: es, σ, h => (ev W C e σ h).bind fun x h1 => (tru x h1).bind fun k h2 => if k then evI W C es σ h2 else .ok false h2
def evO (W : Nat) (C : List Orc) : Option Ex → Sg → Hq → R (Option Int)
  | none, _, h => .ok none h
  | some e, σ, h => (ev W C e σ h).bind fun x h1 => match intV x with
    | some i => .ok (some i) h1
    | none => .no
end

/-- a test -/
abbrev tst (m : Sg → Hq → R Val) : Sg → Hq → R Bool := fun σ h => (m σ h).bind fun v h1 => tru v h1
/-- a turn of a walk -/
def turnV (t : Tgt) (f : Sg → Hq → RF) (v : Val) (σ : Sg) (h : Hq) : RF := match bindT h t v σ with
  | none => .no
  | some σ' => f σ' h
mutual
def ex (W : Nat) (C : List Orc) : St → Sg → Hq → RF
  | .set i e, σ, h => (ev W C e σ h).thn σ fun v h1 => .ok (.nx (σ.set i (some v))) h1
  | .asg t e, σ, h => (ev W C e σ h).thn σ fun v h1 => match bindT h1 t v σ with
    | some σ' => .ok (.nx σ') h1
    | none => .no
  | .par i j a b, σ, h => (ev W C a σ h).thn σ fun v h1 => (ev W C b σ h1).thn σ fun w h2 => .ok (.nx ((σ.set i (some v)).set j (some w))) h2
  | .six o i e, σ, h => (ev W C e σ h).thn σ fun v h1 => (ev W C o σ h1).thn σ fun x h2 => (ev W C i σ h2).thn σ fun y h3 => (setV x y v h3).thn σ fun _ h4 => .ok (.nx σ) h4
  | .exp e, σ, h => (ev W C e σ h).thn σ fun _ h1 => .ok (.nx σ) h1
  | .iff c a b, σ, h => (tst (ev W C c) σ h).thn σ fun k h2 => if k then exs W C a σ h2 else exs W C b σ h2
  | .for_ t s b, σ, h => (evS W C s σ h).thn σ fun sv h1 => match sv with
    | .data vs => forL (turnV t fun σ h => exs W C b σ h) vs σ h1
    | .obj n => forO (turnV t fun σ h => exs W C b σ h) n W 0 σ h1
  | .whl c b, σ, h => whlN (tst (ev W C c)) (fun σ h => exs W C b σ h) W σ h
  | .ret e, σ, h => (ev W C e σ h).thn σ fun v h1 => .ok (.rt v) h1
  | .retN, _, h => .ok (.rt (.d .none)) h
  | .brk, σ, h => .ok (.bk σ) h
  | .cnt, σ, h => .ok (.ct σ) h
  | .pas, σ, h => .ok (.nx σ) h
  | .rse c, σ, h => .er ⟨c, none⟩ σ h
  | .nev, _, _ => .no
def exs (W : Nat) (C : List Orc) : List St → Sg → Hq → RF
  | [], σ, h => .ok (.nx σ) h
  | s :: ss, σ, h => (ex W C s σ h).thn fun σ' h1 => exs W C ss σ' h1
end

/-! ### defs -/
structure Fn where
  ps : Nat
  ns : Nat
  pure : Bool
  body : List St

/-- a body, as it stands -/
def run (W : Nat) (C : List Orc) (f : Fn) (vs : List Val) (h : Hq) : R Val :=
  match exs W C f.body (vs.map some ++ List.replicate (f.ns - f.ps) none) h with
    | .ok (.rt v) h1 => .ok v h1
    | .ok (.nx _) h1 => .ok (.d .none) h1
    | .er e _ h1 => .er e h1
    | _ => .no
def allDat : List Val → Bool
  | [] => true
  | .d _ :: vs => allDat vs
  | _ => false
def below (n : Nat) : Val → Bool
  | .ref m => decide (m < n)
  | _ => true
/-- no object leads out of the first n -/
def closed (n : Nat) : Hq → Bool
  | [] => true
  | .lst vs :: r => vs.all (below n) && closed n r
  | .dead _ :: r => closed n r
/-- a call: of a pure def over data, in a run of its own; of another one over this run's objects -/
def callR (W : Nat) (C : List Orc) (f : Fn) (vs : List Val) (h : Hq) : R Val :=
  if vs.length = f.ps then
    if f.pure then match pks h 3 vs with
      | some ds => match run W C f (ds.map .d) [] with
        | .ok v h1 => match toD v h1 with
          | .ok x _ => if flat x || allDat vs then .ok (.d x) h else .no
          | _ => .no
        | .er e _ => .er e h
        | .no => .no
      | none => .no
    else match run W C f vs h with
      | .ok v h1 => match toD v h1 with
        | .ok x h2 => if closed h.length (h2.take h.length) then .ok (.d x) (h2.take h.length) else .no
        | _ => .no
      | .er e h1 => if closed h.length (h1.take h.length) then .er e (h1.take h.length) else .no
      | .no => .no
  else .no
def orcs (T : List Fn) (W : Nat) : Nat → List Orc
  | 0 => []
  | k + 1 => (fun f vs h => match T[f]? with
      | some fn => callR W (orcs T W k) fn vs h
      | none => .no) :: orcs T W k
end Ip

set_option linter.all false
set_option Elab.async false
set_option autoImplicit false
/-! How the evaluator's values lie in the abstract heap. -/
namespace Ip
open PySem L2

/-- what is fixed through a law: the written part, the defs' and the classes' addresses -/
structure Gb where
  K : PySem.W.Frag
  fa : List Addr
  ca : List Addr

/-- a state: where the objects lie, the objects, the abstract heap -/
structure S3 where
  r : List Addr
  h : Hq
  H : Hp

abbrev WrL (K : PySem.W.Frag) (a : Addr) (xs : List V) : Prop := SqL K (fun _ => none) a xs
abbrev WrT (K : PySem.W.Frag) (a : Addr) (xs : List V) : Prop := SqT K (fun _ => none) a xs
theorem rd_none {a : Addr} {u : HO} : ¬ Rd (fun _ => none) a u := fun h => by
  rcases h with h | ⟨_, h⟩ <;> cases h
theorem WrL.any {K : PySem.W.Frag} {a : Addr} {xs : List V} (h : WrL K a xs) (H : Hp) : SqL K H a xs := by
  rcases h with h | h
  · exact (rd_none h).elim
  · exact .inr h
theorem WrT.any {K : PySem.W.Frag} {a : Addr} {xs : List V} (h : WrT K a xs) (H : Hp) : SqT K H a xs := by
  rcases h with h | h
  · exact (rd_none h).elim
  · exact .inr h

mutual
/-- plain data at a value; B: the addresses that may change -/
inductive DR (K : PySem.W.Frag) (H : Hp) (B : Addr → Prop) : V → D → Prop
  | non : DR K H B .non .none
  | bl (b : Bool) : DR K H B (.bl b) (.bool b)
  | int (i : Int) : DR K H B (.int i) (.int i)
  | str (x : Str) : DR K H B (.str x) (.str x)
  | lst {a : Addr} {xs : List V} {ds : List D} : (Rd H a (.lst xs) ∧ ¬ B a) ∨ WrL K a xs → DRs K H B xs ds → DR K H B (.ref a) (.list ds)
  | tup {a : Addr} {xs : List V} {ds : List D} : SqT K H a xs → DRs K H B xs ds → DR K H B (.ref a) (.tuple ds)
inductive DRs (K : PySem.W.Frag) (H : Hp) (B : Addr → Prop) : List V → List D → Prop
  | nil : DRs K H B [] []
  | cons {v : V} {vs : List V} {d : D} {ds : List D} : DR K H B v d → DRs K H B vs ds → DRs K H B (v :: vs) (d :: ds)
end

theorem DRs.length {K : PySem.W.Frag} {H : Hp} {B : Addr → Prop} : ∀ {xs : List V} {ds : List D}, DRs K H B xs ds → xs.length = ds.length
  | _, _, .nil => rfl
  | _, _, .cons _ t => by rw [List.length_cons, List.length_cons, DRs.length t]

/-- nothing but what may change changes; what stands stands on -/
structure Fr (P : Addr → Prop) (H H' : Hp) : Prop where
  keep : ∀ a o, H a = some o → ¬ P a → (∀ ps, o ≠ .tbl ps) → H' a = some o
  there : ∀ a, H a ≠ none → H' a ≠ none
  tup : ∀ a xs, Rd H a (.tup xs) → Rd H' a (.tup xs)
theorem Fr.refl (P : Addr → Prop) (H : Hp) : Fr P H H := ⟨fun _ _ h _ _ => h, fun _ h => h, fun _ _ h => h⟩
theorem Fr.sqt {K : PySem.W.Frag} {P : Addr → Prop} {H H' : Hp} (f : Fr P H H') {a : Addr} {xs : List V} (h : SqT K H a xs) : SqT K H' a xs := h.elim (fun q => .inl (f.tup a xs q)) .inr
theorem Fr.rd {P : Addr → Prop} {H H' : Hp} (f : Fr P H H') {a : Addr} {u : HO} (h : Rd H a u) (n : ¬ P a) (nt : ∀ ps, u ≠ .tbl ps) : Rd H' a u := by
  rcases h with h | ⟨o, h⟩
  · exact .inl (f.keep a _ h n nt)
  · exact .inr ⟨o, f.keep a _ h n (fun ps z => by cases z)⟩
theorem rd_some {H : Hp} {a : Addr} {u : HO} (h : Rd H a u) : H a ≠ none := by
  rcases h with h | ⟨o, h⟩ <;> rw [h] <;> exact fun z => by cases z

mutual
theorem DR.mono {K : PySem.W.Frag} {H H' : Hp} {B B' P : Addr → Prop} (f : Fr P H H') (hP : ∀ a, P a → B a) (hB : ∀ a, H a ≠ none → ¬ B a → ¬ B' a) : ∀ {v : V} {d : D}, DR K H B v d → DR K H' B' v d
  | _, _, .non => .non
  | _, _, .bl b => .bl b
  | _, _, .int i => .int i
  | _, _, .str x => .str x
  | _, _, .lst h t => .lst (h.elim (fun q => .inl ⟨f.rd q.1 (fun z => q.2 (hP _ z)) (fun ps z => by cases z), hB _ (rd_some q.1) q.2⟩) .inr) (DRs.mono f hP hB t)
  | _, _, .tup h t => .tup (f.sqt h) (DRs.mono f hP hB t)
theorem DRs.mono {K : PySem.W.Frag} {H H' : Hp} {B B' P : Addr → Prop} (f : Fr P H H') (hP : ∀ a, P a → B a) (hB : ∀ a, H a ≠ none → ¬ B a → ¬ B' a) : ∀ {vs : List V} {ds : List D}, DRs K H B vs ds → DRs K H' B' vs ds
  | _, _, .nil => .nil
  | _, _, .cons h t => .cons (DR.mono f hP hB h) (DRs.mono f hP hB t)
end
theorem DR.weak {K : PySem.W.Frag} {H : Hp} {B B' : Addr → Prop} (hB : ∀ a, H a ≠ none → ¬ B a → ¬ B' a) {v : V} {d : D} (h : DR K H B v d) : DR K H B' v d :=
  DR.mono (P := fun _ => False) (Fr.refl _ H) (fun _ z => z.elim) hB h
theorem DRs.weak {K : PySem.W.Frag} {H : Hp} {B B' : Addr → Prop} (hB : ∀ a, H a ≠ none → ¬ B a → ¬ B' a) {v : List V} {d : List D} (h : DRs K H B v d) : DRs K H B' v d :=
  DRs.mono (P := fun _ => False) (Fr.refl _ H) (fun _ z => z.elim) hB h

theorem sql_of {K : PySem.W.Frag} {H : Hp} {B : Addr → Prop} {a : Addr} {xs : List V} (h : (Rd H a (.lst xs) ∧ ¬ B a) ∨ WrL K a xs) : SqL K H a xs := h.elim (fun q => .inl q.1) fun q => q.any H
mutual
theorem DR.dp {K : PySem.W.Frag} {H : Hp} {B : Addr → Prop} : ∀ {v : V} {d : D}, DR K H B v d → Dp K H v d
  | _, _, .non => .non
  | _, _, .bl b => .bl b
  | _, _, .int i => .int i
  | _, _, .str x => .str x
  | _, _, .lst h t => .lst (sql_of h) (DRs.dp t)
  | _, _, .tup h t => .tup h (DRs.dp t)
theorem DRs.dp {K : PySem.W.Frag} {H : Hp} {B : Addr → Prop} : ∀ {vs : List V} {ds : List D}, DRs K H B vs ds → DpAll K H vs ds
  | _, _, .nil => .nil
  | _, _, .cons h t => .cons (DR.dp h) (DRs.dp t)
end

/-! ### objects -/
def live (h : Hq) (n : Nat) : Prop := ∃ vs, h[n]? = some (.lst vs)
/-- what may change -/
def Bad (Av : Addr → Prop) (s : S3) (a : Addr) : Prop := Av a ∨ ∃ n, s.r[n]? = some a ∧ live s.h n

inductive VR (G : Gb) (Av : Addr → Prop) (s : S3) : Val → V → Prop
  | d {x : D} {v : V} : DR G.K s.H (Bad Av s) v x → VR G Av s (.d x) v
  | ref {n : Nat} {a : Addr} : s.r[n]? = some a → VR G Av s (.ref n) (.ref a)
  | fn {f : Nat} {a : Addr} : G.fa[f]? = some a → VR G Av s (.fn f) (.ref a)
inductive VRs (G : Gb) (Av : Addr → Prop) (s : S3) : List Val → List V → Prop
  | nil : VRs G Av s [] []
  | cons {v : Val} {vs : List Val} {x : V} {xs : List V} : VR G Av s v x → VRs G Av s vs xs → VRs G Av s (v :: vs) (x :: xs)
theorem VRs.length {G : Gb} {Av : Addr → Prop} {s : S3} : ∀ {vs : List Val} {xs : List V}, VRs G Av s vs xs → vs.length = xs.length
  | _, _, .nil => rfl
  | _, _, .cons _ t => by rw [List.length_cons, List.length_cons, VRs.length t]
theorem VRs.append {G : Gb} {Av : Addr → Prop} {s : S3} : ∀ {vs ws : List Val} {xs ys : List V}, VRs G Av s vs xs → VRs G Av s ws ys → VRs G Av s (vs ++ ws) (xs ++ ys)
  | _, _, _, _, .nil, q => q
  | _, _, _, _, .cons h t, q => .cons h (VRs.append t q)
theorem VRs.get {G : Gb} {Av : Addr → Prop} {s : S3} : ∀ {vs : List Val} {xs : List V} {i : Nat} {v : Val}, VRs G Av s vs xs → vs[i]? = some v → ∃ x, xs[i]? = some x ∧ VR G Av s v x
  | _, _, _, _, .nil, e => by simp at e
  | _, _, 0, v, .cons h _, e => by
    have e : some _ = some v := e
    cases e
    exact ⟨_, rfl, h⟩
  | _, _, i + 1, v, .cons _ t, e => VRs.get (i := i) t e
theorem VRs.get' {G : Gb} {Av : Addr → Prop} {s : S3} : ∀ {vs : List Val} {xs : List V} {i : Nat} {x : V}, VRs G Av s vs xs → xs[i]? = some x → ∃ v, vs[i]? = some v ∧ VR G Av s v x
  | _, _, _, _, .nil, e => by simp at e
  | _, _, 0, v, .cons h _, e => by
    have e : some _ = some v := e
    cases e
    exact ⟨_, rfl, h⟩
  | _, _, i + 1, v, .cons _ t, e => VRs.get' (i := i) t e
theorem VRs.set {G : Gb} {Av : Addr → Prop} {s : S3} {v : Val} {x : V} (r : VR G Av s v x) : ∀ {vs : List Val} {xs : List V} (i : Nat), VRs G Av s vs xs → VRs G Av s (vs.set i v) (xs.set i x)
  | _, _, _, .nil => .nil
  | _, _, 0, .cons _ t => .cons r t
  | _, _, i + 1, .cons h t => .cons h (VRs.set r i t)
theorem VRs.take {G : Gb} {Av : Addr → Prop} {s : S3} : ∀ {vs : List Val} {xs : List V} (i : Nat), VRs G Av s vs xs → VRs G Av s (vs.take i) (xs.take i)
  | _, _, 0, _ => .nil
  | _, _, _ + 1, .nil => .nil
  | _, _, i + 1, .cons h t => .cons h (VRs.take i t)
theorem VRs.drop {G : Gb} {Av : Addr → Prop} {s : S3} : ∀ {vs : List Val} {xs : List V} (i : Nat), VRs G Av s vs xs → VRs G Av s (vs.drop i) (xs.drop i)
  | _, _, 0, h => h
  | _, _, _ + 1, .nil => .nil
  | _, _, i + 1, .cons h t => VRs.drop i t
theorem VRs.of_data {G : Gb} {Av : Addr → Prop} {s : S3} : ∀ {xs : List V} {ds : List D}, DRs G.K s.H (Bad Av s) xs ds → VRs G Av s (ds.map .d) xs
  | _, _, .nil => .nil
  | _, _, .cons h t => .cons (.d h) (VRs.of_data t)
theorem VRs.to_data {G : Gb} {Av : Addr → Prop} {s : S3} : ∀ {ds : List D} {xs : List V}, VRs G Av s (ds.map .d) xs → DRs G.K s.H (Bad Av s) xs ds
  | [], _, .nil => .nil
  | _ :: _, _, .cons (.d h) t => .cons h (VRs.to_data t)

/-- an object at an address -/
def OR (G : Gb) (Av : Addr → Prop) (s : S3) (a : Addr) : IO → Prop
  | .lst vs => ∃ xs, s.H a = some (.lst xs) ∧ VRs G Av s vs xs
  | .dead x => DR G.K s.H (Bad Av s) (.ref a) x

structure RepH (G : Gb) (Av : Addr → Prop) (s : S3) : Prop where
  len : s.r.length = s.h.length
  nd : s.r.Nodup
  obj : ∀ (n : Nat) (a : Addr) (o : IO), s.r[n]? = some a → s.h[n]? = some o → OR G Av s a o
  av : ∀ a, Av a → s.H a ≠ none
  dis : ∀ a, Av a → a ∉ s.r
  trk : ∀ a ∈ s.r, s.H a ≠ none

/-- slots -/
structure SR (G : Gb) (Av : Addr → Prop) (s : S3) (σ : Sg) (τ : L2.St) : Prop where
  len : σ.length = τ.length
  at_ : ∀ (i : Nat) (v : Val), σ[i]? = some (some v) → ∃ x, τ[i]? = some (some x) ∧ VR G Av s v x

/-- a step -/
structure Stp (s s' : S3) : Prop where
  pre : s.r <+: s'.r
  liv : ∀ n, n < s.r.length → live s'.h n → live s.h n
  fr : Fr (fun a => ∃ n, s.r[n]? = some a ∧ live s.h n) s.H s'.H
  new : ∀ a ∈ s'.r, a ∈ s.r ∨ s.H a = none
theorem Stp.refl (s : S3) : Stp s s := ⟨List.prefix_refl _, fun _ _ h => h, Fr.refl _ _, fun _ h => .inl h⟩
theorem pre_get {α : Type} {l l' : List α} (p : l <+: l') {n : Nat} {a : α} (h : l[n]? = some a) : l'[n]? = some a := by
  obtain ⟨t, rfl⟩ := p
  have hn : n < l.length := by
    rcases Nat.lt_or_ge n l.length with q | q
    · exact q
    · rw [List.getElem?_eq_none q] at h; cases h
  rw [List.getElem?_append_left hn]
  exact h
theorem nd_get {l : List Addr} (nd : l.Nodup) {i j : Nat} {a : Addr} (hi : l[i]? = some a) (hj : l[j]? = some a) : i = j := by
  obtain ⟨h1, e1⟩ := List.getElem?_eq_some_iff.mp hi
  obtain ⟨h2, e2⟩ := List.getElem?_eq_some_iff.mp hj
  exact (List.getElem_inj nd).mp (e1.trans e2.symm)
theorem lt_of_get {α : Type} {l : List α} {i : Nat} {a : α} (h : l[i]? = some a) : i < l.length := (List.getElem?_eq_some_iff.mp h).1
/-- what may change after a step may have changed ahead of it, or is new -/
theorem Stp.bad {Av : Addr → Prop} {s s' : S3} (t : Stp s s') (nd : s'.r.Nodup) : ∀ a, s.H a ≠ none → ¬ Bad Av s a → ¬ Bad Av s' a := fun a ha hb hb' => by
  rcases hb' with h | ⟨n, h, l⟩
  · exact hb (.inl h)
  · by_cases hn : n < s.r.length
    · have e : s.r[n]? = some (s.r[n]) := List.getElem?_eq_getElem hn
      have e' := pre_get t.pre e
      rw [h] at e'
      have e2 : a = s.r[n] := Option.some.inj e'
      exact hb (.inr ⟨n, by rw [e, e2], t.liv n hn l⟩)
    · rcases t.new a (List.mem_of_getElem? h) with hm | hm
      · obtain ⟨m, hm2, e⟩ := List.mem_iff_getElem.mp hm
        have e1 : s'.r[m]? = some a := pre_get t.pre (by rw [List.getElem?_eq_getElem hm2, e])
        have := nd_get nd h e1
        omega
      · exact ha hm
theorem Stp.dr {G : Gb} {Av : Addr → Prop} {s s' : S3} (t : Stp s s') (nd : s'.r.Nodup) {v : V} {d : D} (h : DR G.K s.H (Bad Av s) v d) : DR G.K s'.H (Bad Av s') v d :=
  DR.mono t.fr (fun a z => .inr z) (t.bad nd) h
theorem Stp.vr {G : Gb} {Av : Addr → Prop} {s s' : S3} (t : Stp s s') (nd : s'.r.Nodup) {v : Val} {x : V} (h : VR G Av s v x) : VR G Av s' v x := by
  cases h with
  | d q => exact .d (t.dr nd q)
  | ref q => exact .ref (pre_get t.pre q)
  | fn q => exact .fn q
theorem Stp.vrs {G : Gb} {Av : Addr → Prop} {s s' : S3} (t : Stp s s') (nd : s'.r.Nodup) : ∀ {vs : List Val} {xs : List V}, VRs G Av s vs xs → VRs G Av s' vs xs
  | _, _, .nil => .nil
  | _, _, .cons h q => .cons (t.vr nd h) (t.vrs nd q)
theorem Stp.sr {G : Gb} {Av : Addr → Prop} {s s' : S3} (t : Stp s s') (nd : s'.r.Nodup) {σ : Sg} {τ : L2.St} (h : SR G Av s σ τ) : SR G Av s' σ τ :=
  ⟨h.len, fun i v e => let ⟨x, e1, q⟩ := h.at_ i v e; ⟨x, e1, t.vr nd q⟩⟩
theorem Stp.trans {s s' s'' : S3} (a : Stp s s') (b : Stp s' s'') (nd : s'.r.Nodup) (hl : s'.r.length = s'.h.length) : Stp s s'' where
  pre := a.pre.trans b.pre
  liv := fun n hn l => a.liv n hn (b.liv n (Nat.lt_of_lt_of_le hn a.pre.length_le) l)
  fr := ⟨fun c o h np nt => b.fr.keep c o (a.fr.keep c o h np nt) (fun ⟨n, e, l⟩ => by
      by_cases hn : n < s.r.length
      · have e0 : s.r[n]? = some (s.r[n]) := List.getElem?_eq_getElem hn
        have e' := pre_get a.pre e0
        rw [e] at e'
        have e2 : c = s.r[n] := Option.some.inj e'
        exact np ⟨n, by rw [e0, e2], a.liv n hn l⟩
      · rcases a.new c (List.mem_of_getElem? e) with hm | hm
        · obtain ⟨m, hm2, e3⟩ := List.mem_iff_getElem.mp hm
          have e1 : s'.r[m]? = some c := pre_get a.pre (by rw [List.getElem?_eq_getElem hm2, e3])
          have := nd_get nd e e1
          omega
        · rw [h] at hm; cases hm) nt, fun c h => b.fr.there c (a.fr.there c h), fun c xs h => b.fr.tup c xs (a.fr.tup c xs h)⟩
  new := fun c hc => by
    rcases b.new c hc with h | h
    · exact a.new c h
    · right
      cases q : s.H c with
      | none => rfl
      | some o => exact absurd h (a.fr.there c (by rw [q]; exact fun z => by cases z))

/-! ### exceptions, ends -/
/-- an exception of ours, as it lies -/
def XR (G : Gb) (e : Exc) (c : Value) (dx : Option Addr) : Prop := ∃ C, G.ca[e.cls]? = some C ∧ c = .ref C ∧ (e.arg = none → dx = none)

/-- what a piece's result must bring about -/
def Post (G : Gb) (E : XK) (Av : Addr → Prop) (s : S3) {α β : Type} (Rl : α → β → S3 → Prop) (r : R α) (Q : β → Hp → Prop) : Prop :=
  match r with
  | .ok a h' => ∀ (s' : S3) (y : β), s'.h = h' → RepH G Av s' → Stp s s' → Rl a y s' → Q y s'.H
  | .er e h' => ∀ (s' : S3) (c : Value) (dx : Option Addr), s'.h = h' → RepH G Av s' → Stp s s' → XR G e c dx → E c dx s'.H
  | .no => False

section
variable {G : Gb} {E : XK} {Av : Addr → Prop} {s s1 : S3} {α β γ δ : Type}
theorem Post.ok {Rl : α → β → S3 → Prop} {a : α} {h : Hq} {Q : β → Hp → Prop} (p : Post G E Av s Rl (.ok a h) Q) {s' : S3} {y : β} (e : s'.h = h) (r : RepH G Av s') (t : Stp s s') (q : Rl a y s') : Q y s'.H := p s' y e r t q
/-- a part, then the rest -/
theorem Post.bind {Rl : α → β → S3 → Prop} {Rm : γ → δ → S3 → Prop} {r : R α} {f : α → Hq → R γ} {Q : δ → Hp → Prop} (p : Post G E Av s Rm (r.bind f) Q) :
    Post G E Av s Rl r fun y H1 => ∃ (a : α) (s1 : S3), s1.H = H1 ∧ RepH G Av s1 ∧ Stp s s1 ∧ Rl a y s1 ∧ Post G E Av s1 Rm (f a s1.h) Q := by
  cases r with
  | ok a h =>
    intro s1 y e rp t q
    refine ⟨a, s1, rfl, rp, t, q, ?_⟩
    subst e
    have p : Post G E Av s Rm (f a s1.h) Q := p
    revert p
    cases hf : f a s1.h with
    | ok c h2 =>
      intro p s2 z e2 rp2 t2 q2
      exact p s2 z e2 rp2 (t.trans t2 rp.nd rp.len) q2
    | er x h2 =>
      intro p s2 c dx e2 rp2 t2 q2
      exact p s2 c dx e2 rp2 (t.trans t2 rp.nd rp.len) q2
    | no => exact fun p => p
  | er x h => exact p
  | no => exact p
theorem Post.mono {Rl : α → β → S3 → Prop} {r : R α} {Q Q' : β → Hp → Prop} (p : Post G E Av s Rl r Q) (h : ∀ y H, Q y H → Q' y H) : Post G E Av s Rl r Q' := by
  cases r with
  | ok a h1 => exact fun s' y e rp t q => h _ _ (p s' y e rp t q)
  | er x h1 => exact p
  | no => exact p
end

/-- the wish about exceptions, at the slots -/
abbrev We (W : WX) (τ : L2.St) : XK := fun c d H => W c d τ H
/-- an expression's reading by the evaluator -/
def tE (G : Gb) (W : WX) (m : Sg → Hq → R Val) : TE := fun τ H Q => ∃ (Av : Addr → Prop) (s : S3) (σ : Sg), s.H = H ∧ RepH G Av s ∧ SR G Av s σ τ ∧ Post G (We W τ) Av s (fun v y s' => VR G Av s' v y) (m σ s.h) Q
def tT (G : Gb) (W : WX) (m : Sg → Hq → R Bool) : TT := fun τ H Q => ∃ (Av : Addr → Prop) (s : S3) (σ : Sg), s.H = H ∧ RepH G Av s ∧ SR G Av s σ τ ∧ Post G (We W τ) Av s (fun v y _ => v = y) (m σ s.h) Q
def tA (G : Gb) (W : WX) (m : Sg → Hq → R (List Val)) : TA := fun τ H Q => ∃ (Av : Addr → Prop) (s : S3) (σ : Sg), s.H = H ∧ RepH G Av s ∧ SR G Av s σ τ ∧ Post G (We W τ) Av s (fun v y s' => VRs G Av s' v y) (m σ s.h) Q
end Ip

set_option linter.all false
set_option Elab.async false
set_option autoImplicit false
/-! Values looked at, handed on, made. -/
namespace Ip
open PySem L2

/-! ### heaps that grow -/
theorem fr_upd_new {P : Addr → Prop} {H : Hp} {p : Addr} {o : HO} (hp : H p = none) : Fr P H (upd H p o) := by
  refine ⟨fun a u h _ _ => ?_, fun a h => ?_, fun a xs h => ?_⟩
  · rw [upd_ne (ne_of_none h hp)]; exact h
  · by_cases e : a = p
    · subst e; rw [upd_same]; exact fun z => by cases z
    · rw [upd_ne e]; exact h
  · have e : a ≠ p := fun z => by subst z; exact rd_some h hp
    rcases h with h | ⟨o', h⟩
    · exact .inl (by rw [upd_ne e]; exact h)
    · exact .inr ⟨o', by rw [upd_ne e]; exact h⟩
/-- an object that may change is written -/
theorem fr_upd_live {P : Addr → Prop} {H : Hp} {p : Addr} {o : HO} {xs : List V} (hp : H p = some (.lst xs)) (hP : P p) : Fr P H (upd H p o) := by
  refine ⟨fun a u h n _ => ?_, fun a h => ?_, fun a ys h => ?_⟩
  · have e : a ≠ p := fun z => by subst z; exact n hP
    rw [upd_ne e]; exact h
  · by_cases e : a = p
    · subst e; rw [upd_same]; exact fun z => by cases z
    · rw [upd_ne e]; exact h
  · have e : a ≠ p := fun z => by
      subst z
      rcases h with h | ⟨o', h⟩ <;> rw [hp] at h <;> cases h
    rcases h with h | ⟨o', h⟩
    · exact .inl (by rw [upd_ne e]; exact h)
    · exact .inr ⟨o', by rw [upd_ne e]; exact h⟩

section
variable {G : Gb} {Av : Addr → Prop} {s : S3}
theorem RepH.bad_some (r : RepH G Av s) {a : Addr} (h : Bad Av s a) : s.H a ≠ none := by
  rcases h with h | ⟨n, e, vs, hl⟩
  · exact r.av a h
  · exact r.trk a (List.mem_of_getElem? e)
/-- the abstract heap grows beside -/
theorem RepH.grow (r : RepH G Av s) {H' : Hp} (f : Fr (fun a => ∃ n, s.r[n]? = some a ∧ live s.h n) s.H H') (hl : ∀ n a, s.r[n]? = some a → live s.h n → H' a = s.H a) : RepH G Av ⟨s.r, s.h, H'⟩ ∧ Stp s ⟨s.r, s.h, H'⟩ := by
  have st : Stp s ⟨s.r, s.h, H'⟩ := ⟨List.prefix_refl _, fun _ _ h => h, f, fun _ h => .inl h⟩
  refine ⟨⟨r.len, r.nd, fun n a o e1 e2 => ?_, fun a h => f.there a (r.av a h), r.dis, fun a h => f.there a (r.trk a h)⟩, st⟩
  have q := r.obj n a o e1 e2
  cases o with
  | lst vs =>
    obtain ⟨xs, h1, h2⟩ := q
    exact ⟨xs, (hl n a e1 ⟨vs, e2⟩).trans h1, st.vrs r.nd h2⟩
  | dead x => exact st.dr r.nd q
theorem RepH.upd_new (r : RepH G Av s) {p : Addr} {o : HO} (hp : s.H p = none) : RepH G Av ⟨s.r, s.h, upd s.H p o⟩ ∧ Stp s ⟨s.r, s.h, upd s.H p o⟩ :=
  r.grow (fr_upd_new hp) fun n a e _ => by
    have : a ≠ p := fun z => by subst z; exact r.trk a (List.mem_of_getElem? e) hp
    rw [upd_ne this]

/-- the data of a value -/
theorem dat_eq {v : Val} {x : D} (h : dat v = some x) : v = .d x := by
  cases v with
  | d y => cases h; rfl
  | ref _ => cases h
  | fn _ => cases h
theorem dats_eq : ∀ {vs : List Val} {ds : List D}, dats vs = some ds → vs = ds.map .d
  | [], ds, h => by cases h; rfl
  | v :: vs, ds, h => by
    unfold dats at h
    split at h
    · rename_i x xs h1 h2
      cases h
      rw [dat_eq h1, dats_eq h2]; rfl
    · cases h
theorem dats_map (ds : List D) : dats (ds.map .d) = some ds := by
  induction ds with
  | nil => rfl
  | cons x r ih => simp only [List.map_cons, dats, dat, ih]

/-- what may change no more -/
theorem bad_dead {n : Nat} {a : Addr} {x : D} (nd : s.r.Nodup) (hn : s.r[n]? = some a) (dis : ∀ a, Av a → a ∉ s.r) : ¬ Bad Av ⟨s.r, s.h.set n (.dead x), s.H⟩ a := fun h => by
  rcases h with h | ⟨m, e, vs, hl⟩
  · exact dis a h (List.mem_of_getElem? hn)
  · have : m = n := nd_get nd e hn
    subst this
    have hm : m < s.h.length ∨ ¬ m < s.h.length := Nat.lt_or_ge m s.h.length |>.imp id Nat.not_lt.mpr
    rcases hm with hm | hm
    · rw [List.getElem?_set_self hm] at hl; cases hl
    · rw [List.getElem?_eq_none (by rw [List.length_set]; exact Nat.not_lt.mp hm)] at hl; cases hl
theorem bad_set_sub {n : Nat} {x : D} {a : Addr} (h : Bad Av ⟨s.r, s.h.set n (.dead x), s.H⟩ a) : Bad Av s a := by
  rcases h with h | ⟨m, e, vs, hl⟩
  · exact .inl h
  · refine .inr ⟨m, e, vs, ?_⟩
    have hl : (s.h.set n (.dead x))[m]? = some (.lst vs) := hl
    by_cases hmn : n = m
    · subst hmn
      by_cases hm : n < s.h.length
      · rw [List.getElem?_set_self hm] at hl; cases hl
      · rw [List.getElem?_eq_none (by rw [List.length_set]; exact Nat.not_lt.mp hm)] at hl; cases hl
    · rw [List.getElem?_set_ne hmn] at hl; exact hl
theorem DR.sub {K : PySem.W.Frag} {H : Hp} {B B' : Addr → Prop} (h : ∀ a, B' a → B a) {v : V} {d : D} (q : DR K H B v d) : DR K H B' v d := q.weak fun a _ n z => n (h a z)
theorem DRs.sub {K : PySem.W.Frag} {H : Hp} {B B' : Addr → Prop} (h : ∀ a, B' a → B a) {v : List V} {d : List D} (q : DRs K H B v d) : DRs K H B' v d := q.weak fun a _ n z => n (h a z)

theorem RepH.kill (r : RepH G Av s) {n : Nat} {a : Addr} {vs : List Val} {ds : List D} (hn : s.r[n]? = some a) (hl : s.h[n]? = some (.lst vs)) (e : vs = ds.map .d) :
    RepH G Av ⟨s.r, s.h.set n (.dead (.list ds)), s.H⟩ ∧ Stp s ⟨s.r, s.h.set n (.dead (.list ds)), s.H⟩ ∧ DR G.K s.H (Bad Av ⟨s.r, s.h.set n (.dead (.list ds)), s.H⟩) (.ref a) (.list ds) := by
  subst e
  have st : Stp s ⟨s.r, s.h.set n (.dead (.list ds)), s.H⟩ := by
    refine ⟨List.prefix_refl _, fun m _ h => ?_, Fr.refl _ _, fun _ h => .inl h⟩
    obtain ⟨ws, h⟩ := h
    have h : (s.h.set n (.dead (.list ds)))[m]? = some (.lst ws) := h
    by_cases hmn : n = m
    · subst hmn
      rw [List.getElem?_set_self (lt_of_get hl)] at h; cases h
    · rw [List.getElem?_set_ne hmn] at h; exact ⟨ws, h⟩
  obtain ⟨xs, hx, hv⟩ := r.obj n a _ hn hl
  have dd : DR G.K s.H (Bad Av ⟨s.r, s.h.set n (.dead (.list ds)), s.H⟩) (.ref a) (.list ds) :=
    .lst (.inl ⟨.inl hx, bad_dead r.nd hn r.dis⟩) (hv.to_data.sub fun _ z => bad_set_sub z)
  refine ⟨⟨by rw [List.length_set]; exact r.len, r.nd, fun m b o e1 e2 => ?_, r.av, r.dis, r.trk⟩, st, dd⟩
  by_cases hmn : n = m
  · subst hmn
    have e2 : (s.h.set n (.dead (.list ds)))[n]? = some o := e2
    rw [List.getElem?_set_self (lt_of_get hl)] at e2
    cases e2
    have : b = a := by
      have e1 : s.r[n]? = some b := e1
      rw [hn] at e1; exact (Option.some.inj e1).symm
    subst this
    exact dd
  · have e2 : (s.h.set n (.dead (.list ds)))[m]? = some o := e2
    rw [List.getElem?_set_ne hmn] at e2
    have q := r.obj m b o e1 e2
    cases o with
    | lst ws =>
      obtain ⟨ys, h1, h2⟩ := q
      exact ⟨ys, h1, st.vrs r.nd h2⟩
    | dead x => exact st.dr r.nd q

theorem toD_ok (r : RepH G Av s) {v : Val} {y : V} (q : VR G Av s v y) {x : D} {h' : Hq} (e : toD v s.h = .ok x h') :
    RepH G Av ⟨s.r, h', s.H⟩ ∧ Stp s ⟨s.r, h', s.H⟩ ∧ DR G.K s.H (Bad Av ⟨s.r, h', s.H⟩) y x := by
  cases q with
  | d q =>
    cases e
    exact ⟨r, Stp.refl _, q⟩
  | ref hn =>
    rename_i n a
    unfold toD at e
    simp only at e
    split at e
    · rename_i vs hl
      split at e
      · rename_i ds hd
        cases e
        exact r.kill hn hl (dats_eq hd)
      · cases e
    · rename_i x' hl
      cases e
      exact ⟨r, Stp.refl _, r.obj n a _ hn hl⟩
    · cases e
  | fn _ => cases e
theorem toD_no_er (v : Val) (h : Hq) (x : Exc) (h' : Hq) : toD v h ≠ .er x h' := fun z => by
  cases v with
  | d y => cases z
  | fn _ => cases z
  | ref n =>
    unfold toD at z
    simp only at z
    split at z
    · split at z <;> cases z
    · cases z
    · cases z
theorem toDs_no_er : ∀ (vs : List Val) (h : Hq) (x : Exc) (h' : Hq), toDs vs h ≠ .er x h'
  | [], _, _, _, z => by cases z
  | v :: vs, h, x, h', z => by
    unfold toDs at z
    cases e : toD v h with
    | ok a h1 =>
      rw [e] at z
      simp only [R.bind_ok] at z
      cases e2 : toDs vs h1 with
      | ok a h2 => rw [e2] at z; cases z
      | er x2 h2 => exact toDs_no_er vs h1 _ _ e2
      | no => rw [e2] at z; cases z
    | er x2 h2 => exact toD_no_er v h _ _ e
    | no => rw [e] at z; cases z
theorem toDs_ok : ∀ {vs : List Val} {s : S3} {ys : List V} {xs : List D} {h' : Hq}, RepH G Av s → VRs G Av s vs ys → toDs vs s.h = .ok xs h' →
    RepH G Av ⟨s.r, h', s.H⟩ ∧ Stp s ⟨s.r, h', s.H⟩ ∧ DRs G.K s.H (Bad Av ⟨s.r, h', s.H⟩) ys xs
  | [], s, _, _, _, r, .nil, e => by
    cases e
    exact ⟨r, Stp.refl _, .nil⟩
  | v :: vs, s, _, xs, h', r, .cons q t, e => by
    unfold toDs at e
    cases e1 : toD v s.h with
    | er x h1 => exact absurd e1 (toD_no_er _ _ _ _)
    | no => rw [e1] at e; cases e
    | ok x h1 =>
      rw [e1] at e
      simp only [R.bind_ok] at e
      obtain ⟨r1, t1, d1⟩ := toD_ok r q e1
      cases e2 : toDs vs h1 with
      | er x h2 => exact absurd e2 (toDs_no_er _ _ _ _)
      | no => rw [e2] at e; cases e
      | ok ds h2 =>
        rw [e2] at e
        cases e
        obtain ⟨r2, t2, d2⟩ := toDs_ok (s := ⟨s.r, h1, s.H⟩) r1 (t1.vrs r1.nd t) e2
        exact ⟨r2, t1.trans t2 r1.nd r1.len, .cons (t2.dr r2.nd d1) d2⟩

/-! ### looks -/
abbrev NoB : Addr → Prop := fun _ => False
theorem allO_dr {f : Val → Option D} {B : Addr → Prop} (hf : ∀ v y x, VR G Av s v y → f v = some x → DR G.K s.H B y x) : ∀ {vs : List Val} {ys : List V} {xs : List D}, VRs G Av s vs ys → allO f vs = some xs → DRs G.K s.H B ys xs
  | _, _, _, .nil, e => by
    simp only [allO] at e
    cases e
    exact .nil
  | v :: vs, _, _, .cons q t, e => by
    simp only [allO] at e
    split at e
    · rename_i x xs h1 h2
      cases e
      exact .cons (hf _ _ _ q h1) (allO_dr hf t h2)
    · cases e
theorem pk_dr (r : RepH G Av s) : ∀ {n : Nat} {v : Val} {y : V} {x : D}, VR G Av s v y → pk s.h n v = some x → DR G.K s.H NoB y x
  | 0, .d x, _, _, .d q, e => by
    simp only [pk] at e
    cases e
    exact q.sub fun _ z => z.elim
  | n + 1, .d x, _, _, .d q, e => by
    simp only [pk] at e
    cases e
    exact q.sub fun _ z => z.elim
  | 0, .ref m, _, _, .ref hn, e => by simp only [pk] at e; cases e
  | n + 1, .ref m, _, x, .ref hn, e => by
    simp only [pk] at e
    split at e
    · rename_i vs hl
      obtain ⟨xs, hx, hv⟩ := r.obj m _ _ hn hl
      cases e2 : allO (pk s.h n) vs with
      | none => rw [e2] at e; cases e
      | some ds =>
        rw [e2] at e
        cases e
        exact .lst (.inl ⟨.inl hx, fun z => z⟩) (allO_dr (fun _ _ _ q e => pk_dr r q e) hv e2)
    · rename_i x' hl
      cases e
      exact DR.sub (fun _ z => z.elim) (r.obj m _ _ hn hl)
    · cases e
  | 0, .fn _, _, _, .fn _, e => by simp only [pk] at e; cases e
  | _ + 1, .fn _, _, _, .fn _, e => by simp only [pk] at e; cases e
theorem pks_dr (r : RepH G Av s) {n : Nat} {vs : List Val} {ys : List V} {xs : List D} (q : VRs G Av s vs ys) (e : pks s.h n vs = some xs) : DRs G.K s.H NoB ys xs :=
  allO_dr (fun _ _ _ q e => pk_dr r q e) q e
/-- items -/
theorem els_ok (r : RepH G Av s) {v : Val} {y : V} {vs : List Val} (q : VR G Av s v y) (e : els s.h v = some vs) :
    ∃ a xs, y = .ref a ∧ (SqL G.K s.H a xs ∨ SqT G.K s.H a xs) ∧ VRs G Av s vs xs := by
  cases q with
  | d q =>
    cases q with
    | lst h t => cases e; exact ⟨_, _, rfl, .inl (sql_of h), VRs.of_data t⟩
    | tup h t => cases e; exact ⟨_, _, rfl, .inr h, VRs.of_data t⟩
    | non => cases e
    | bl b => cases e
    | int i => cases e
    | str x => cases e
  | ref hn =>
    unfold els at e
    simp only at e
    split at e
    · rename_i ws hl
      cases e
      obtain ⟨xs, hx, hv⟩ := r.obj _ _ _ hn hl
      exact ⟨_, xs, rfl, .inl (.inl (.inl hx)), hv⟩
    · rename_i ws hl
      cases e
      have q := r.obj _ _ _ hn hl
      cases q with
      | lst h t => exact ⟨_, _, rfl, .inl (sql_of h), VRs.of_data t⟩
    · cases e
  | fn _ => cases e
end

/-! ### expressions: how a rule of the layer is taken -/
section
variable {X : Cx} {G : Gb} {E : XK} {W : WX} {e : Expr} {t t' : TE} {u u' : TT} {es : List Expr} {ta ta' : TA}
theorem _root_.L2.PE.imp (h : PE X e t) (q : ∀ τ H Q, t' τ H Q → t τ H Q) : PE X e t' := ⟨fun pins s σ H Q I w => h.run pins s σ H Q I (q _ _ _ w)⟩
theorem _root_.L2.PT.imp (h : PT X e u) (q : ∀ τ H Q, u' τ H Q → u τ H Q) : PT X e u' := ⟨fun pins s σ H Q I w => h.run pins s σ H Q I (q _ _ _ w)⟩
theorem _root_.L2.PW.imp (h : PW X e u) (q : ∀ τ H Q, u' τ H Q → u τ H Q) : PW X e u' := ⟨fun wh pins s σ H Q I w => h.run wh pins s σ H Q I (q _ _ _ w)⟩
theorem _root_.L2.PA.imp (h : PA X es ta) (q : ∀ τ H Q, ta' τ H Q → ta τ H Q) : PA X es ta' := ⟨fun pos pins s σ H Q I w => h.run pos pins s σ H Q I (q _ _ _ w)⟩
end
section
variable {G : Gb} {E : XK} {W : WX} {Av : Addr → Prop} {s : S3} {σ : Sg} {τ : L2.St}
/-- a part's reading, from the whole's -/
theorem tE_bind {γ δ : Type} {m : Sg → Hq → R Val} {f : Val → Hq → R γ} {Rm : γ → δ → S3 → Prop} {Q : δ → Hp → Prop} (rp : RepH G Av s) (sr : SR G Av s σ τ) (p : Post G (We W τ) Av s Rm ((m σ s.h).bind f) Q) {Q' : VK}
    (h : ∀ (v : Val) (y : V) (s1 : S3), RepH G Av s1 → Stp s s1 → SR G Av s1 σ τ → VR G Av s1 v y → Post G (We W τ) Av s1 Rm (f v s1.h) Q → Q' y s1.H) : tE G W m τ s.H Q' := by
  refine ⟨Av, s, σ, rfl, rp, sr, (p.bind (Rl := fun v y s' => VR G Av s' v y)).mono ?_⟩
  rintro y H1 ⟨v, s1, rfl, rp1, st, q, p1⟩
  exact h v y s1 rp1 st (st.sr rp1.nd sr) q p1
theorem tT_bind {γ δ : Type} {m : Sg → Hq → R Bool} {f : Bool → Hq → R γ} {Rm : γ → δ → S3 → Prop} {Q : δ → Hp → Prop} (rp : RepH G Av s) (sr : SR G Av s σ τ) (p : Post G (We W τ) Av s Rm ((m σ s.h).bind f) Q) {Q' : Bool → Hp → Prop}
    (h : ∀ (b : Bool) (s1 : S3), RepH G Av s1 → Stp s s1 → SR G Av s1 σ τ → Post G (We W τ) Av s1 Rm (f b s1.h) Q → Q' b s1.H) : tT G W m τ s.H Q' := by
  refine ⟨Av, s, σ, rfl, rp, sr, (p.bind (Rl := fun v y s' => v = y)).mono ?_⟩
  rintro y H1 ⟨v, s1, rfl, rp1, st, q, p1⟩
  subst q
  exact h v s1 rp1 st (st.sr rp1.nd sr) p1
theorem tA_bind {γ δ : Type} {m : Sg → Hq → R (List Val)} {f : List Val → Hq → R γ} {Rm : γ → δ → S3 → Prop} {Q : δ → Hp → Prop} (rp : RepH G Av s) (sr : SR G Av s σ τ) (p : Post G (We W τ) Av s Rm ((m σ s.h).bind f) Q) {Q' : List V → Hp → Prop}
    (h : ∀ (v : List Val) (y : List V) (s1 : S3), RepH G Av s1 → Stp s s1 → SR G Av s1 σ τ → VRs G Av s1 v y → Post G (We W τ) Av s1 Rm (f v s1.h) Q → Q' y s1.H) : tA G W m τ s.H Q' := by
  refine ⟨Av, s, σ, rfl, rp, sr, (p.bind (Rl := fun v y s' => VRs G Av s' v y)).mono ?_⟩
  rintro y H1 ⟨v, s1, rfl, rp1, st, q, p1⟩
  exact h v y s1 rp1 st (st.sr rp1.nd sr) q p1
/-- the end of a piece that leaves the state as it is -/
theorem Post.fin {α β : Type} {Rl : α → β → S3 → Prop} {a : α} {y : β} {Q : β → Hp → Prop} (p : Post G E Av s Rl (.ok a s.h) Q) (rp : RepH G Av s) (q : Rl a y s) : Q y s.H := p s y rfl rp (Stp.refl _) q
end

/-! ### scalars -/
def scalV : D → Option V
  | .none => some .non
  | .bool b => some (.bl b)
  | .int i => some (.int i)
  | .str x => some (.str x)
  | _ => none
theorem scal_dr {K : PySem.W.Frag} {H : Hp} {B : Addr → Prop} {x : D} {v : V} (h : scalV x = some v) : DR K H B v x := by
  cases x with
  | none => cases h; exact .non
  | bool b => cases h; exact .bl b
  | int i => cases h; exact .int i
  | str z => cases h; exact .str z
  | list _ => cases h
  | tuple _ => cases h
  | dict _ => cases h
theorem binD_scal {o : Bop} {a b c : D} (h : binD o a b = some c) : ∃ v, scalV c = some v := by
  unfold binD at h
  split at h <;> (try split at h) <;> first | (cases h; exact ⟨_, rfl⟩) | cases h

/-- the layer's word for an operator -/
def opOf : Bop → Operator
  | .add => .Add
  | .sub => .Sub
  | .mul => .Mult
  | .fdiv => .FloorDiv
  | .mod => .Mod
  | .pow => .Pow
theorem fits_line {n : Nat} (h : fits n = true) : n ≤ sizeLine := by
  rw [sizeLine_eq]
  exact of_decide_eq_true h
theorem lt_of_log2 {n k : Nat} (h : n.log2 < k) : n < 2 ^ k := by
  by_cases h0 : n = 0
  · subst h0; exact Nat.pow_pos (by decide)
  · exact (Nat.log2_lt h0).mp h
theorem okMul_c {i j : Int} (h : okMul i j = true) : CMulW i j := by
  have h := of_decide_eq_true h
  exact wide_mul (a := i.natAbs.log2 + 1) (b := j.natAbs.log2 + 1) (lt_of_log2 (Nat.lt_succ_self _)) (lt_of_log2 (Nat.lt_succ_self _)) (Nat.succ_pos _) (Nat.succ_pos _) (by omega)
def rBin (G : Gb) (o : Bop) : R2 := fun x y H Q => ∃ a b c v, Dp G.K H x a ∧ Dp G.K H y b ∧ binD o a b = some c ∧ scalV c = some v ∧ Q v H
theorem dp_int {K : PySem.W.Frag} {H : Hp} {x : V} {i : Int} (h : Dp K H x (.int i)) : x = .int i := by cases h; rfl
theorem dp_str {K : PySem.W.Frag} {H : Hp} {x : V} {i : Str} (h : Dp K H x (.str i)) : x = .str i := by cases h; rfl
theorem dp_bl {K : PySem.W.Frag} {H : Hp} {x : V} {i : Bool} (h : Dp K H x (.bool i)) : x = .bl i := by cases h; rfl
theorem dp_non {K : PySem.W.Frag} {H : Hp} {x : V} (h : Dp K H x .none) : x = .non := by cases h; rfl
theorem op_fdivA {X : Cx} : OpR X (binaryOp .FloorDiv) (rI (fun _ j => j ≠ 0 ∧ j.natAbs.log2 < 9000) fun i j => .int (i.fdiv j)) := opI fun _ _ _ _ _ _ _ hc q => PyProof.Rows.floordiv_int hc.1 q (.inl (PyProof.noPylong_of_log2 hc.2))
theorem op_bin {X : Cx} {G : Gb} (o : Bop) : OpR X (binaryOp (opOf o)) (rBin G o) := by
  rintro pins s σ H x y v u Q I rx ry ⟨a, b, c, w, da, db, e, sc, q⟩
  unfold binD at e
  split at e
  · cases e; cases sc; cases dp_int da; cases dp_int db
    exact op_add pins s σ H _ _ v u Q I rx ry ⟨_, _, rfl, rfl, q⟩
  · split at e
    · rename_i hf
      cases e; cases sc; cases dp_str da; cases dp_str db
      exact op_add_str pins s σ H _ _ v u Q I rx ry ⟨_, _, rfl, rfl, fits_line hf, q⟩
    · cases e
  · cases e; cases sc; cases dp_int da; cases dp_int db
    exact op_sub pins s σ H _ _ v u Q I rx ry ⟨_, _, rfl, rfl, q⟩
  · split at e
    · rename_i hf
      cases e; cases sc; cases dp_int da; cases dp_int db
      exact op_mulW pins s σ H _ _ v u Q I rx ry ⟨_, _, rfl, rfl, okMul_c hf, q⟩
    · cases e
  · split at e
    · rename_i hf
      cases e; cases sc; cases dp_int da; cases dp_int db
      unfold okDiv at hf
      simp only [Bool.and_eq_true, Bool.or_eq_true, decide_eq_true_eq] at hf
      exact op_fdivA pins s σ H _ _ v u Q I rx ry ⟨_, _, rfl, rfl, ⟨hf.1, by omega⟩, q⟩
    · cases e
  · split at e
    · cases e
    · rename_i hf
      cases e; cases sc; cases dp_int da; cases dp_int db
      exact op_modN pins s σ H _ _ v u Q I rx ry ⟨_, _, rfl, rfl, hf, q⟩
  · split at e
    · rename_i hf
      cases e; cases sc; cases dp_int da; cases dp_int db
      unfold okPow at hf
      simp only [Bool.and_eq_true, decide_eq_true_eq] at hf
      exact op_pow pins s σ H _ _ v u Q I rx ry ⟨_, _, rfl, rfl, ⟨hf.1.1, hf.1.2, lt_of_log2 hf.2⟩, q⟩
    · cases e
  · cases e
end Ip

set_option linter.all false
set_option Elab.async false
set_option autoImplicit false
/-! The rules of the layer, as the evaluator has them: expressions. -/
namespace Ip
open PySem L2

section
variable {X : Cx} {G : Gb} {E : XK} {W : WX} {pos : Pos}

theorem ip_lit {x : D} {v : V} {e : Expr} (h : PE X e (tC v)) (sc : scalV x = some v) : PE X e (tE G W fun _ h => .ok (.d x) h) := by
  refine h.imp fun τ H Q ⟨Av, s, σ, hH, rp, sr, p⟩ => ?_
  subst hH
  exact p.fin rp (.d (scal_dr sc))
theorem ip_var {i : Nat} {e : Expr} (h : PE X e (tVar i)) : PE X e (tE G W fun σ h => match σ[i]? with | some (some v) => .ok v h | _ => .no) := by
  refine h.imp fun τ H Q ⟨Av, s, σ, hH, rp, sr, p⟩ => ?_
  subst hH
  revert p
  show Post G _ Av s _ (match σ[i]? with | some (some v) => R.ok v s.h | _ => .no) Q → _
  cases e1 : σ[i]? with
  | none => exact fun p => p.elim
  | some o =>
    cases o with
    | none => exact fun p => p.elim
    | some v =>
      intro p
      obtain ⟨x, e2, q⟩ := sr.at_ i v e1
      exact ⟨x, e2, p.fin rp q⟩
/-- a name of the text that holds a def -/
theorem ip_fnv {f : Nat} {a : Addr} {e : Expr} (h : PE X e (tC (.ref a))) (ha : G.fa[f]? = some a) : PE X e (tE G W fun _ h => .ok (.fn f) h) := by
  refine h.imp fun τ H Q ⟨Av, s, σ, hH, rp, sr, p⟩ => ?_
  subst hH
  exact p.fin rp (.fn ha)

/-- two parts, then an operation on their values -/
theorem post2 {Av : Addr → Prop} {s : S3} {o : Bop} {x y : Val} {v u : V} {Q : VK} (rp : RepH G Av s) (qx : VR G Av s x v) (qy : VR G Av s y u) (p : Post G E Av s (fun v y s' => VR G Av s' v y) (binV o x y s.h) Q) : rBin G o v u s.H Q := by
  unfold binV at p
  split at p
  · rename_i a b e1 e2
    split at p
    · rename_i c e3
      obtain ⟨w, sc⟩ := binD_scal e3
      exact ⟨a, b, c, w, (pk_dr rp qx e1).dp, (pk_dr rp qy e2).dp, e3, sc, p.fin rp (.d (scal_dr sc))⟩
    · exact p.elim
  · exact p.elim
theorem ip_bin {a b : Expr} {ma mb : Sg → Hq → R Val} (o : Bop) (ha : PE X a (tE G W ma)) (hb : PE X b (tE G W mb)) :
    PE X (.BinOp a (opOf o) b pos) (tE G W fun σ h => (ma σ h).bind fun x h1 => (mb σ h1).bind fun y h2 => binV o x y h2) := by
  refine (pe_op (op_bin (G := G) o) ha hb).imp fun τ H Q ⟨Av, s, σ, hH, rp, sr, p⟩ => ?_
  subst hH
  refine tE_bind rp sr p fun v y s1 rp1 st1 sr1 q1 p1 => ?_
  refine tE_bind rp1 sr1 p1 fun w z s2 rp2 st2 sr2 q2 p2 => ?_
  exact post2 rp2 (st2.vr rp2.nd q1) q2 p2
theorem ip_neg {a : Expr} {ma : Sg → Hq → R Val} (ha : PE X a (tE G W ma)) :
    PE X (.UnaryOp .USub a pos) (tE G W fun σ h => (ma σ h).bind fun x h1 => match intV x with | some i => .ok (.d (.int (-i))) h1 | none => .no) := by
  refine (pe_un un_neg ha).imp fun τ H Q ⟨Av, s, σ, hH, rp, sr, p⟩ => ?_
  subst hH
  refine tE_bind rp sr p fun v y s1 rp1 st1 sr1 q1 p1 => ?_
  cases v with
  | ref n => exact p1.elim
  | fn f => exact p1.elim
  | d x =>
    cases x with
    | int i =>
      cases q1 with
      | d q =>
        cases q
        exact ⟨i, rfl, p1.fin rp1 (.d (.int _))⟩
    | none => exact p1.elim
    | bool b => exact p1.elim
    | str b => exact p1.elim
    | list b => exact p1.elim
    | tuple b => exact p1.elim
    | dict b => exact p1.elim

/-! ### comparisons -/
def copOf : Cop → CmpOp
  | .eq => .Eq
  | .ne => .NotEq
  | .lt => .Lt
  | .le => .LtE
  | .gt => .Gt
  | .ge => .GtE
  | .isN => .Is
  | .notN => .IsNot
  | .inn => .In
  | .nin => .NotIn
def rCmp (G : Gb) (o : Cop) : R2 := fun x y H Q => ∃ a b c, Dp G.K H x a ∧ Dp G.K H y b ∧ cmpD o a b = some c ∧ Q (.bl c) H
theorem op_cmp (o : Cop) (hK : G.K = X.K) (hu : X.A.units + 64 < cLine) : OpR X (compareOp (copOf o)) (rCmp G o) := by
  rintro pins s σ H x y v u Q I rx ry ⟨a, b, c, da, db, e, q⟩
  rw [hK] at da db
  unfold cmpD at e
  split at e
  · cases e; cases dp_int da; cases dp_int db
    exact op_eq pins s σ H _ _ v u Q I rx ry ⟨rfl, by simpa using q⟩
  · cases e; cases dp_int da; cases dp_int db
    exact op_ne pins s σ H _ _ v u Q I rx ry ⟨rfl, by simpa using q⟩
  · cases e; cases dp_str da; cases dp_str db
    exact op_eq pins s σ H _ _ v u Q I rx ry ⟨rfl, by simpa using q⟩
  · cases e; cases dp_str da; cases dp_str db
    exact op_ne pins s σ H _ _ v u Q I rx ry ⟨rfl, by simpa using q⟩
  · split at e
    · rename_i hs
      rw [Bool.and_eq_true] at hs
      cases e
      exact op_eqD hu pins s σ H _ _ v u Q I rx ry ⟨_, _, da, db, hs.1, hs.2, q⟩
    · cases e
  · split at e
    · rename_i hs
      rw [Bool.and_eq_true] at hs
      cases e
      exact op_neD hu pins s σ H _ _ v u Q I rx ry ⟨_, _, da, db, hs.1, hs.2, q⟩
    · cases e
  · cases e; cases dp_int da; cases dp_int db
    exact op_lt pins s σ H _ _ v u Q I rx ry ⟨_, _, rfl, rfl, q⟩
  · cases e; cases dp_int da; cases dp_int db
    exact op_le pins s σ H _ _ v u Q I rx ry ⟨_, _, rfl, rfl, q⟩
  · cases e; cases dp_int da; cases dp_int db
    exact op_gt pins s σ H _ _ v u Q I rx ry ⟨_, _, rfl, rfl, q⟩
  · cases e; cases dp_int da; cases dp_int db
    exact op_ge pins s σ H _ _ v u Q I rx ry ⟨_, _, rfl, rfl, q⟩
  · cases e; cases dp_non db
    refine op_isN pins s σ H _ _ v u Q I rx ry ⟨rfl, ?_⟩
    cases da <;> exact q
  · cases e; cases dp_non db
    refine op_notN pins s σ H _ _ v u Q I rx ry ⟨rfl, ?_⟩
    cases da <;> exact q
  · cases e
theorem postC {Av : Addr → Prop} {s : S3} {o : Cop} {x y : Val} {v u : V} {γ δ : Type} {Rm : γ → δ → S3 → Prop} {f : Bool → Hq → R γ} {Q : δ → Hp → Prop} {Q' : VK} (rp : RepH G Av s) (qx : VR G Av s x v) (qy : VR G Av s y u) (p : Post G E Av s Rm ((cmpV o x y s.h).bind f) Q)
    (h : ∀ c, Post G E Av s Rm (f c s.h) Q → Q' (.bl c) s.H) : rCmp G o v u s.H Q' := by
  unfold cmpV at p
  split at p
  · rename_i a b e1 e2
    split at p
    · rename_i c e3
      exact ⟨a, b, c, (pk_dr rp qx e1).dp, (pk_dr rp qy e2).dp, e3, h c p⟩
    · exact p.elim
  · exact p.elim
theorem ip_cmp {a b : Expr} {ma mb : Sg → Hq → R Val} (o : Cop) (hK : G.K = X.K) (hu : X.A.units + 64 < cLine) (ha : PE X a (tE G W ma)) (hb : PE X b (tE G W mb)) (hm : behindInMarks (copOf o) b = false) :
    PE X (.Compare a [copOf o] [b] pos) (tE G W fun σ h => (ma σ h).bind fun x h1 => (mb σ h1).bind fun y h2 => (cmpV o x y h2).bind fun c h3 => .ok (.d (.bool c)) h3) := by
  refine (pe_cmpR (op_cmp (G := G) o hK hu) ha hb hm).imp fun τ H Q ⟨Av, s, σ, hH, rp, sr, p⟩ => ?_
  subst hH
  refine tE_bind rp sr p fun v y s1 rp1 st1 sr1 q1 p1 => ?_
  refine tE_bind rp1 sr1 p1 fun w z s2 rp2 st2 sr2 q2 p2 => ?_
  exact postC rp2 (st2.vr rp2.nd q1) q2 p2 fun c p3 => p3.fin rp2 (.d (.bl c))
theorem ip_cmpT {a b : Expr} {ma mb : Sg → Hq → R Val} (o : Cop) (hK : G.K = X.K) (hu : X.A.units + 64 < cLine) (ha : PE X a (tE G W ma)) (hb : PE X b (tE G W mb)) (hm : behindInMarks (copOf o) b = false) :
    PT X (.Compare a [copOf o] [b] pos) (tT G W fun σ h => (ma σ h).bind fun x h1 => (mb σ h1).bind fun y h2 => cmpV o x y h2) := by
  refine (pt_cmpR (op_cmp (G := G) o hK hu) ha hb hm).imp fun τ H Q ⟨Av, s, σ, hH, rp, sr, p⟩ => ?_
  subst hH
  refine tE_bind rp sr p fun v y s1 rp1 st1 sr1 q1 p1 => ?_
  refine tE_bind rp1 sr1 p1 fun w z s2 rp2 st2 sr2 q2 p2 => ?_
  have p3 : Post G (We W τ) Av s2 (fun v y _ => v = y) ((cmpV o v w s2.h).bind fun c h => R.ok c h) Q := by
    revert p2
    cases cmpV o v w s2.h <;> exact fun p => p
  exact postC rp2 (st2.vr rp2.nd q1) q2 p3 fun c p4 => ⟨c, rfl, p4.fin rp2 rfl⟩
theorem ip_chn {a b c : Expr} {ma mb mc : Sg → Hq → R Val} (o o' : Cop) (hK : G.K = X.K) (hu : X.A.units + 64 < cLine) (ha : PE X a (tE G W ma)) (hb : PE X b (tE G W mb)) (hc : PE X c (tE G W mc)) (hm : behindInMarks (copOf o') c = false) :
    PE X (.Compare a [copOf o, copOf o'] [b, c] pos) (tE G W fun σ h => (ma σ h).bind fun x h1 => (mb σ h1).bind fun y h2 => (cmpV o x y h2).bind fun k h3 =>
      if k then (mc σ h3).bind fun z h4 => (cmpV o' y z h4).bind fun k' h5 => .ok (.d (.bool k')) h5 else .ok (.d (.bool false)) h3) := by
  refine (pe_chain (op_cmp (G := G) o hK hu) (op_cmp (G := G) o' hK hu) ha hb hc hm).imp fun τ H Q ⟨Av, s, σ, hH, rp, sr, p⟩ => ?_
  subst hH
  refine tE_bind rp sr p fun v y s1 rp1 st1 sr1 q1 p1 => ?_
  refine tE_bind rp1 sr1 p1 fun w z s2 rp2 st2 sr2 q2 p2 => ?_
  refine postC rp2 (st2.vr rp2.nd q1) q2 p2 fun k p3 => ⟨k, rfl, ?_⟩
  cases k with
  | false => exact p3.fin rp2 (.d (.bl false))
  | true =>
    refine tE_bind rp2 sr2 p3 fun x3 y3 s3 rp3 st3 sr3 q3 p4 => ?_
    exact postC rp3 (st3.vr rp3.nd q2) q3 p4 fun c p5 => p5.fin rp3 (.d (.bl c))
end
end Ip

set_option linter.all false
set_option Elab.async false
set_option autoImplicit false
/-! The rules of the layer, as the evaluator has them: tests, displays, subscripts, built-ins. -/
namespace Ip
open PySem L2

section
variable {X : Cx} {G : Gb} {E : XK} {W : WX} {pos : Pos}

/-! ### truth -/
theorem truV_of {H : Hp} {B : Addr → Prop} {x : D} {v : V} {k : Bool} (hK : G.K = X.K) (d : DR G.K H B v x) (e : truthD x = some k) : TruV X.K v H k := by
  cases d with
  | non => cases e; rfl
  | bl b => cases e; rfl
  | int i => cases e; rfl
  | str y =>
    unfold truthD at e
    simp only at e
    split at e
    · rename_i hf
      cases e
      refine ⟨fits_line hf, ?_⟩
      cases hy : y.length with
      | zero => rfl
      | succ n =>
        show (Nat.succ n != 0) = ((((n + 1 : Nat) : Int)) != 0)
        have h1 : (Nat.succ n != 0) = true := by simp
        have h2 : ((((n + 1 : Nat) : Int)) != 0) = true := by simp; omega
        rw [h1, h2]
    · cases e
  | lst h t =>
    cases e
    refine .inl ⟨_, hK ▸ sql_of h, ?_⟩
    cases t <;> rfl
  | tup h t =>
    cases e
    refine .inr (.inl ⟨_, hK ▸ h, ?_⟩)
    cases t <;> rfl
/-- behind a look at a value's truth -/
theorem postT {Av : Addr → Prop} {s : S3} {x : Val} {v : V} {γ δ : Type} {Rm : γ → δ → S3 → Prop} {f : Bool → Hq → R γ} {Q : δ → Hp → Prop} (hK : G.K = X.K) (rp : RepH G Av s) (qx : VR G Av s x v) (p : Post G E Av s Rm ((tru x s.h).bind f) Q) :
    ∃ k, TruV X.K v s.H k ∧ Post G E Av s Rm (f k s.h) Q := by
  unfold tru at p
  split at p
  · rename_i a e1
    cases e2 : truthD a with
    | none => rw [e2] at p; exact p.elim
    | some k =>
      rw [e2] at p
      exact ⟨k, truV_of hK (pk_dr rp qx e1) e2, p⟩
  · exact p.elim
/-- a test by its value -/
theorem R.bind_id {α : Type} (r : R α) : (r.bind fun a h => R.ok a h) = r := by cases r <;> rfl
theorem ip_tst {a : Expr} {ma : Sg → Hq → R Val} (hK : G.K = X.K) (ha : PE X a (tE G W ma)) (he : ∀ whole, isTrue a X.env whole = (do let v ← whole; standAt a.pos; holding [v] (truthy v))) : PT X a (tT G W (tst ma)) := by
  refine (pt_truth ha he).imp fun τ H Q ⟨Av, s, σ, hH, rp, sr, p⟩ => ?_
  subst hH
  refine tE_bind rp sr p fun v y s1 rp1 st1 sr1 q1 p1 => ?_
  have p2 : Post G (We W τ) Av s1 (fun v y _ => v = y) ((tru v s1.h).bind fun k h => R.ok k h) Q := by rw [R.bind_id]; exact p1
  obtain ⟨k, t, p3⟩ := postT hK rp1 q1 p2
  exact ⟨k, t, p3.fin rp1 rfl⟩
/-- a test's word for another one -/
theorem _root_.L2.PT.cong {a : Expr} {m m' : Sg → Hq → R Bool} (h : PT X a (tT G W m)) (e : ∀ σ h, m σ h = m' σ h) : PT X a (tT G W m') := by
  have : m = m' := by funext σ h; exact e σ h
  rw [← this]; exact h
theorem _root_.L2.PW.cong {a : Expr} {m m' : Sg → Hq → R Bool} (h : PW X a (tT G W m)) (e : ∀ σ h, m σ h = m' σ h) : PW X a (tT G W m') := by
  have : m = m' := by funext σ h; exact e σ h
  rw [← this]; exact h
theorem _root_.L2.PE.cong {a : Expr} {m m' : Sg → Hq → R Val} (h : PE X a (tE G W m)) (e : ∀ σ h, m σ h = m' σ h) : PE X a (tE G W m') := by
  have : m = m' := by funext σ h; exact e σ h
  rw [← this]; exact h
theorem tru_bl (c : Bool) (h : Hq) : tru (.d (.bool c)) h = .ok c h := rfl
theorem ip_cmpT' {a b : Expr} {ma mb : Sg → Hq → R Val} (o : Cop) (hK : G.K = X.K) (hu : X.A.units + 64 < cLine) (ha : PE X a (tE G W ma)) (hb : PE X b (tE G W mb)) (hm : behindInMarks (copOf o) b = false) :
    PT X (.Compare a [copOf o] [b] pos) (tT G W (tst fun σ h => (ma σ h).bind fun x h1 => (mb σ h1).bind fun y h2 => (cmpV o x y h2).bind fun c h3 => .ok (.d (.bool c)) h3)) := by
  refine (ip_cmpT (pos := pos) o hK hu ha hb hm).cong fun σ h => ?_
  simp only [tst, R.bind_assoc, R.bind_ok, tru_bl, R.bind_id]
theorem ip_chnT {a b c : Expr} {ma mb mc : Sg → Hq → R Val} (o o' : Cop) (hK : G.K = X.K) (hu : X.A.units + 64 < cLine) (ha : PE X a (tE G W ma)) (hb : PE X b (tE G W mb)) (hc : PE X c (tE G W mc)) (hm : behindInMarks (copOf o') c = false) :
    PT X (.Compare a [copOf o, copOf o'] [b, c] pos) (tT G W (tst fun σ h => (ma σ h).bind fun x h1 => (mb σ h1).bind fun y h2 => (cmpV o x y h2).bind fun k h3 =>
      if k then (mc σ h3).bind fun z h4 => (cmpV o' y z h4).bind fun k' h5 => .ok (.d (.bool k')) h5 else .ok (.d (.bool false)) h3)) := by
  refine (pt_chain (op_cmp (G := G) o hK hu) (op_cmp (G := G) o' hK hu) ha hb hc hm).imp fun τ H Q ⟨Av, s, σ, hH, rp, sr, p⟩ => ?_
  subst hH
  simp only [tst, R.bind_assoc] at p
  refine tE_bind rp sr p fun v y s1 rp1 st1 sr1 q1 p1 => ?_
  refine tE_bind rp1 sr1 p1 fun w z s2 rp2 st2 sr2 q2 p2 => ?_
  refine postC rp2 (st2.vr rp2.nd q1) q2 p2 fun k p3 => ⟨k, rfl, ?_⟩
  cases k with
  | false =>
    simp only [Bool.false_eq_true, if_false, R.bind_ok, tru_bl] at p3
    exact ⟨false, rfl, p3.fin rp2 rfl⟩
  | true =>
    simp only [if_true, R.bind_assoc, R.bind_ok, tru_bl] at p3
    refine tE_bind rp2 sr2 p3 fun x3 y3 s3 rp3 st3 sr3 q3 p4 => ?_
    exact postC rp3 (st3.vr rp3.nd q2) q3 p4 fun c p5 => ⟨c, rfl, p5.fin rp3 rfl⟩

/-! ### not, and, or -/
theorem ip_not {a : Expr} {ma : Sg → Hq → R Val} (hK : G.K = X.K) (ha : PE X a (tE G W ma)) : PE X (.UnaryOp .Not a pos) (tE G W fun σ h => (ma σ h).bind fun x h1 => (tru x h1).bind fun k h2 => .ok (.d (.bool (!k))) h2) := by
  refine (pe_notT ha).imp fun τ H Q ⟨Av, s, σ, hH, rp, sr, p⟩ => ?_
  subst hH
  refine tE_bind rp sr p fun v y s1 rp1 st1 sr1 q1 p1 => ?_
  obtain ⟨k, t, p2⟩ := postT hK rp1 q1 p1
  exact ⟨k, t, p2.fin rp1 (.d (.bl _))⟩
theorem ip_notT {a : Expr} {ma : Sg → Hq → R Val} (ha : PT X a (tT G W (tst ma))) : PT X (.UnaryOp .Not a pos) (tT G W (tst fun σ h => (ma σ h).bind fun x h1 => (tru x h1).bind fun k h2 => .ok (.d (.bool (!k))) h2)) := by
  refine (pt_not ha).imp fun τ H Q ⟨Av, s, σ, hH, rp, sr, p⟩ => ?_
  subst hH
  have p' : Post G (We W τ) Av s (fun v y _ => v = y) (((tst ma) σ s.h).bind fun k h => R.ok (!k) h) Q := by
    have e : ((tst ma) σ s.h).bind (fun k h => R.ok (!k) h) = (tst fun σ h => (ma σ h).bind fun x h1 => (tru x h1).bind fun k h2 => .ok (.d (.bool (!k))) h2) σ s.h := by
      simp only [tst, R.bind_assoc, R.bind_ok, tru_bl]
    rw [e]; exact p
  exact tT_bind rp sr p' fun b s1 rp1 st1 sr1 p1 => p1.fin rp1 rfl
/-- truth asked again is the same -/
theorem tru_heap {v : Val} {h : Hq} {k : Bool} {h' : Hq} (e : tru v h = .ok k h') : h' = h := by
  unfold tru at e
  split at e
  · rename_i a _
    cases e2 : truthD a with
    | none => rw [e2] at e; cases e
    | some c => rw [e2] at e; cases e; rfl
  · cases e
theorem tru_again {γ : Type} (v : Val) (h : Hq) (f g : Bool → Hq → R γ) : ((tru v h).bind fun k h2 => if k then f k h2 else (tru v h2).bind g) = (tru v h).bind fun k h2 => if k then f k h2 else g false h2 := by
  cases e : tru v h with
  | er _ _ => rfl
  | no => rfl
  | ok k h2 =>
    have := tru_heap e
    subst this
    simp only [R.bind_ok]
    cases k with
    | true => rfl
    | false =>
      simp only [Bool.false_eq_true, if_false, e, R.bind_ok]
theorem tru_again' {γ : Type} (v : Val) (h : Hq) (f g : Bool → Hq → R γ) : ((tru v h).bind fun k h2 => if k then (tru v h2).bind g else f k h2) = (tru v h).bind fun k h2 => if k then g true h2 else f k h2 := by
  cases e : tru v h with
  | er _ _ => rfl
  | no => rfl
  | ok k h2 =>
    have := tru_heap e
    subst this
    simp only [R.bind_ok]
    cases k with
    | false => rfl
    | true =>
      simp only [if_true, e, R.bind_ok]
theorem ite_bind {α β : Type} (c : Bool) (r r' : R α) (f : α → Hq → R β) : (if c then r else r').bind f = if c then r.bind f else r'.bind f := by cases c <;> rfl
theorem ip_and {a b : Expr} {rest : List Expr} {ma mb : Sg → Hq → R Val} (hK : G.K = X.K) (ha : PE X a (tE G W ma)) (hb : PE X (.BoolOp .And (b :: rest) pos) (tE G W mb)) :
    PE X (.BoolOp .And (a :: b :: rest) pos) (tE G W fun σ h => (ma σ h).bind fun x h1 => (tru x h1).bind fun k h2 => if k then mb σ h2 else .ok x h2) := by
  refine (pe_andT ha hb).imp fun τ H Q ⟨Av, s, σ, hH, rp, sr, p⟩ => ?_
  subst hH
  refine tE_bind rp sr p fun v y s1 rp1 st1 sr1 q1 p1 => ?_
  obtain ⟨k, t, p2⟩ := postT hK rp1 q1 p1
  refine ⟨k, t, ?_⟩
  cases k with
  | true => exact ⟨Av, s1, σ, rfl, rp1, sr1, p2⟩
  | false => exact p2.fin rp1 q1
theorem ip_or {a b : Expr} {rest : List Expr} {ma mb : Sg → Hq → R Val} (hK : G.K = X.K) (ha : PE X a (tE G W ma)) (hb : PE X (.BoolOp .Or (b :: rest) pos) (tE G W mb)) :
    PE X (.BoolOp .Or (a :: b :: rest) pos) (tE G W fun σ h => (ma σ h).bind fun x h1 => (tru x h1).bind fun k h2 => if k then .ok x h2 else mb σ h2) := by
  refine (pe_orT ha hb).imp fun τ H Q ⟨Av, s, σ, hH, rp, sr, p⟩ => ?_
  subst hH
  refine tE_bind rp sr p fun v y s1 rp1 st1 sr1 q1 p1 => ?_
  obtain ⟨k, t, p2⟩ := postT hK rp1 q1 p1
  refine ⟨k, t, ?_⟩
  cases k with
  | false => exact ⟨Av, s1, σ, rfl, rp1, sr1, p2⟩
  | true => exact p2.fin rp1 q1
theorem ip_and1 {a : Expr} {ma : Sg → Hq → R Val} {o : BoolOp} (ha : PE X a (tE G W ma)) : PE X (.BoolOp o [a] pos) (tE G W ma) := pe_one ha
theorem ip_andT1 {a : Expr} {m : Sg → Hq → R Bool} (ha : PT X a (tT G W m)) : PW X (.BoolOp .And [a] pos) (tT G W m) := pw_and1 ha
theorem ip_orT1 {a : Expr} {m : Sg → Hq → R Bool} (ha : PT X a (tT G W m)) : PW X (.BoolOp .Or [a] pos) (tT G W m) := pw_or1 ha
theorem ip_andT {a b : Expr} {rest : List Expr} {ma mb : Sg → Hq → R Val} (ha : PT X a (tT G W (tst ma))) (hb : PW X (.BoolOp .And (b :: rest) pos) (tT G W (tst mb))) :
    PW X (.BoolOp .And (a :: b :: rest) pos) (tT G W (tst fun σ h => (ma σ h).bind fun x h1 => (tru x h1).bind fun k h2 => if k then mb σ h2 else .ok x h2)) := by
  refine (pw_and ha hb).imp fun τ H Q ⟨Av, s, σ, hH, rp, sr, p⟩ => ?_
  subst hH
  have p' : Post G (We W τ) Av s (fun v y _ => v = y) (((tst ma) σ s.h).bind fun k h => if k then (tst mb) σ h else .ok false h) Q := by
    have e : ((tst ma) σ s.h).bind (fun k h => if k then (tst mb) σ h else .ok false h) = (tst fun σ h => (ma σ h).bind fun x h1 => (tru x h1).bind fun k h2 => if k then mb σ h2 else .ok x h2) σ s.h := by
      simp only [tst, R.bind_assoc]
      congr 1
      funext x h1
      have e1 := tru_again x h1 (fun _ h2 => (mb σ h2).bind fun v h1 => tru v h1) (fun k h2 => .ok k h2)
      simp only [R.bind_id] at e1
      rw [← e1]
      congr 1
      funext k h2
      cases k <;> rfl
    rw [e]; exact p
  refine tT_bind rp sr p' fun b s1 rp1 st1 sr1 p1 => ?_
  cases b with
  | true => exact ⟨Av, s1, σ, rfl, rp1, sr1, p1⟩
  | false => exact p1.fin rp1 rfl
theorem ip_orT {a b : Expr} {rest : List Expr} {ma mb : Sg → Hq → R Val} (ha : PT X a (tT G W (tst ma))) (hb : PW X (.BoolOp .Or (b :: rest) pos) (tT G W (tst mb))) :
    PW X (.BoolOp .Or (a :: b :: rest) pos) (tT G W (tst fun σ h => (ma σ h).bind fun x h1 => (tru x h1).bind fun k h2 => if k then .ok x h2 else mb σ h2)) := by
  refine (pw_or ha hb).imp fun τ H Q ⟨Av, s, σ, hH, rp, sr, p⟩ => ?_
  subst hH
  have p' : Post G (We W τ) Av s (fun v y _ => v = y) (((tst ma) σ s.h).bind fun k h => if k then .ok true h else (tst mb) σ h) Q := by
    have e : ((tst ma) σ s.h).bind (fun k h => if k then .ok true h else (tst mb) σ h) = (tst fun σ h => (ma σ h).bind fun x h1 => (tru x h1).bind fun k h2 => if k then .ok x h2 else mb σ h2) σ s.h := by
      simp only [tst, R.bind_assoc]
      congr 1
      funext x h1
      have e1 := tru_again' x h1 (fun _ h2 => (mb σ h2).bind fun v h1 => tru v h1) (fun k h2 => .ok k h2)
      simp only [R.bind_id] at e1
      rw [← e1]
      congr 1
      funext k h2
      cases k <;> rfl
    rw [e]; exact p
  refine tT_bind rp sr p' fun b s1 rp1 st1 sr1 p1 => ?_
  cases b with
  | false => exact ⟨Av, s1, σ, rfl, rp1, sr1, p1⟩
  | true => exact p1.fin rp1 rfl
/-! ### a if t else b -/
theorem ip_ife {c a b : Expr} {mc ma mb : Sg → Hq → R Val} (hc : PT X c (tT G W (tst mc))) (ha : PE X a (tE G W ma)) (hb : PE X b (tE G W mb)) :
    PE X (.IfExp c a b pos) (tE G W fun σ h => (mc σ h).bind fun x h1 => (tru x h1).bind fun k h2 => if k then ma σ h2 else mb σ h2) := by
  refine (pe_ifExp hc ha hb).imp fun τ H Q ⟨Av, s, σ, hH, rp, sr, p⟩ => ?_
  subst hH
  have p' : Post G (We W τ) Av s (fun v y s' => VR G Av s' v y) (((tst mc) σ s.h).bind fun k h => if k then ma σ h else mb σ h) Q := by
    have e : ((tst mc) σ s.h).bind (fun k h => if k then ma σ h else mb σ h) = (fun σ h => (mc σ h).bind fun x h1 => (tru x h1).bind fun k h2 => if k then ma σ h2 else mb σ h2) σ s.h := by
      simp only [tst, R.bind_assoc]
    rw [e]; exact p
  refine tT_bind rp sr p' fun k s1 rp1 st1 sr1 p1 => ?_
  cases k with
  | true => exact ⟨Av, s1, σ, rfl, rp1, sr1, p1⟩
  | false => exact ⟨Av, s1, σ, rfl, rp1, sr1, p1⟩
/-- as a test -/
theorem ip_ifeT {c a b : Expr} {mc ma mb : Sg → Hq → R Val} (hc : PT X c (tT G W (tst mc))) (ha : PT X a (tT G W (tst ma))) (hb : PT X b (tT G W (tst mb))) :
    PT X (.IfExp c a b pos) (tT G W (tst fun σ h => (mc σ h).bind fun x h1 => (tru x h1).bind fun k h2 => if k then ma σ h2 else mb σ h2)) := by
  refine ⟨fun pins s τ H Q I ⟨Av, s3, σ, hH, rp, sr, p⟩ => ?_⟩
  subst hH
  refine PyProof.Rows.isTrue_IfExp ?_
  have p' : Post G (We W τ) Av s3 (fun v y _ => v = y) (((tst mc) σ s3.h).bind fun k h => if k then (tst ma) σ h else (tst mb) σ h) Q := by
    have e : ((tst mc) σ s3.h).bind (fun k h => if k then (tst ma) σ h else (tst mb) σ h) = (tst fun σ h => (mc σ h).bind fun x h1 => (tru x h1).bind fun k h2 => if k then ma σ h2 else mb σ h2) σ s3.h := by
      simp only [tst, R.bind_assoc]
      congr 1
      funext x h1
      congr 1
      funext k h2
      cases k <;> rfl
    rw [e]; exact p
  have r := tT_bind (Q' := fun k H1 => if k = true then tT G W (tst ma) τ H1 Q else tT G W (tst mb) τ H1 Q) rp sr p' fun k s1 rp1 st1 sr1 p1 => by
    cases k with
    | true => exact ⟨Av, s1, σ, rfl, rp1, sr1, p1⟩
    | false => exact ⟨Av, s1, σ, rfl, rp1, sr1, p1⟩
  refine thn (hc.run pins s τ _ _ I r) fun d s1 ⟨H1, I1, q1⟩ => ?_
  cases d with
  | true => exact ha.run pins s1 τ H1 Q I1 q1
  | false => exact hb.run pins s1 τ H1 Q I1 q1
end
end Ip

set_option linter.all false
set_option Elab.async false
set_option autoImplicit false
/-! Displays, fresh lists, subscripts, built-ins. -/
namespace Ip
open PySem L2

section
variable {X : Cx} {G : Gb} {E : XK} {W : WX} {pos : Pos}

/-! ### argument lists -/
theorem ia_nil : PA X [] (tA G W fun _ h => .ok [] h) := by
  refine pa_nil.imp fun τ H Q ⟨Av, s, σ, hH, rp, sr, p⟩ => ?_
  subst hH
  exact p.fin rp .nil
theorem ia_cons {e : Expr} {es : List Expr} {me : Sg → Hq → R Val} {ms : Sg → Hq → R (List Val)} (he : PE X e (tE G W me)) (hs : PA X es (tA G W ms)) (st : starEach (e :: es) X.env = (false, eval e X.env) :: starEach es X.env) :
    PA X (e :: es) (tA G W fun σ h => (me σ h).bind fun v h1 => (ms σ h1).bind fun vs h2 => .ok (v :: vs) h2) := by
  refine (pa_cons he hs st).imp fun τ H Q ⟨Av, s, σ, hH, rp, sr, p⟩ => ?_
  subst hH
  refine tE_bind rp sr p fun v y s1 rp1 st1 sr1 q1 p1 => ?_
  refine tA_bind rp1 sr1 p1 fun vs ys s2 rp2 st2 sr2 q2 p2 => ?_
  exact p2.fin rp2 (.cons (st2.vr rp2.nd q1) q2)

/-! ### a tuple -/
theorem Post.toDs {Av : Addr → Prop} {s : S3} {vs : List Val} {ys : List V} {γ δ : Type} {Rm : γ → δ → S3 → Prop} {f : List D → Hq → R γ} {Q : δ → Hp → Prop} (rp : RepH G Av s) (q : VRs G Av s vs ys) (p : Post G E Av s Rm ((toDs vs s.h).bind f) Q) :
    ∃ ds h', RepH G Av ⟨s.r, h', s.H⟩ ∧ Stp s ⟨s.r, h', s.H⟩ ∧ DRs G.K s.H (Bad Av ⟨s.r, h', s.H⟩) ys ds ∧ Post G E Av ⟨s.r, h', s.H⟩ Rm (f ds h') Q := by
  cases e : Ip.toDs vs s.h with
  | er x h => exact absurd e (toDs_no_er _ _ _ _)
  | no => rw [e] at p; exact p.elim
  | ok ds h' =>
    rw [e] at p
    obtain ⟨r1, t1, d1⟩ := toDs_ok rp q e
    refine ⟨ds, h', r1, t1, d1, ?_⟩
    have p : Post G _ Av s Rm (f ds h') Q := p
    revert p
    cases f ds h' with
    | ok c h2 => exact fun p s2 z e2 rp2 t2 q2 => p s2 z e2 rp2 (t1.trans t2 r1.nd r1.len) q2
    | er x h2 => exact fun p s2 c dx e2 rp2 t2 q2 => p s2 c dx e2 rp2 (t1.trans t2 r1.nd r1.len) q2
    | no => exact fun p => p
/-- a step ahead -/
theorem Post.step {Av : Addr → Prop} {s s1 : S3} {α β : Type} {Rl : α → β → S3 → Prop} {r : R α} {Q : β → Hp → Prop} (p : Post G E Av s Rl r Q) (t : Stp s s1) (r1 : RepH G Av s1) : Post G E Av s1 Rl r Q := by
  revert p
  cases r with
  | ok c h2 => exact fun p s2 z e2 rp2 t2 q2 => p s2 z e2 rp2 (t.trans t2 r1.nd r1.len) q2
  | er x h2 => exact fun p s2 c dx e2 rp2 t2 q2 => p s2 c dx e2 rp2 (t.trans t2 r1.nd r1.len) q2
  | no => exact fun p => p
/-- a new object beside: the state -/
theorem RepH.new_bad {Av : Addr → Prop} {s : S3} (rp : RepH G Av s) {p : Addr} (hp : s.H p = none) : ¬ Bad Av s p := fun h => rp.bad_some h hp
theorem ip_tup {es : List Expr} {ms : Sg → Hq → R (List Val)} {k : Nat} (hs : PA X es (tA G W ms)) (hl : ∀ σ h vs h', ms σ h = .ok vs h' → vs.length ≤ 16777216) :
    PE X (.Tuple es k pos) (tE G W fun σ h => (ms σ h).bind fun vs h1 => (toDs vs h1).bind fun ds h2 => .ok (.d (.tuple ds)) h2) := by
  refine (pe_tup hs).imp fun τ H Q ⟨Av, s, σ, hH, rp, sr, p⟩ => ?_
  subst hH
  have hlen : ∀ vs h', ms σ s.h = .ok vs h' → vs.length ≤ 16777216 := fun vs h' e => hl σ s.h vs h' e
  show tA G W ms τ s.H _
  refine ⟨Av, s, σ, rfl, rp, sr, ?_⟩
  revert p hlen
  show (Post G _ Av s _ ((ms σ s.h).bind _) Q → _)
  cases ms σ s.h with
  | er x h => exact fun p _ => p
  | no => exact fun p _ => p
  | ok vs h1 =>
    intro p hlen s1 ys e1 rp1 st1 q1
    subst e1
    have p1 := Post.step (r := (toDs vs s1.h).bind fun ds h2 => R.ok (Val.d (.tuple ds)) h2) p st1 rp1
    obtain ⟨ds, h2, rp2, st2, d2, p2⟩ := Post.toDs rp1 q1 p1
    refine ⟨by rw [← q1.length, sizeLine_eq]; exact hlen vs _ rfl, fun a ha => ?_⟩
    obtain ⟨rp3, st3⟩ := rp2.upd_new (o := .tup ys) ha
    exact p2 ⟨s1.r, h2, upd s1.H a (.tup ys)⟩ (.ref a) rfl rp3 st3 (.d (.tup (.inl (.inl upd_same)) (DRs.mono st3.fr (fun a z => .inr z) (st3.bad rp3.nd) d2)))

/-! ### a fresh list -/
/-- Av and one more -/
def also (Av : Addr → Prop) (p : Addr) : Addr → Prop := fun a => Av a ∨ a = p
theorem bad_also {Av : Addr → Prop} {s : S3} {p a : Addr} : Bad (also Av p) s a ↔ Bad Av s a ∨ a = p := by
  constructor
  · rintro ((h | h) | h)
    · exact .inl (.inl h)
    · exact .inr h
    · exact .inl (.inr h)
  · rintro ((h | h) | h)
    · exact .inl (.inl h)
    · exact .inr h
    · exact .inl (.inr h)
theorem VR.less {Av Av' : Addr → Prop} {s : S3} (h : ∀ a, Av' a → Av a) {v : Val} {x : V} (q : VR G Av s v x) : VR G Av' s v x := by
  cases q with
  | d q => exact .d (q.sub fun a z => z.elim (fun w => .inl (h a w)) .inr)
  | ref q => exact .ref q
  | fn q => exact .fn q
theorem VRs.less {Av Av' : Addr → Prop} {s : S3} (h : ∀ a, Av' a → Av a) : ∀ {v : List Val} {x : List V}, VRs G Av s v x → VRs G Av' s v x
  | _, _, .nil => .nil
  | _, _, .cons q t => .cons (q.less h) (t.less h)
theorem RepH.less {Av Av' : Addr → Prop} {s : S3} (h : ∀ a, Av' a → Av a) (r : RepH G Av s) : RepH G Av' s := by
  refine ⟨r.len, r.nd, fun n a o e1 e2 => ?_, fun a z => r.av a (h a z), fun a z => r.dis a (h a z), r.trk⟩
  have q := r.obj n a o e1 e2
  cases o with
  | lst vs => obtain ⟨xs, h1, h2⟩ := q; exact ⟨xs, h1, h2.less h⟩
  | dead x => exact DR.sub (fun a z => z.elim (fun w => .inl (h a w)) .inr) q
theorem RepH.more {Av : Addr → Prop} {s : S3} {p : Addr} (r : RepH G Av s) (hp : s.H p = none) {o : HO} : RepH G (also Av p) ⟨s.r, s.h, upd s.H p o⟩ ∧ ∀ {v : V} {d : D}, DR G.K s.H (Bad Av s) v d → DR G.K (upd s.H p o) (Bad (also Av p) ⟨s.r, s.h, upd s.H p o⟩) v d := by
  obtain ⟨r1, t1⟩ := r.upd_new (o := o) hp
  have conv : ∀ {v : V} {d : D}, DR G.K s.H (Bad Av s) v d → DR G.K (upd s.H p o) (Bad (also Av p) ⟨s.r, s.h, upd s.H p o⟩) v d := fun {v d} q =>
    DR.mono t1.fr (fun a z => .inr z) (fun a ha hb hb' => by
      rcases bad_also.mp hb' with z | z
      · exact t1.bad r1.nd a ha hb z
      · subst z; exact ha hp) q
  refine ⟨⟨r.len, r.nd, fun n a ob e1 e2 => ?_, fun a z => ?_, fun a z => ?_, fun a z => t1.fr.there a (r.trk a z)⟩, conv⟩
  · have q := r.obj n a ob e1 e2
    cases ob with
    | lst vs =>
      obtain ⟨xs, h1, h2⟩ := q
      have : a ≠ p := fun z => by subst z; rw [hp] at h1; cases h1
      refine ⟨xs, by show upd s.H p o a = _; rw [upd_ne this]; exact h1, ?_⟩
      clear h1 e2
      induction h2 with
      | nil => exact .nil
      | cons h t ih =>
        refine .cons ?_ ih
        cases h with
        | d q => exact .d (conv q)
        | ref q => exact .ref q
        | fn q => exact .fn q
    | dead x => exact conv q
  · rcases z with z | z
    · exact t1.fr.there a (r.av a z)
    · subst z; show upd s.H a o a ≠ none; rw [upd_same]; exact fun z => by cases z
  · rcases z with z | z
    · exact r.dis a z
    · subst z; exact fun z => r.trk a z hp
/-- a fresh list at y: nothing else leads to it -/
def LR (G : Gb) (Av : Addr → Prop) (s : S3) (vs : List Val) (y : V) (s' : S3) : Prop :=
  ∃ p xs, y = .ref p ∧ s.H p = none ∧ RepH G (also Av p) s' ∧ s'.H p = some (.lst xs) ∧ VRs G (also Av p) s' vs xs
def tL (G : Gb) (W : WX) (m : Sg → Hq → R (List Val)) : TE := fun τ H Q => ∃ (Av : Addr → Prop) (s : S3) (σ : Sg), s.H = H ∧ RepH G Av s ∧ SR G Av s σ τ ∧ Post G (We W τ) Av s (LR G Av s) (m σ s.h) Q
theorem tL_bind {Av : Addr → Prop} {s : S3} {σ : Sg} {τ : L2.St} {γ δ : Type} {m : Sg → Hq → R (List Val)} {f : List Val → Hq → R γ} {Rm : γ → δ → S3 → Prop} {Q : δ → Hp → Prop} (rp : RepH G Av s) (sr : SR G Av s σ τ) (p : Post G (We W τ) Av s Rm ((m σ s.h).bind f) Q) {Q' : VK}
    (h : ∀ (v : List Val) (y : V) (s1 : S3), RepH G Av s1 → Stp s s1 → SR G Av s1 σ τ → LR G Av s v y s1 → Post G (We W τ) Av s1 Rm (f v s1.h) Q → Q' y s1.H) : tL G W m τ s.H Q' := by
  refine ⟨Av, s, σ, rfl, rp, sr, (p.bind (Rl := LR G Av s)).mono ?_⟩
  rintro y H1 ⟨v, s1, rfl, rp1, st, q, p1⟩
  exact h v y s1 rp1 st (st.sr rp1.nd sr) q p1
/-- it is data from now on -/
theorem ofL_imp {m : Sg → Hq → R (List Val)} : ∀ τ H Q, tE G W (fun σ h => (m σ h).bind fun vs h1 => (toDs vs h1).bind fun ds h2 => .ok (.d (.list ds)) h2) τ H Q → tL G W m τ H Q := by
  intro τ H Q ⟨Av, s, σ, hH, rp, sr, p⟩
  subst hH
  refine tL_bind rp sr p fun vs y s1 rp1 st1 sr1 lr p1 => ?_
  obtain ⟨a, xs, rfl, ha, rpA, hx, hv⟩ := lr
  cases e : toDs vs s1.h with
  | er x h => exact absurd e (toDs_no_er _ _ _ _)
  | no => rw [e] at p1; exact p1.elim
  | ok ds h2 =>
    rw [e] at p1
    obtain ⟨r2, t2, d2⟩ := toDs_ok rpA hv e
    have nA : ¬ Av a := fun z => rp.av a z ha
    have nB : ¬ Bad Av ⟨s1.r, h2, s1.H⟩ a := by
      rintro (z | ⟨n, z, _⟩)
      · exact nA z
      · exact r2.dis a (.inr rfl) (List.mem_of_getElem? z)
    have sub : ∀ b, Av b → also Av a b := fun b z => .inl z
    exact p1 ⟨s1.r, h2, s1.H⟩ (.ref a) rfl (r2.less sub) t2 (.d (.lst (.inl ⟨.inl hx, nB⟩) (d2.sub fun b z => bad_also.mpr (.inl z))))
/-- it is an object of this run -/
theorem new_imp {m : Sg → Hq → R (List Val)} : ∀ τ H Q, tE G W (fun σ h => (m σ h).bind fun vs h1 => .ok (.ref h1.length) (h1 ++ [.lst vs])) τ H Q → tL G W m τ H Q := by
  intro τ H Q ⟨Av, s, σ, hH, rp, sr, p⟩
  subst hH
  refine ⟨Av, s, σ, rfl, rp, sr, ?_⟩
  revert p
  show (Post G _ Av s _ ((m σ s.h).bind _) Q → _)
  cases m σ s.h with
  | er x h => exact fun p => p
  | no => exact fun p => p
  | ok vs h1 =>
  intro p s1 y e1 rp1 st1 lr
  subst e1
  obtain ⟨a, xs, rfl, ha, rpA, hx, hv⟩ := lr
  have har : a ∉ s1.r := rpA.dis a (.inr rfl)
  have nA : ¬ Av a := fun z => rp.av a z ha
  have hb : ∀ b, Bad Av ⟨s1.r ++ [a], s1.h ++ [.lst vs], s1.H⟩ b → Bad (also Av a) s1 b := by
    rintro b (z | ⟨n, z, ws, hl⟩)
    · exact .inl (.inl z)
    · by_cases hn : n < s1.r.length
      · refine .inr ⟨n, ?_, ws, ?_⟩
        · rw [List.getElem?_append_left hn] at z; exact z
        · rw [List.getElem?_append_left (by rw [← rp1.len]; exact hn)] at hl; exact hl
      · left; right
        rw [List.getElem?_append_right (Nat.not_lt.mp hn)] at z
        cases hk : n - s1.r.length with
        | zero => rw [hk] at z; exact (Option.some.inj z).symm
        | succ k => rw [hk] at z; cases z
  have cv : ∀ {v : Val} {x : V}, VR G (also Av a) s1 v x → VR G Av ⟨s1.r ++ [a], s1.h ++ [.lst vs], s1.H⟩ v x := fun {v x} q => by
    cases q with
    | d q => exact .d (q.sub hb)
    | ref q => exact .ref (pre_get (List.prefix_append _ _) q)
    | fn q => exact .fn q
  have cvs : ∀ {v : List Val} {x : List V}, VRs G (also Av a) s1 v x → VRs G Av ⟨s1.r ++ [a], s1.h ++ [.lst vs], s1.H⟩ v x := fun {v x} q => by
    induction q with
    | nil => exact .nil
    | cons h _ ih => exact .cons (cv h) ih
  have rp2 : RepH G Av ⟨s1.r ++ [a], s1.h ++ [.lst vs], s1.H⟩ := by
    refine ⟨by simp [rp1.len], ?_, fun n b o e1 e2 => ?_, rp1.av, fun b z => ?_, fun b z => ?_⟩
    · rw [List.nodup_append]
      exact ⟨rp1.nd, by simp, fun x hx2 y hy => by
        have : y = a := by simpa using hy
        subst this; exact fun z => har (z ▸ hx2)⟩
    · by_cases hn : n < s1.r.length
      · have e1 : (s1.r ++ [a])[n]? = some b := e1
        have e2 : (s1.h ++ [.lst vs])[n]? = some o := e2
        rw [List.getElem?_append_left hn] at e1
        rw [List.getElem?_append_left (by rw [← rp1.len]; exact hn)] at e2
        have q := rpA.obj n b o e1 e2
        cases o with
        | lst ws => obtain ⟨zs, h1, h2⟩ := q; exact ⟨zs, h1, cvs h2⟩
        | dead x => exact DR.sub hb q
      · have e1 : (s1.r ++ [a])[n]? = some b := e1
        have e2 : (s1.h ++ [.lst vs])[n]? = some o := e2
        rw [List.getElem?_append_right (Nat.not_lt.mp hn)] at e1
        rw [List.getElem?_append_right (by rw [← rp1.len]; exact Nat.not_lt.mp hn), ← rp1.len] at e2
        cases hk : n - s1.r.length with
        | zero =>
          rw [hk] at e1 e2
          have e1 : some a = some b := e1
          have e2 : some (IO.lst vs) = some o := e2
          cases e1; cases e2
          exact ⟨xs, hx, cvs hv⟩
        | succ k => rw [hk] at e1; cases e1
    · have := rp1.dis b z
      intro w
      rcases List.mem_append.mp w with w | w
      · exact this w
      · have : b = a := by simpa using w
        subst this; exact nA z
    · rcases List.mem_append.mp z with w | w
      · exact rp1.trk b w
      · have : b = a := by simpa using w
        subst this
        show s1.H b ≠ none
        rw [hx]; exact fun z => by cases z
  have st2 : Stp s ⟨s1.r ++ [a], s1.h ++ [.lst vs], s1.H⟩ := by
    refine ⟨st1.pre.trans (List.prefix_append _ _), fun n hn l => st1.liv n hn ?_, st1.fr, fun b hb => ?_⟩
    · obtain ⟨ws, hl⟩ := l
      have hn' : n < s1.h.length := by rw [← rp1.len]; exact Nat.lt_of_lt_of_le hn st1.pre.length_le
      rw [List.getElem?_append_left hn'] at hl
      exact ⟨ws, hl⟩
    · rcases List.mem_append.mp hb with w | w
      · exact st1.new b w
      · have : b = a := by simpa using w
        subst this; exact .inr ha
  exact p ⟨s1.r ++ [a], s1.h ++ [.lst vs], s1.H⟩ (.ref a) rfl rp2 st2 (.ref (by
    show (s1.r ++ [a])[s1.h.length]? = some a
    rw [← rp1.len, List.getElem?_append_right (Nat.le_refl _), Nat.sub_self]; rfl))
theorem ip_ofL {e : Expr} {m : Sg → Hq → R (List Val)} (h : PE X e (tL G W m)) : PE X e (tE G W fun σ h => (m σ h).bind fun vs h1 => (toDs vs h1).bind fun ds h2 => .ok (.d (.list ds)) h2) := h.imp ofL_imp
theorem ip_new {e : Expr} {m : Sg → Hq → R (List Val)} (h : PE X e (tL G W m)) : PE X e (tE G W fun σ h => (m σ h).bind fun vs h1 => .ok (.ref h1.length) (h1 ++ [.lst vs])) := h.imp new_imp
end
end Ip

set_option linter.all false
set_option Elab.async false
set_option autoImplicit false
/-! Lists made, subscripts, stores, built-ins, f-strings. -/
namespace Ip
open PySem L2

section
variable {X : Cx} {G : Gb} {E : XK} {W : WX} {pos : Pos}

/-! ### lists made -/
/-- a list laid behind the values that it holds -/
theorem lr_new {Av : Addr → Prop} {s0 s : S3} {vs : List Val} {xs : List V} (rp : RepH G Av s) (t : Stp s0 s) (q : VRs G Av s vs xs) {p : Addr} (hp : s.H p = none) :
    LR G Av s0 vs (.ref p) ⟨s.r, s.h, upd s.H p (.lst xs)⟩ ∧ RepH G Av ⟨s.r, s.h, upd s.H p (.lst xs)⟩ ∧ Stp s0 ⟨s.r, s.h, upd s.H p (.lst xs)⟩ := by
  obtain ⟨rpA, conv⟩ := rp.more hp (o := .lst xs)
  obtain ⟨r1, t1⟩ := rp.upd_new (o := .lst xs) hp
  have h0 : s0.H p = none := by
    cases e : s0.H p with
    | none => rfl
    | some o => exact absurd hp (t.fr.there p (by rw [e]; exact fun z => by cases z))
  refine ⟨⟨p, xs, rfl, h0, rpA, upd_same, ?_⟩, r1, t.trans t1 rp.nd rp.len⟩
  induction q with
  | nil => exact .nil
  | cons h _ ih =>
    refine .cons ?_ ?_
    · cases h with
      | d q => exact .d (DR.mono t1.fr (fun a z => .inr z) (fun a ha hb hb' => by
          rcases bad_also.mp hb' with z | z
          · exact t1.bad r1.nd a ha hb z
          · subst z; exact ha hp) q)
      | ref q => exact .ref q
      | fn q => exact .fn q
    · rename_i vs' x' xs' _
      -- the same list object, whatever its items are called
      clear ih
      rename_i tl
      have aux : ∀ {ws : List Val} {zs : List V}, VRs G Av s ws zs → VRs G (also Av p) ⟨s.r, s.h, upd s.H p (.lst (x' :: xs'))⟩ ws zs := fun {ws zs} w => by
        induction w with
        | nil => exact .nil
        | cons h _ ih =>
          refine .cons ?_ ih
          have f1 : Fr (fun a => ∃ n, s.r[n]? = some a ∧ live s.h n) s.H (upd s.H p (.lst (x' :: xs'))) := fr_upd_new hp
          cases h with
          | d q => exact .d (DR.mono f1 (fun a z => .inr z) (fun a ha hb hb' => by
              rcases bad_also.mp hb' with z | z
              · rcases z with z | z
                · exact hb (.inl z)
                · exact hb (.inr z)
              · subst z; exact ha hp) q)
          | ref q => exact .ref q
          | fn q => exact .fn q
      exact aux tl
theorem il_dsp {es : List Expr} {ms : Sg → Hq → R (List Val)} (hs : PA X es (tA G W ms)) :
    PE X (.List es pos) (tL G W fun σ h => (ms σ h).bind fun vs h1 => if fits vs.length then .ok vs h1 else .no) := by
  refine (pe_lst hs).imp fun τ H Q ⟨Av, s, σ, hH, rp, sr, p⟩ => ?_
  subst hH
  refine ⟨Av, s, σ, rfl, rp, sr, ?_⟩
  revert p
  show (Post G _ Av s _ ((ms σ s.h).bind _) Q → _)
  cases ms σ s.h with
  | er x h => exact fun p => p
  | no => exact fun p => p
  | ok vs h1 =>
    intro p s1 ys e1 rp1 st1 q1
    subst e1
    simp only [R.bind_ok] at p
    split at p
    · rename_i hf
      refine ⟨by rw [← q1.length]; exact fits_line hf, fun a ha => ?_⟩
      obtain ⟨lr, r2, t2⟩ := lr_new rp1 st1 q1 ha
      exact p ⟨s1.r, s1.h, upd s1.H a (.lst ys)⟩ _ rfl r2 t2 lr
    · exact p.elim

/-! ### subscripts -/
theorem ixn_eq (n : Nat) (i : Int) : ixn n i = L2.ixN n i := rfl
theorem atI_of {vs : List Val} {xs : List V} {Av : Addr → Prop} {s : S3} {i : Int} {v : Val} (q : VRs G Av s vs xs) (e : atD vs i = some v) : ∃ x, L2.atI xs i = some x ∧ VR G Av s v x := by
  unfold atD at e
  unfold L2.atI
  rw [← q.length, ← ixn_eq]
  cases h : ixn vs.length i with
  | none => rw [h] at e; cases e
  | some j =>
    rw [h] at e
    exact q.get e
theorem ip_ix {a b : Expr} {ma mb : Sg → Hq → R Val} (hK : G.K = X.K) (ha : PE X a (tE G W ma)) (hb : PE X b (tE G W mb)) (hs : PlainIx b) :
    PE X (.Subscript a b pos) (tE G W fun σ h => (ma σ h).bind fun x h1 => (mb σ h1).bind fun y h2 => ixV x y h2) := by
  refine (pe_ix ix_seq ha hb hs).imp fun τ H Q ⟨Av, s, σ, hH, rp, sr, p⟩ => ?_
  subst hH
  refine tE_bind rp sr p fun v y s1 rp1 st1 sr1 q1 p1 => ?_
  refine tE_bind rp1 sr1 p1 fun w z s2 rp2 st2 sr2 q2 p2 => ?_
  have q1 := st2.vr rp2.nd q1
  unfold ixV at p2
  split at p2
  · rename_i vs i e1
    split at p2
    · rename_i u e2
      obtain ⟨a, xs, rfl, hq, hv⟩ := els_ok rp2 q1 e1
      obtain ⟨x, e3, qx⟩ := atI_of hv e2
      cases q2 with
      | d q2 =>
        cases q2
        rw [hK] at hq
        rcases hq with hq | hq
        · exact .inl ⟨a, xs, i, x, rfl, rfl, hq, e3, p2.fin rp2 qx⟩
        · exact .inr (.inl ⟨a, xs, i, x, rfl, rfl, hq, e3, p2.fin rp2 qx⟩)
    · exact p2.elim
  · rename_i i e1
    split at p2
    · rename_i zz
      clear zz
      split at p2
      · rename_i hf
        split at p2
        · rename_i j ej
          split at p2
          · rename_i c ec
            cases q1 with
            | d q1 =>
              cases q1
              cases q2 with
              | d q2 =>
                cases q2
                refine .inr (.inr ⟨_, i, c, rfl, rfl, fits_line hf, ?_, p2.fin rp2 (.d (.str _))⟩)
                unfold L2.atI
                rw [← ixn_eq, ej]
                exact ec
          · exact p2.elim
        · exact p2.elim
      · exact p2.elim
    · exact p2.elim
  · exact p2.elim

/-! ### a slice of a list -/
/-- an end of a slice -/
def tO (G : Gb) (W : WX) (m : Sg → Hq → R (Option Int)) : TO := fun τ H Q => ∃ (Av : Addr → Prop) (s : S3) (σ : Sg), s.H = H ∧ RepH G Av s ∧ SR G Av s σ τ ∧ Post G (We W τ) Av s (fun v y _ => v = y) (m σ s.h) Q
theorem tO_bind {Av : Addr → Prop} {s : S3} {σ : Sg} {τ : L2.St} {γ δ : Type} {m : Sg → Hq → R (Option Int)} {f : Option Int → Hq → R γ} {Rm : γ → δ → S3 → Prop} {Q : δ → Hp → Prop} (rp : RepH G Av s) (sr : SR G Av s σ τ) (p : Post G (We W τ) Av s Rm ((m σ s.h).bind f) Q) {Q' : Option Int → Hp → Prop}
    (h : ∀ (b : Option Int) (s1 : S3), RepH G Av s1 → Stp s s1 → SR G Av s1 σ τ → Post G (We W τ) Av s1 Rm (f b s1.h) Q → Q' b s1.H) : tO G W m τ s.H Q' := by
  refine ⟨Av, s, σ, rfl, rp, sr, (p.bind (Rl := fun v y s' => v = y)).mono ?_⟩
  rintro y H1 ⟨v, s1, rfl, rp1, st, q, p1⟩
  subst q
  exact h v s1 rp1 st (st.sr rp1.nd sr) p1
theorem _root_.L2.PO.imp {e : Option Expr} {t t' : TO} (h : PO X e t) (q : ∀ τ H Q, t' τ H Q → t τ H Q) : PO X e t' := ⟨fun pins s σ H Q I w => h.run pins s σ H Q I (q _ _ _ w)⟩
theorem io_none : PO X none (tO G W fun _ h => .ok none h) := by
  refine po_none.imp fun τ H Q ⟨Av, s, σ, hH, rp, sr, p⟩ => ?_
  subst hH
  exact p.fin rp rfl
theorem io_some {e : Expr} {m : Sg → Hq → R Val} (he : PE X e (tE G W m)) : PO X (some e) (tO G W fun σ h => (m σ h).bind fun x h1 => match intV x with | some i => .ok (some i) h1 | none => .no) := by
  refine (po_some he).imp fun τ H Q ⟨Av, s, σ, hH, rp, sr, p⟩ => ?_
  subst hH
  refine tE_bind rp sr p fun v y s1 rp1 st1 sr1 q1 p1 => ?_
  cases v with
  | ref n => exact p1.elim
  | fn f => exact p1.elim
  | d x =>
    cases x with
    | int i => cases q1 with | d q => cases q; exact ⟨i, rfl, p1.fin rp1 rfl⟩
    | none => exact p1.elim
    | bool b => exact p1.elim
    | str b => exact p1.elim
    | list b => exact p1.elim
    | tuple b => exact p1.elim
    | dict b => exact p1.elim
theorem cutIx_eq (n d : Nat) (o : Option Int) (hd : d ≤ n) : cutIx n d o = HT.sIx n d o := by
  cases o with
  | none => rfl
  | some i =>
    have h := HT.clip_eq i n d
    unfold cutIx
    split at h
    · rename_i hi
      simp only [hi, if_true]
      have : ((HT.sIx n d (some i) : Nat) : Int) = max (i + (n : Int)) 0 := h.symm
      omega
    · rename_i hi
      simp only [hi, if_false]
      have : ((HT.sIx n d (some i) : Nat) : Int) = min i (n : Int) := h.symm
      omega
theorem cutV_of {vs : List Val} {xs : List V} {Av : Addr → Prop} {s : S3} (q : VRs G Av s vs xs) (lo hi : Option Int) : VRs G Av s (cutD vs lo hi) (cutV xs lo hi) := by
  unfold cutD cutV
  rw [cutIx_eq _ _ _ (Nat.zero_le _), cutIx_eq _ _ _ (Nat.le_refl _), q.length]
  exact (q.drop _).take _
theorem elsL_ok {Av : Addr → Prop} {s : S3} (r : RepH G Av s) {v : Val} {y : V} {vs : List Val} (q : VR G Av s v y) (e : elsL s.h v = some vs) :
    ∃ a xs, y = .ref a ∧ SqL G.K s.H a xs ∧ VRs G Av s vs xs := by
  cases q with
  | d q =>
    cases q with
    | lst h t => cases e; exact ⟨_, _, rfl, sql_of h, VRs.of_data t⟩
    | tup h t => cases e
    | non => cases e
    | bl b => cases e
    | int i => cases e
    | str x => cases e
  | ref hn =>
    unfold elsL at e
    simp only at e
    split at e
    · rename_i ws hl
      cases e
      obtain ⟨xs, hx, hv⟩ := r.obj _ _ _ hn hl
      exact ⟨_, xs, rfl, .inl (.inl hx), hv⟩
    · rename_i ws hl
      cases e
      have q := r.obj _ _ _ hn hl
      cases q with
      | lst h t => exact ⟨_, _, rfl, sql_of h, VRs.of_data t⟩
    · cases e
  | fn _ => cases e
theorem cut_map {α β : Type} (f : α → β) (xs : List α) (lo hi : Option Int) : cutD (xs.map f) lo hi = (cutD xs lo hi).map f := by
  unfold cutD
  rw [List.length_map, List.map_take, List.map_drop]
/-- data laid into a new list -/
theorem Post.newL {Av : Addr → Prop} {s : S3} {ds : List D} {ys : List V} {Q : VK} (rp : RepH G Av s) (q : DRs G.K s.H (Bad Av s) ys ds) (p : Post G E Av s (fun v y s' => VR G Av s' v y) (.ok (.d (.list ds)) s.h) Q) {a : Addr} (ha : s.H a = none) : Q (.ref a) (upd s.H a (.lst ys)) := by
  obtain ⟨rp3, st3⟩ := rp.upd_new (o := .lst ys) ha
  have nb : ¬ Bad Av ⟨s.r, s.h, upd s.H a (.lst ys)⟩ a := fun z => by
    rcases z with z | ⟨n, z, _⟩
    · exact rp.av a z ha
    · exact rp.trk a (List.mem_of_getElem? z) ha
  exact p ⟨s.r, s.h, upd s.H a (.lst ys)⟩ (.ref a) rfl rp3 st3 (.d (.lst (.inl ⟨.inl upd_same, nb⟩) (DRs.mono st3.fr (fun a z => .inr z) (st3.bad rp3.nd) q)))
theorem Post.newT {Av : Addr → Prop} {s : S3} {ds : List D} {ys : List V} {Q : VK} (rp : RepH G Av s) (q : DRs G.K s.H (Bad Av s) ys ds) (p : Post G E Av s (fun v y s' => VR G Av s' v y) (.ok (.d (.tuple ds)) s.h) Q) {a : Addr} (ha : s.H a = none) : Q (.ref a) (upd s.H a (.tup ys)) := by
  obtain ⟨rp3, st3⟩ := rp.upd_new (o := .tup ys) ha
  exact p ⟨s.r, s.h, upd s.H a (.tup ys)⟩ (.ref a) rfl rp3 st3 (.d (.tup (.inl (.inl upd_same)) (DRs.mono st3.fr (fun a z => .inr z) (st3.bad rp3.nd) q)))
theorem cutD_s (z : Str) (lo hi : Option Int) : (⟨(cutD z.cps.toList lo hi).toArray⟩ : Str) = cutS z lo hi := by
  unfold cutD cutS
  rw [cutIx_eq _ _ _ (Nat.zero_le _), cutIx_eq _ _ _ (Nat.le_refl _)]
  rfl
theorem ip_slc {a : Expr} {lo hi : Option Expr} {p2 : Pos} {ma : Sg → Hq → R Val} {ml mh : Sg → Hq → R (Option Int)} (hK : G.K = X.K) (ha : PE X a (tE G W ma)) (hl : PO X lo (tO G W ml)) (hh : PO X hi (tO G W mh)) :
    PE X (.Subscript a (.Slice lo hi none p2) pos) (tE G W fun σ h => (ma σ h).bind fun x h1 => (ml σ h1).bind fun l h2 => (mh σ h2).bind fun u h3 => slcV x l u h3) := by
  refine (pe_slice (sl_list.or (sl_tupA.or sl_str)) ha hl hh).imp fun τ H Q ⟨Av, s, σ, hH, rp, sr, p⟩ => ?_
  subst hH
  refine tE_bind rp sr p fun v y s1 rp1 st1 sr1 q1 p1 => ?_
  refine tO_bind rp1 sr1 p1 fun l s2 rp2 st2 sr2 p2 => ?_
  refine tO_bind rp2 sr2 p2 fun u s3 rp3 st3 sr3 p3 => ?_
  have q1 := (st2.trans st3 rp2.nd rp2.len).vr rp3.nd q1
  unfold slcV at p3
  split at p3
  · rename_i vs e1
    obtain ⟨b, xs, rfl, hq, hv⟩ := elsL_ok rp3 q1 e1
    obtain ⟨ds, h', rp4, st4, d4, p4⟩ := Post.toDs rp3 (cutV_of hv l u) p3
    exact .inl ⟨b, xs, rfl, hK ▸ hq, fun p hp => Post.newL rp4 d4 p4 hp⟩
  · split at p3
    · rename_i xs _ _
      cases q1 with
      | d q1 =>
        cases q1 with
        | tup h t =>
          rename_i b ys
          have hc : DRs G.K s3.H (Bad Av s3) (cutV ys l u) (cutD xs l u) := by
            have := (cutV_of (VRs.of_data t) l u)
            rw [cut_map] at this
            exact this.to_data
          refine .inr (.inl ⟨b, ys, rfl, hK ▸ h, fun hw => ?_, fun _ p hp => Post.newT rp3 hc p3 hp⟩)
          have e : cutV ys l u = ys := by
            unfold cutV
            rw [hw.1, hw.2, List.drop_zero, Nat.sub_zero, List.take_length]
          rw [e] at hc
          exact p3.fin rp3 (.d (.tup h hc))
    · rename_i z _ _
      split at p3
      · rename_i hf
        cases q1 with
        | d q1 =>
          cases q1
          refine .inr (.inr ⟨z, rfl, fits_line hf, ?_⟩)
          rw [← cutD_s]
          exact p3.fin rp3 (.d (.str _))
      · exact p3.elim
    · exact p3.elim
end
end Ip

set_option linter.all false
set_option Elab.async false
set_option autoImplicit false
/-! Built-ins by their data, append, stores, f-strings. -/
namespace Ip
open PySem L2

section
variable {X : Cx} {G : Gb} {E : XK} {W : WX} {pos : Pos}

/-! ### built-ins -/
def prmOf : Prm → Value
  | .len => .builtin "len"
  | .abs => .builtin "abs"
  | .int => .type "int"
  | .str => .type "str"
  | .repr => .builtin "repr"
  | .sum => .builtin "sum"
  | .max1 => .builtin "max"
  | .min1 => .builtin "min"
  | .max2 => .builtin "max"
  | .min2 => .builtin "min"
  | .all => .builtin "all"
  | .any => .builtin "any"
def rPrm (G : Gb) (p : Prm) : List V → Hp → VK → Prop := fun vs H Q => ∃ ds c v, DRs G.K H NoB vs ds ∧ prmD p ds = some c ∧ scalV c = some v ∧ Q v H
theorem drs_ints {K : PySem.W.Frag} {H : Hp} {B : Addr → Prop} : ∀ {ds : List D} {xs : List V} {ns : List Int}, DRs K H B xs ds → intsOf ds = some ns → xs = ns.map V.int
  | [], _, _, .nil, e => by cases e; rfl
  | .int i :: r, _, _, .cons h t, e => by
    cases h
    unfold intsOf at e
    cases e2 : intsOf r with
    | none => rw [e2] at e; cases e
    | some ms =>
      rw [e2] at e
      cases e
      rw [drs_ints t e2]; rfl
  | .none :: _, _, _, _, e => by cases e
  | .bool _ :: _, _, _, _, e => by cases e
  | .str _ :: _, _, _, _, e => by cases e
  | .list _ :: _, _, _, _, e => by cases e
  | .tuple _ :: _, _, _, _, e => by cases e
  | .dict _ :: _, _, _, _, e => by cases e
theorem drs_bools {K : PySem.W.Frag} {H : Hp} {B : Addr → Prop} : ∀ {ds : List D} {xs : List V} {ns : List Bool}, DRs K H B xs ds → boolsOf ds = some ns → xs = ns.map V.bl
  | [], _, _, .nil, e => by cases e; rfl
  | .bool i :: r, _, _, .cons h t, e => by
    cases h
    unfold boolsOf at e
    cases e2 : boolsOf r with
    | none => rw [e2] at e; cases e
    | some ms =>
      rw [e2] at e
      cases e
      rw [drs_bools t e2]; rfl
  | .none :: _, _, _, _, e => by cases e
  | .int _ :: _, _, _, _, e => by cases e
  | .str _ :: _, _, _, _, e => by cases e
  | .list _ :: _, _, _, _, e => by cases e
  | .tuple _ :: _, _, _, _, e => by cases e
  | .dict _ :: _, _, _, _, e => by cases e
theorem sumI_eq : ∀ ns : List Int, sumI ns = ns.sum
  | [] => rfl
  | x :: r => by unfold sumI; rw [sumI_eq r, List.sum_cons]
theorem maxI_is : ∀ (m : Int) (r : List Int), maxI m r ∈ m :: r ∧ ∀ y ∈ m :: r, y ≤ maxI m r
  | m, [] => ⟨List.mem_cons_self, fun y hy => by simp at hy; subst hy; exact Int.le_refl _⟩
  | m, x :: r => by
    unfold maxI
    obtain ⟨h1, h2⟩ := maxI_is (if x > m then x else m) r
    constructor
    · rcases List.mem_cons.mp h1 with h | h
      · rw [h]; split
        · exact List.mem_cons_of_mem _ List.mem_cons_self
        · exact List.mem_cons_self
      · exact List.mem_cons_of_mem _ (List.mem_cons_of_mem _ h)
    · intro y hy
      have h3 := h2 _ List.mem_cons_self
      rcases List.mem_cons.mp hy with h | h
      · subst h; split at h3 <;> (split <;> omega)
      · rcases List.mem_cons.mp h with h | h
        · subst h; split at h3 <;> (split <;> omega)
        · exact h2 y (List.mem_cons_of_mem _ h)
theorem minI_is : ∀ (m : Int) (r : List Int), minI m r ∈ m :: r ∧ ∀ y ∈ m :: r, minI m r ≤ y
  | m, [] => ⟨List.mem_cons_self, fun y hy => by simp at hy; subst hy; exact Int.le_refl _⟩
  | m, x :: r => by
    unfold minI
    obtain ⟨h1, h2⟩ := minI_is (if x < m then x else m) r
    constructor
    · rcases List.mem_cons.mp h1 with h | h
      · rw [h]; split
        · exact List.mem_cons_of_mem _ List.mem_cons_self
        · exact List.mem_cons_self
      · exact List.mem_cons_of_mem _ (List.mem_cons_of_mem _ h)
    · intro y hy
      have h3 := h2 _ List.mem_cons_self
      rcases List.mem_cons.mp hy with h | h
      · subst h; split at h3 <;> (split <;> omega)
      · rcases List.mem_cons.mp h with h | h
        · subst h; split at h3 <;> (split <;> omega)
        · exact h2 y (List.mem_cons_of_mem _ h)
theorem drs1 {K : PySem.W.Frag} {H : Hp} {B : Addr → Prop} {vs : List V} {d : D} (h : DRs K H B vs [d]) : ∃ v, vs = [v] ∧ DR K H B v d := by
  cases h with
  | cons h t => cases t; exact ⟨_, rfl, h⟩
theorem drs2 {K : PySem.W.Frag} {H : Hp} {B : Addr → Prop} {vs : List V} {d e : D} (h : DRs K H B vs [d, e]) : ∃ v u, vs = [v, u] ∧ DR K H B v d ∧ DR K H B u e := by
  cases h with
  | cons h t =>
    cases t with
    | cons h2 t => cases t; exact ⟨_, _, rfl, h, h2⟩
/-- where built-ins run -/
structure Calm (X : Cx) : Prop where
  calm : X.calm = true
  un : X.A.units + 64 < cLine
  gd : X.A.guards = some []
theorem repr_ok {H : Hp} {B : Addr → Prop} {x : D} {a : Addr} (c : Calm X) (hK : G.K = X.K) (d : DR G.K H B (.ref a) x) (h1 : x.showable = true) (h2 : x.hasDict = false) (h3 : x.depth ≤ 60) (h4 : x.shown.length ≤ sizeLine) {pins : List (Addr × Obj)} {s : Shared} {σ : L2.St} {Q : VK} (I : Inv X pins σ H s)
    (q : Q (.str x.shown) H) : wpAny (model X.prog X.w) X.A (call (.builtin "repr") [.ref a]) (EP X pins σ Q) X.xe s := by
  obtain ⟨as, r⟩ := Dp.reads I x (.ref a) (.ref a) (hK ▸ d.dp) rfl
  refine PySem.repr_of_reads' r h1 (fun z => by rw [h2] at z; cases z) c.gd (by have := c.un; omega) (fun _ _ e => e) (fun h' u tk hk => ?_) h4
  exact ⟨.str x.shown, H, I.kept hk, ⟨u, rfl⟩, q⟩
theorem cr_prm (p : Prm) (c : Calm X) (hK : G.K = X.K) : CallR X (prmOf p) (rPrm G p) := by
  rintro pins s σ H xs us Q I r ⟨ds, cc, v, dr, e, sc, q⟩
  unfold prmD at e
  split at e
  · cases e; cases sc
    obtain ⟨y, rfl, d⟩ := drs1 dr
    cases d with
    | lst h t => exact call_len pins s σ H _ us Q I r ⟨_, _, rfl, .inl ⟨_, hK ▸ sql_of h, rfl⟩, by rw [t.length]; exact q⟩
  · cases e; cases sc
    obtain ⟨y, rfl, d⟩ := drs1 dr
    cases d with
    | tup h t => exact call_len pins s σ H _ us Q I r ⟨_, _, rfl, .inr ⟨_, hK ▸ h, rfl⟩, by rw [t.length]; exact q⟩
  · split at e
    · rename_i hf
      cases e; cases sc
      obtain ⟨y, rfl, d⟩ := drs1 dr
      cases d
      exact call_len pins s σ H _ us Q I r ⟨_, _, rfl, ⟨fits_line hf, rfl⟩, q⟩
    · cases e
  · cases e; cases sc
    obtain ⟨y, rfl, d⟩ := drs1 dr
    cases d
    exact call_abs pins s σ H _ us Q I r ⟨_, rfl, q⟩
  · cases e; cases sc
    obtain ⟨y, rfl, d⟩ := drs1 dr
    cases d
    exact call_int1 pins s σ H _ us Q I r (.inl ⟨_, rfl, q⟩)
  · cases e; cases sc
    obtain ⟨y, rfl, d⟩ := drs1 dr
    cases d
    exact call_int1 pins s σ H _ us Q I r (.inr ⟨_, rfl, q⟩)
  · split at e
    · rename_i hf
      cases e; cases sc
      obtain ⟨y, rfl, d⟩ := drs1 dr
      cases d
      exact call_str_int pins s σ H _ us Q I r ⟨_, rfl, hf, q⟩
    · cases e
  · split at e
    · rename_i hf
      simp only [Bool.and_eq_true, decide_eq_true_eq, Bool.not_eq_true'] at hf
      cases e; cases sc
      obtain ⟨y, rfl, d⟩ := drs1 dr
      cases d with
      | lst h t =>
        rw [Vals.ref1 r]
        exact repr_ok c hK (.lst h t) hf.1.1.1 hf.1.1.2 hf.1.2 (fits_line hf.2) I q
    · cases e
  · split at e
    · rename_i hf
      simp only [Bool.and_eq_true, decide_eq_true_eq, Bool.not_eq_true'] at hf
      cases e; cases sc
      obtain ⟨y, rfl, d⟩ := drs1 dr
      cases d with
      | tup h t =>
        rw [Vals.ref1 r]
        exact repr_ok c hK (.tup h t) hf.1.1.1 hf.1.1.2 hf.1.2 (fits_line hf.2) I q
    · cases e
  · rename_i ys
    cases e2 : intsOf ys with
    | none => rw [e2] at e; cases e
    | some ns =>
      rw [e2] at e
      cases e; cases sc
      obtain ⟨y, rfl, d⟩ := drs1 dr
      cases d with
      | lst h t =>
        cases drs_ints t e2
        exact cr_sum c.calm pins s σ H _ us Q I r ⟨_, ns, rfl, hK ▸ sql_of h, by rw [← sumI_eq]; exact q⟩
  · split at e
    · rename_i ys n ns e2
      cases e; cases sc
      obtain ⟨y, rfl, d⟩ := drs1 dr
      cases d with
      | lst h t =>
        cases drs_ints t e2
        refine cr_max c.calm pins s σ H _ us Q I r ⟨_, n :: ns, rfl, hK ▸ sql_of h, Nat.succ_pos _, fun m h1 h2 => ?_⟩
        obtain ⟨h3, h4⟩ := maxI_is n ns
        have : m = maxI n ns := Int.le_antisymm (h4 m h1) (h2 _ h3)
        subst this; exact q
    · cases e
  · split at e
    · rename_i ys n ns e2
      cases e; cases sc
      obtain ⟨y, rfl, d⟩ := drs1 dr
      cases d with
      | lst h t =>
        cases drs_ints t e2
        refine cr_min c.calm pins s σ H _ us Q I r ⟨_, n :: ns, rfl, hK ▸ sql_of h, Nat.succ_pos _, fun m h1 h2 => ?_⟩
        obtain ⟨h3, h4⟩ := minI_is n ns
        have : m = minI n ns := Int.le_antisymm (h2 _ h3) (h4 m h1)
        subst this; exact q
    · cases e
  · cases e; cases sc
    obtain ⟨y, z, rfl, d1, d2⟩ := drs2 dr
    cases d1; cases d2
    exact call_max2 c.calm pins s σ H _ us Q I r ⟨_, _, rfl, q⟩
  · cases e; cases sc
    obtain ⟨y, z, rfl, d1, d2⟩ := drs2 dr
    cases d1; cases d2
    exact call_min2 c.calm pins s σ H _ us Q I r ⟨_, _, rfl, q⟩
  · rename_i ys
    cases e2 : boolsOf ys with
    | none => rw [e2] at e; cases e
    | some ns =>
      rw [e2] at e
      cases e; cases sc
      obtain ⟨y, rfl, d⟩ := drs1 dr
      cases d with
      | lst h t =>
        cases drs_bools t e2
        exact cr_all c.calm pins s σ H _ us Q I r ⟨_, ns, rfl, hK ▸ sql_of h, q⟩
  · rename_i ys
    cases e2 : boolsOf ys with
    | none => rw [e2] at e; cases e
    | some ns =>
      rw [e2] at e
      cases e; cases sc
      obtain ⟨y, rfl, d⟩ := drs1 dr
      cases d with
      | lst h t =>
        cases drs_bools t e2
        exact cr_any c.calm pins s σ H _ us Q I r ⟨_, ns, rfl, hK ▸ sql_of h, q⟩
  · cases e
theorem prmD_scal {p : Prm} {ds : List D} {c : D} (h : prmD p ds = some c) : ∃ v, scalV c = some v := by
  unfold prmD at h
  split at h <;> (try split at h) <;> first
    | (cases h; exact ⟨_, rfl⟩)
    | cases h
    | (rename_i ys; cases e2 : intsOf ys with | none => rw [e2] at h; cases h | some ns => rw [e2] at h; cases h; exact ⟨_, rfl⟩)
    | (rename_i ys; cases e2 : boolsOf ys with | none => rw [e2] at h; cases h | some ns => rw [e2] at h; cases h; exact ⟨_, rfl⟩)
theorem postP {Av : Addr → Prop} {s : S3} {p : Prm} {vs : List Val} {xs : List V} {Q : VK} (rp : RepH G Av s) (q : VRs G Av s vs xs) (po : Post G E Av s (fun v y s' => VR G Av s' v y) (prmV p vs s.h) Q) : rPrm G p xs s.H Q := by
  unfold prmV at po
  split at po
  · rename_i ds e1
    split at po
    · rename_i c e2
      obtain ⟨v, sc⟩ := prmD_scal e2
      exact ⟨ds, c, v, pks_dr rp q e1, e2, sc, po.fin rp (.d (scal_dr sc))⟩
    · exact po.elim
  · exact po.elim
theorem ip_prmB {p : Prm} {id : String} {x : Str} {px : Pos} {e : Expr} {es : List Expr} {ms : Sg → Hq → R (List Val)} (c : Calm X) (hK : G.K = X.K) (hp : prmOf p = .builtin id) (hg : Gl X x) (hm : X.mg x = none) (hv : bootBuiltins x = some (.builtin id)) (ha : PA X (e :: es) (tA G W ms)) (hn : x ≠ "__name__")
    (hdb : (x == ("__debug__" : Str)) = false) (he : starEach (e :: es) X.env = (false, eval e X.env) :: starEach es X.env) (hpl : (backTo pos (starEach es X.env)).any (·.1) = false) :
    PE X (.Call (.Name x px) (e :: es) [] pos) (tE G W fun σ h => (ms σ h).bind fun vs h1 => prmV p vs h1) := by
  refine (pe_callB (r := rPrm G p) (by rw [← hp]; exact cr_prm p c hK) hg hm hv ha hn hdb he hpl).imp fun τ H Q ⟨Av, s, σ, hH, rp, sr, po⟩ => ?_
  subst hH
  exact tA_bind rp sr po fun vs ys s1 rp1 st1 sr1 q1 p1 => postP rp1 q1 p1
theorem ip_prmT {p : Prm} {id : String} {x : Str} {px : Pos} {e : Expr} {es : List Expr} {ms : Sg → Hq → R (List Val)} (c : Calm X) (hK : G.K = X.K) (hp : prmOf p = .type id) (hg : Gl X x) (hm : X.mg x = none) (hv : bootBuiltins x = some (.type id)) (ha : PA X (e :: es) (tA G W ms)) (hn : x ≠ "__name__")
    (hdb : (x == ("__debug__" : Str)) = false) (he : starEach (e :: es) X.env = (false, eval e X.env) :: starEach es X.env) (hpl : (backTo pos (starEach es X.env)).any (·.1) = false) :
    PE X (.Call (.Name x px) (e :: es) [] pos) (tE G W fun σ h => (ms σ h).bind fun vs h1 => prmV p vs h1) := by
  refine (pe_callTy (r := rPrm G p) (by rw [← hp]; exact cr_prm p c hK) hg hm hv ha hn hdb he hpl).imp fun τ H Q ⟨Av, s, σ, hH, rp, sr, po⟩ => ?_
  subst hH
  exact tA_bind rp sr po fun vs ys s1 rp1 st1 sr1 q1 p1 => postP rp1 q1 p1

/-! ### an object written -/
theorem RepH.write {Av : Addr → Prop} {s : S3} (rp : RepH G Av s) {n : Nat} {a : Addr} {ws vs : List Val} {zs xs : List V} (hn : s.r[n]? = some a) (hl : s.h[n]? = some (.lst ws)) (hH : s.H a = some (.lst zs)) (q : VRs G Av s vs xs) :
    RepH G Av ⟨s.r, s.h.set n (.lst vs), upd s.H a (.lst xs)⟩ ∧ Stp s ⟨s.r, s.h.set n (.lst vs), upd s.H a (.lst xs)⟩ := by
  have hnl : n < s.h.length := lt_of_get hl
  have lv : ∀ m, live (s.h.set n (.lst vs)) m → live s.h m := fun m ⟨us, e⟩ => by
    by_cases hmn : n = m
    · subst hmn; exact ⟨ws, hl⟩
    · rw [List.getElem?_set_ne hmn] at e; exact ⟨us, e⟩
  have st : Stp s ⟨s.r, s.h.set n (.lst vs), upd s.H a (.lst xs)⟩ :=
    ⟨List.prefix_refl _, fun m _ h => lv m h, fr_upd_live hH ⟨n, hn, ws, hl⟩, fun _ h => .inl h⟩
  refine ⟨⟨by rw [List.length_set]; exact rp.len, rp.nd, fun m b o e1 e2 => ?_, fun b z => st.fr.there b (rp.av b z), rp.dis, fun b z => st.fr.there b (rp.trk b z)⟩, st⟩
  by_cases hmn : n = m
  · subst hmn
    have e2 : (s.h.set n (.lst vs))[n]? = some o := e2
    rw [List.getElem?_set_self hnl] at e2
    cases e2
    have e1 : s.r[n]? = some b := e1
    rw [hn] at e1; cases e1
    exact ⟨xs, upd_same, st.vrs rp.nd q⟩
  · have e2 : (s.h.set n (.lst vs))[m]? = some o := e2
    rw [List.getElem?_set_ne hmn] at e2
    have q2 := rp.obj m b o e1 e2
    cases o with
    | lst us =>
      obtain ⟨ys, h1, h2⟩ := q2
      have : b ≠ a := fun z => by subst z; exact hmn (nd_get rp.nd hn e1)
      exact ⟨ys, (upd_ne this).trans h1, st.vrs rp.nd h2⟩
    | dead x => exact st.dr rp.nd q2
/-! ### o.append(a) -/
theorem ip_app {o a : Expr} {apos : Pos} {mo ma : Sg → Hq → R Val} (hK : G.K = X.K) (ho : PE X o (tE G W mo)) (ha : PE X a (tE G W ma)) (hbase : attributeBase o "append" X.env (eval o X.env) = eval o X.env)
    (hst : starEach [a] X.env = [(false, eval a X.env)]) (hline : (apos.endLine == pos.line) = true) :
    PE X (.Call (.Attribute o "append" apos) [a] [] pos) (tE G W fun σ h => (mo σ h).bind fun x h1 => (lstV x h1).bind fun _ h1 => (ma σ h1).bind fun y h2 => appV x y h2) := by
  have hst' : starEach [a] X.env = (false, eval a X.env) :: starEach [] X.env := by rw [hst]; rfl
  refine (pe_bm (T := "list") PySem.F.plainAttrs_list PySem.F.slot_list_append PySem.F.type_list_append mt_append ho (ia_cons (G := G) (W := W) ha ia_nil hst') hbase (by rw [hst]; rfl) hline hst' (by rfl)).imp fun τ H Q ⟨Av, s, σ, hH, rp, sr, p⟩ => ?_
  subst hH
  refine tE_bind rp sr p fun x y s1 rp1 st1 sr1 q1 p1 => ?_
  unfold lstV at p1
  split at p1
  · rename_i n
    split at p1
    · rename_i ws hl
      cases q1 with
      | ref hn =>
        rename_i b
        obtain ⟨zs, hH1, hv⟩ := rp1.obj n b _ hn hl
        refine ⟨.inl ⟨rfl, zs, hK ▸ .inl (.inl hH1)⟩, ?_⟩
        have p2 : Post G (We W τ) Av s1 (fun v y s' => VR G Av s' v y) ((((ma σ s1.h).bind fun v h1 => (R.ok ([] : List Val) h1).bind fun vs h2 => R.ok (v :: vs) h2)).bind fun vs h2 => match vs with | [y] => appV (.ref n) y h2 | _ => .no) Q := by
          have e : (((ma σ s1.h).bind fun v h1 => (R.ok ([] : List Val) h1).bind fun vs h2 => R.ok (v :: vs) h2)).bind (fun vs h2 => match vs with | [y] => appV (.ref n) y h2 | _ => .no) = (ma σ s1.h).bind fun y h2 => appV (.ref n) y h2 := by
            simp only [R.bind_assoc, R.bind_ok]
          rw [e]; exact p1
        refine tA_bind (m := fun σ h => (ma σ h).bind fun v h1 => (R.ok ([] : List Val) h1).bind fun vs h2 => R.ok (v :: vs) h2) rp1 sr1 p2 fun vs ys s2 rp2 st2 sr2 q2 p3 => ?_
        cases q2 with
        | nil => exact p3.elim
        | cons h t =>
          cases t with
          | cons _ _ => exact p3.elim
          | nil =>
            rename_i v z
            have p3 : Post G _ Av s2 (fun v y s' => VR G Av s' v y) (appV (.ref n) v s2.h) Q := p3
            unfold appV at p3
            simp only at p3
            split at p3
            · rename_i us hl2
              split at p3
              · rename_i hf
                have hn2 := pre_get st2.pre hn
                obtain ⟨ts, hH2, hv2⟩ := rp2.obj n b _ hn2 hl2
                obtain ⟨rp3, st3⟩ := rp2.write hn2 hl2 hH2 (hv2.append (.cons h .nil))
                refine ⟨b, ts, z, rfl, rfl, hH2, by rw [← hv2.length, sizeLine_eq]; exact hf, ?_⟩
                exact p3 ⟨s2.r, s2.h.set n (.lst (us ++ [v])), upd s2.H b (.lst (ts ++ [z]))⟩ .non rfl rp3 st3 (.d .non)
              · exact p3.elim
            · exact p3.elim
    · exact p1.elim
  · exact p1.elim
end
end Ip

set_option linter.all false
set_option Elab.async false
set_option autoImplicit false
/-! Targets, what is walked, comprehensions. -/
namespace Ip
open PySem L2

section
variable {X : Cx} {G : Gb} {E : XK} {W : WX} {pos : Pos}

/-! ### slots -/
theorem SR.set {Av : Addr → Prop} {s : S3} {σ : Sg} {τ : L2.St} (h : SR G Av s σ τ) {v : Val} {x : V} (q : VR G Av s v x) (i : Nat) : SR G Av s (σ.set i (some v)) (τ.set i (some x)) := by
  refine ⟨by rw [List.length_set, List.length_set]; exact h.len, fun j w e => ?_⟩
  by_cases hij : i = j
  · subst hij
    by_cases hi : i < σ.length
    · rw [List.getElem?_set_self hi] at e
      have e : some v = some w := Option.some.inj e
      cases e
      exact ⟨x, by rw [List.getElem?_set_self (by rw [← h.len]; exact hi)], q⟩
    · rw [List.getElem?_eq_none (by rw [List.length_set]; exact Nat.not_lt.mp hi)] at e; cases e
  · rw [List.getElem?_set_ne hij] at e
    obtain ⟨y, e2, q2⟩ := h.at_ j w e
    exact ⟨y, by rw [List.getElem?_set_ne hij]; exact e2, q2⟩
theorem SR.unset {Av : Addr → Prop} {s : S3} {σ : Sg} {τ : L2.St} (h : SR G Av s σ τ) (i : Nat) : SR G Av s (σ.set i none) (τ.set i none) := by
  refine ⟨by rw [List.length_set, List.length_set]; exact h.len, fun j w e => ?_⟩
  by_cases hij : i = j
  · subst hij
    by_cases hi : i < σ.length
    · rw [List.getElem?_set_self hi] at e; cases e
    · rw [List.getElem?_eq_none (by rw [List.length_set]; exact Nat.not_lt.mp hi)] at e; cases e
  · rw [List.getElem?_set_ne hij] at e
    obtain ⟨y, e2, q2⟩ := h.at_ j w e
    exact ⟨y, by rw [List.getElem?_set_ne hij]; exact e2, q2⟩
theorem SR.wipe {Av : Addr → Prop} {s : S3} {σ : Sg} {τ : L2.St} (h : SR G Av s σ τ) : ∀ is : List Nat, SR G Av s (Ip.wipe σ is) (L2.wipe τ is)
  | [] => h
  | i :: is => (SR.wipe h is).unset i
theorem wipe_set (τ : L2.St) (o : Option V) : ∀ (is : List Nat) (i : Nat), i ∈ is → L2.wipe (τ.set i o) is = L2.wipe τ is
  | [], _, h => by cases h
  | j :: js, i, h => by
    unfold L2.wipe
    by_cases hm : i ∈ js
    · rw [wipe_set τ o js i hm]
    · have : i = j := by
        rcases List.mem_cons.mp h with h | h
        · exact h
        · exact absurd h hm
      subst this
      have aux : ∀ (ks : List Nat), i ∉ ks → L2.wipe (τ.set i o) ks = (L2.wipe τ ks).set i o := by
        intro ks
        induction ks with
        | nil => intro _; rfl
        | cons k ks ih =>
          intro hk
          unfold L2.wipe
          rw [ih (fun z => hk (List.mem_cons_of_mem _ z))]
          have : i ≠ k := fun z => hk (by rw [z]; exact List.mem_cons_self)
          rw [List.set_comm _ _ this]
      rw [aux js hm, List.set_set]
theorem wipe_wipe (τ : L2.St) (is : List Nat) : L2.wipe (L2.wipe τ is) is = L2.wipe τ is := by
  have aux : ∀ (ks : List Nat), (∀ k ∈ ks, k ∈ is) → L2.wipe (L2.wipe τ ks) is = L2.wipe τ is := by
    intro ks
    induction ks with
    | nil => intro _; rfl
    | cons k ks ih =>
      intro h
      show L2.wipe ((L2.wipe τ ks).set k none) is = _
      rw [wipe_set _ _ is k (h k List.mem_cons_self)]
      exact ih fun j hj => h j (List.mem_cons_of_mem _ hj)
  exact aux is fun _ h => h

/-! ### targets -/
/-- the slots of a target -/
def tgs : Tgt → List Nat
  | .nm i => [i]
  | .tp is => is
/-- what a target takes -/
def tG (G : Gb) (t : Tgt) : TG := fun x τ H Q => ∃ (Av : Addr → Prop) (s : S3) (σ σ' : Sg) (v : Val), s.H = H ∧ RepH G Av s ∧ SR G Av s σ τ ∧ VR G Av s v x ∧ bindT s.h t v σ = some σ' ∧
  ∀ τ', SR G Av s σ' τ' → (∀ is : List Nat, (∀ i ∈ tgs t, i ∈ is) → L2.wipe τ' is = L2.wipe τ is) → Q τ' H
theorem _root_.L2.PG.imp {tg : Expr} {g g' : TG} (h : PG X tg g) (q : ∀ v τ H Q, g' v τ H Q → g v τ H Q) : PG X tg g' := ⟨fun pins s σ H v u Q I r w => h.run pins s σ H v u Q I r (q _ _ _ _ w)⟩
theorem _root_.L2.PG.or {tg : Expr} {g g' : TG} (h : PG X tg g) (h' : PG X tg g') : PG X tg (fun v τ H Q => g v τ H Q ∨ g' v τ H Q) :=
  ⟨fun pins s σ H v u Q I r w => w.elim (fun w => h.run pins s σ H v u Q I r w) fun w => h'.run pins s σ H v u Q I r w⟩
theorem ig_nm {tg : Expr} {i : Nat} (h : PG X tg (gName i)) : PG X tg (tG G (.nm i)) := by
  refine h.imp fun x τ H Q ⟨Av, s, σ, σ', v, hH, rp, sr, q, e, w⟩ => ?_
  cases e
  exact w _ (sr.set q i) fun is hi => wipe_set τ _ is i (hi i List.mem_cons_self)
/-- the slots one after another -/
def gNames : List Nat → TGs
  | [] => gNil
  | i :: is => gCons (gName i) (gNames is)
theorem gNames_ok {Av : Addr → Prop} {s : S3} : ∀ (is : List Nat) {vs : List Val} {xs : List V} {σ : Sg} {τ : L2.St} {Q : L2.St → Hp → Prop}, SR G Av s σ τ → VRs G Av s vs xs → vs.length = is.length →
    (∀ τ', SR G Av s ((is.zip vs).foldl (fun s p => s.set p.1 (some p.2)) σ) τ' → (∀ js : List Nat, (∀ i ∈ is, i ∈ js) → L2.wipe τ' js = L2.wipe τ js) → Q τ' s.H) → gNames is xs τ s.H Q
  | [], _, _, σ, τ, Q, sr, .nil, _, w => ⟨rfl, w τ sr fun _ _ => rfl⟩
  | i :: is, _, _, σ, τ, Q, sr, .cons h t, e, w => by
    refine ⟨_, _, rfl, gNames_ok is (sr.set h i) t (Nat.succ.inj e) fun τ' s' wi => w τ' s' fun js hj => ?_⟩
    rw [wi js fun k hk => hj k (List.mem_cons_of_mem _ hk)]
    exact wipe_set τ _ js i (hj i List.mem_cons_self)
  | [], _, _, _, _, _, _, .cons _ _, e, _ => by cases e
  | _ :: _, _, _, _, _, _, _, .nil, e, _ => by cases e
theorem ig_tp {tg : Expr} {is : List Nat} (hK : G.K = X.K) (h : PG X tg (gTup X.K is.length (gNames is))) (h' : PG X tg (gUnl X.K is.length (gNames is))) : PG X tg (tG G (.tp is)) := by
  refine (h.or h').imp fun x τ H Q ⟨Av, s, σ, σ', v, hH, rp, sr, q, e, w⟩ => ?_
  subst hH
  simp only [bindT] at e
  split at e
  · rename_i vs e1
    split at e
    · rename_i hl
      cases e
      obtain ⟨a, xs, rfl, hq, hv⟩ := els_ok rp q e1
      rw [hK] at hq
      have hg := gNames_ok is (Q := Q) sr hv hl w
      rcases hq with hq | hq
      · exact .inr ⟨a, xs, rfl, hq, by rw [← hv.length]; exact hl, hg⟩
      · exact .inl ⟨a, xs, rfl, hq, by rw [← hv.length]; exact hl, hg⟩
    · cases e
  · cases e

/-! ### what is walked -/
/-- from s0 on, J gives the items vs one after another -/
def Src (G : Gb) (Av : Addr → Prop) (J : It) (vs : List Val) (s0 : S3) : Prop :=
  ∀ (Av' : Addr → Prop) (s : S3), RepH G Av' s → Stp s0 s → (∀ a, s0.H a ≠ none → Av' a → Av a) → ∀ i,
    (∀ v, vs[i]? = some v → J.go i s.H ∧ ∀ x H', J.yld i s.H x H' → ∃ s', s'.H = H' ∧ s'.h = s.h ∧ RepH G Av' s' ∧ Stp s s' ∧ VR G Av' s' v x) ∧ (vs[i]? = none → J.stop i s.H)
/-- what is walked, as the evaluator has it -/
def SvR (G : Gb) (Av : Addr → Prop) : Sv → It → S3 → Prop
  | .data vs, J, s => Src G Av J vs s
  | .obj n, J, s => ∃ a, s.r[n]? = some a ∧ J = Itl G.K a
def tI (G : Gb) (W : WX) (m : Sg → Hq → R Sv) : TI := fun τ H R => ∃ (Av : Addr → Prop) (s : S3) (σ : Sg), s.H = H ∧ RepH G Av s ∧ SR G Av s σ τ ∧ Post G (We W τ) Av s (SvR G Av) (m σ s.h) R
theorem _root_.L2.PI.imp {tg e : Expr} {t t' : TI} (h : PI X tg e t) (q : ∀ τ H Q, t' τ H Q → t τ H Q) : PI X tg e t' := ⟨fun pins s σ H Q I w => h.run pins s σ H Q I (q _ _ _ w)⟩
theorem Stp.bad' {Av Av' : Addr → Prop} {s s' : S3} (t : Stp s s') (nd : s'.r.Nodup) (hA : ∀ a, s.H a ≠ none → Av' a → Av a) : ∀ a, s.H a ≠ none → ¬ Bad Av s a → ¬ Bad Av' s' a := fun a ha hb hb' => by
  rcases hb' with h | h
  · exact hb (.inl (hA a ha h))
  · exact t.bad nd a ha hb (.inr h)
theorem Stp.dr' {Av Av' : Addr → Prop} {s s' : S3} (t : Stp s s') (nd : s'.r.Nodup) (hA : ∀ a, s.H a ≠ none → Av' a → Av a) {v : V} {d : D} (h : DR G.K s.H (Bad Av s) v d) : DR G.K s'.H (Bad Av' s') v d :=
  DR.mono t.fr (fun a z => .inr z) (t.bad' nd hA) h
theorem Stp.drs' {Av Av' : Addr → Prop} {s s' : S3} (t : Stp s s') (nd : s'.r.Nodup) (hA : ∀ a, s.H a ≠ none → Av' a → Av a) {v : List V} {d : List D} (h : DRs G.K s.H (Bad Av s) v d) : DRs G.K s'.H (Bad Av' s') v d :=
  DRs.mono t.fr (fun a z => .inr z) (t.bad' nd hA) h
theorem Stp.vr' {Av Av' : Addr → Prop} {s s' : S3} (t : Stp s s') (nd : s'.r.Nodup) (hA : ∀ a, s.H a ≠ none → Av' a → Av a) {v : Val} {x : V} (h : VR G Av s v x) : VR G Av' s' v x := by
  cases h with
  | d q => exact .d (t.dr' nd hA q)
  | ref q => exact .ref (pre_get t.pre q)
  | fn q => exact .fn q
theorem Stp.vrs' {Av Av' : Addr → Prop} {s s' : S3} (t : Stp s s') (nd : s'.r.Nodup) (hA : ∀ a, s.H a ≠ none → Av' a → Av a) : ∀ {vs : List Val} {xs : List V}, VRs G Av s vs xs → VRs G Av' s' vs xs
  | _, _, .nil => .nil
  | _, _, .cons h q => .cons (t.vr' nd hA h) (t.vrs' nd hA q)
theorem DRs.get {K : PySem.W.Frag} {H : Hp} {B : Addr → Prop} : ∀ {xs : List V} {ds : List D} {i : Nat} {d : D}, DRs K H B xs ds → ds[i]? = some d → ∃ x, xs[i]? = some x ∧ DR K H B x d
  | _, _, _, _, .nil, e => by simp at e
  | _, _, 0, v, .cons h _, e => by
    have e : some _ = some v := e
    cases e
    exact ⟨_, rfl, h⟩
  | _, _, i + 1, v, .cons _ t, e => DRs.get (i := i) t e
/-- a list of data that stands -/
theorem src_list {Av : Addr → Prop} {s0 : S3} {a : Addr} {xs : List V} {ds : List D} (h : (Rd s0.H a (.lst xs) ∧ ¬ Bad Av s0 a) ∨ WrL G.K a xs) (t : DRs G.K s0.H (Bad Av s0) xs ds) : Src G Av (Itl G.K a) (ds.map .d) s0 := by
  intro Av' s rp st hA i
  have hq : SqL G.K s.H a xs := by
    rcases h with h | h
    · exact .inl (st.fr.rd h.1 (fun z => h.2 (.inr z)) (fun ps z => by cases z))
    · exact h.any _
  have hd := st.drs' rp.nd hA t
  constructor
  · intro v e
    rw [List.getElem?_map] at e
    cases e2 : ds[i]? with
    | none => rw [e2] at e; cases e
    | some d =>
      rw [e2] at e
      cases e
      obtain ⟨x, ex, dx⟩ := hd.get e2
      refine ⟨⟨xs, x, hq, ex⟩, fun y H' yl => ?_⟩
      obtain ⟨rfl, hy⟩ := yl
      have := hy xs hq
      rw [ex] at this
      cases this
      exact ⟨s, rfl, rfl, rp, Stp.refl _, .d dx⟩
  · intro e
    refine ⟨xs, hq, ?_⟩
    rw [t.length]
    rw [List.getElem?_map] at e
    cases e2 : ds[i]? with
    | none => exact List.getElem?_eq_none_iff.mp e2
    | some d => rw [e2] at e; cases e
theorem src_tup {Av : Addr → Prop} {s0 : S3} {a : Addr} {xs : List V} {ds : List D} (h : SqT G.K s0.H a xs) (t : DRs G.K s0.H (Bad Av s0) xs ds) : Src G Av (Itt G.K a) (ds.map .d) s0 := by
  intro Av' s rp st hA i
  have hq : SqT G.K s.H a xs := st.fr.sqt h
  have hd := st.drs' rp.nd hA t
  constructor
  · intro v e
    rw [List.getElem?_map] at e
    cases e2 : ds[i]? with
    | none => rw [e2] at e; cases e
    | some d =>
      rw [e2] at e
      cases e
      obtain ⟨x, ex, dx⟩ := hd.get e2
      refine ⟨⟨xs, x, hq, ex⟩, fun y H' yl => ?_⟩
      obtain ⟨rfl, hy⟩ := yl
      have := hy xs hq
      rw [ex] at this
      cases this
      exact ⟨s, rfl, rfl, rp, Stp.refl _, .d dx⟩
  · intro e
    refine ⟨xs, hq, ?_⟩
    rw [t.length]
    rw [List.getElem?_map] at e
    cases e2 : ds[i]? with
    | none => exact List.getElem?_eq_none_iff.mp e2
    | some d => rw [e2] at e; cases e
theorem rangeL_get : ∀ (n : Nat) (lo : Int) (i : Nat), (rangeL lo n)[i]? = if i < n then some (Val.d (.int (lo + i))) else none
  | 0, lo, i => by simp [rangeL]
  | n + 1, lo, 0 => by simp [rangeL]
  | n + 1, lo, i + 1 => by
    show (rangeL (lo + 1) n)[i]? = _
    rw [rangeL_get n (lo + 1) i]
    by_cases h : i < n
    · rw [if_pos h, if_pos (Nat.succ_lt_succ h)]
      congr 3
      omega
    · rw [if_neg h, if_neg (fun z => h (Nat.lt_of_succ_lt_succ z))]
theorem src_rng {Av : Addr → Prop} {s0 : S3} {lo : Int} {n : Nat} : Src G Av (Itr lo n) (rangeL lo n) s0 := by
  intro Av' s rp st hA i
  rw [rangeL_get]
  constructor
  · intro v e
    split at e
    · rename_i h
      cases e
      refine ⟨h, fun y H' yl => ?_⟩
      obtain ⟨rfl, rfl⟩ := yl
      exact ⟨s, rfl, rfl, rp, Stp.refl _, .d (.int _)⟩
    · cases e
  · intro e
    split at e
    · cases e
    · rename_i h; exact Nat.not_lt.mp h

/-- a list or a tuple, walked -/
def iSeq (K : PySem.W.Frag) (tl : TE) : TI := fun σ H R => tl σ H fun x H1 => ∃ a, x = .ref a ∧ (((∃ xs, SqL K H1 a xs) ∧ R (Itl K a) H1) ∨ ((∃ xs, SqT K H1 a xs) ∧ R (Itt K a) H1))
theorem pi_seq {tg l : Expr} {tl : TE} (hl : PE X l tl) : PI X tg l (iSeq X.K tl) := by
  refine ⟨fun pins s σ H R I h => ?_⟩
  refine thn (hl.run pins s σ H _ I h) fun v s1 ⟨x, H1, I1, r1, q1⟩ => ?_
  obtain ⟨a, e, q1⟩ := q1
  subst e
  cases r1
  rcases q1 with ⟨⟨xs, hq⟩, q⟩ | ⟨⟨xs, hq⟩, q⟩
  · obtain ⟨its, rv, p, hz⟩ := I1.list hq
    refine PySem.wpAny_pyIter_list p.isList ?_
    refine ⟨s1.heap.objs.size, [s1.heap.objs.size], _, _, H1, rfl, I1.kept (t' := s1.toks) fun b o e => Heap.get?_push_of_some _ e, turn_list a _, ⟨_, Heap.get?_push_size _ rfl, rfl, rfl⟩, fun b hb => ?_, q⟩
    have e : b = s1.heap.objs.size := by simpa using hb
    subst e
    exact I1.fpOk (Nat.le_refl _) (I1.hok.fresh (Nat.le_refl _))
  · obtain ⟨its, rv, p, hz⟩ := I1.tuple hq
    refine PySem.wpAny_pyIter_tuple (show s1.heap.IsTuple a its.toArray from p) ?_
    refine ⟨s1.heap.objs.size, [s1.heap.objs.size], _, _, H1, rfl, I1.kept (t' := s1.toks) fun b o e => Heap.get?_push_of_some _ e, turn_tuple a _, ⟨_, Heap.get?_push_size _ rfl, rfl, rfl⟩, fun b hb => ?_, q⟩
    have e : b = s1.heap.objs.size := by simpa using hb
    subst e
    exact I1.fpOk (Nat.le_refl _) (I1.hok.fresh (Nat.le_refl _))
theorem ii_val {tg l : Expr} {ma : Sg → Hq → R Val} (hK : G.K = X.K) (ha : PE X l (tE G W ma)) : PI X tg l (tI G W fun σ h => (ma σ h).bind fun x h1 => srcV x h1) := by
  refine (pi_seq ha).imp fun τ H Q ⟨Av, s, σ, hH, rp, sr, p⟩ => ?_
  subst hH
  refine tE_bind rp sr p fun v y s1 rp1 st1 sr1 q1 p1 => ?_
  cases q1 with
  | fn _ => exact p1.elim
  | d q =>
    cases q with
    | non => exact p1.elim
    | bl b => exact p1.elim
    | int i => exact p1.elim
    | str z => exact p1.elim
    | lst h t => exact ⟨_, rfl, .inl ⟨⟨_, hK ▸ sql_of h⟩, hK ▸ p1.fin rp1 (src_list h t)⟩⟩
    | tup h t => exact ⟨_, rfl, .inr ⟨⟨_, hK ▸ h⟩, hK ▸ p1.fin rp1 (src_tup h t)⟩⟩
  | ref hn =>
    unfold srcV at p1
    simp only at p1
    split at p1
    · rename_i n b ws hl
      obtain ⟨xs, hx, hv⟩ := rp1.obj _ _ _ hn hl
      exact ⟨_, rfl, .inl ⟨⟨xs, .inl (.inl hx)⟩, hK ▸ p1.fin rp1 ⟨_, hn, rfl⟩⟩⟩
    · rename_i n b ws hl
      have q := rp1.obj _ _ _ hn hl
      cases q with
      | lst h t => exact ⟨_, rfl, .inl ⟨⟨_, hK ▸ sql_of h⟩, hK ▸ p1.fin rp1 (src_list h t)⟩⟩
    · exact p1.elim
end
end Ip

set_option linter.all false
set_option Elab.async false
set_option autoImplicit false
/-! Ranges, zip, comprehensions. -/
namespace Ip
open PySem L2

section
variable {X : Cx} {G : Gb} {E : XK} {W : WX} {pos : Pos}

theorem okRng_c {i : Int} (h : okRng i = true) : -(2 ^ 62) ≤ i ∧ i < 2 ^ 62 := by
  have h := lt_of_log2 (of_decide_eq_true h)
  omega
theorem intV_ok {Av : Addr → Prop} {s : S3} {v : Val} {y : V} {i : Int} (q : VR G Av s v y) (e : intV v = some i) : y = .int i := by
  cases q with
  | d q =>
    cases q with
    | int j => cases e; rfl
    | non => cases e
    | bl b => cases e
    | str z => cases e
    | lst h t => cases e
    | tup h t => cases e
  | ref _ => cases e
  | fn _ => cases e
theorem ii_rng {tg a : Expr} {p : Pos} {ma : Sg → Hq → R Val} (hg : Gl X "range") (hm : X.mg "range" = none) (ha : PE X a (tE G W ma)) (hs : starEach [a] X.env = [(false, eval a X.env)]) :
    PI X tg (.Call (.Name "range" p) [a] [] pos) (tI G W fun σ h => (ma σ h).bind fun x h1 => match intV x with | some i => if okRng i then .ok (.data (rangeL 0 i.toNat)) h1 else .no | none => .no) := by
  have hst' : starEach [a] X.env = (false, eval a X.env) :: starEach [] X.env := by rw [hs]; rfl
  refine (pi_range1 hg hm (pa_cons ha pa_nil hst') hs).imp fun τ H Q ⟨Av, s, σ, hH, rp, sr, p⟩ => ?_
  subst hH
  refine tE_bind rp sr p fun v y s1 rp1 st1 sr1 q1 p1 => ?_
  split at p1
  · rename_i i e
    cases intV_ok q1 e
    split at p1
    · rename_i hf
      obtain ⟨h1, h2⟩ := okRng_c hf
      exact ⟨i, rfl, h1, h2, p1.fin rp1 src_rng⟩
    · exact p1.elim
  · exact p1.elim
theorem ii_rng2 {tg a b : Expr} {p : Pos} {ma mb : Sg → Hq → R Val} (hg : Gl X "range") (hm : X.mg "range" = none) (ha : PE X a (tE G W ma)) (hb : PE X b (tE G W mb)) (hs : starEach [a, b] X.env = [(false, eval a X.env), (false, eval b X.env)]) (hs2 : starEach [b] X.env = [(false, eval b X.env)]) :
    PI X tg (.Call (.Name "range" p) [a, b] [] pos) (tI G W fun σ h => (ma σ h).bind fun x h1 => (mb σ h1).bind fun y h2 => match intV x, intV y with | some i, some j => if okRng i && okRng j then .ok (.data (rangeL i (j - i).toNat)) h2 else .no | _, _ => .no) := by
  have hst' : starEach [a, b] X.env = (false, eval a X.env) :: starEach [b] X.env := by rw [hs, hs2]
  have hst2 : starEach [b] X.env = (false, eval b X.env) :: starEach [] X.env := by rw [hs2]; rfl
  refine (pi_range2 hg hm (pa_cons ha (pa_cons hb pa_nil hst2) hst') hs hs2).imp fun τ H Q ⟨Av, s, σ, hH, rp, sr, p⟩ => ?_
  subst hH
  refine tE_bind rp sr p fun v y s1 rp1 st1 sr1 q1 p1 => ?_
  refine tE_bind rp1 sr1 p1 fun w z s2 rp2 st2 sr2 q2 p2 => ?_
  split at p2
  · rename_i i j e e2
    cases intV_ok q1 e
    cases intV_ok q2 e2
    split at p2
    · rename_i hf
      rw [Bool.and_eq_true] at hf
      obtain ⟨h1, h2⟩ := okRng_c hf.1
      obtain ⟨h3, h4⟩ := okRng_c hf.2
      exact ⟨i, j, rfl, ⟨h1, h2, h3, h4⟩, p2.fin rp2 src_rng⟩
    · exact p2.elim
  · exact p2.elim
theorem src_zip {Av : Addr → Prop} {s0 : S3} {a b : Addr} {xs ys : List V} {ds es : List D} (h : (Rd s0.H a (.lst xs) ∧ ¬ Bad Av s0 a) ∨ WrL G.K a xs) (t : DRs G.K s0.H (Bad Av s0) xs ds) (h' : (Rd s0.H b (.lst ys) ∧ ¬ Bad Av s0 b) ∨ WrL G.K b ys) (t' : DRs G.K s0.H (Bad Av s0) ys es) :
    Src G Av (Itz G.K a b) ((ds.zip es).map fun p => .d (.tuple [p.1, p.2])) s0 := by
  intro Av' s rp st hA i
  have sq : ∀ {a : Addr} {xs : List V}, (Rd s0.H a (.lst xs) ∧ ¬ Bad Av s0 a) ∨ WrL G.K a xs → SqL G.K s.H a xs := fun h => by
    rcases h with h | h
    · exact .inl (st.fr.rd h.1 (fun z => h.2 (.inr z)) (fun ps z => by cases z))
    · exact h.any _
  have hq := sq h
  have hq' := sq h'
  have hd := st.drs' rp.nd hA t
  have hd' := st.drs' rp.nd hA t'
  constructor
  · intro v e
    rw [List.getElem?_map] at e
    cases e2 : (ds.zip es)[i]? with
    | none => rw [e2] at e; cases e
    | some d =>
      rw [e2] at e
      cases e
      obtain ⟨e3, e4⟩ := List.getElem?_zip_eq_some.mp e2
      obtain ⟨x, ex, dx⟩ := hd.get e3
      obtain ⟨y, ey, dy⟩ := hd'.get e4
      refine ⟨⟨xs, ys, x, y, hq, hq', ex, ey⟩, fun z H' yl => ?_⟩
      obtain ⟨T, x1, x2, rfl, hT, rfl, f1, f2⟩ := yl
      have g1 := f1 xs hq
      have g2 := f2 ys hq'
      rw [ex] at g1
      rw [ey] at g2
      cases g1; cases g2
      obtain ⟨rp3, st3⟩ := rp.upd_new (o := .tup [x, y]) hT
      exact ⟨⟨s.r, s.h, upd s.H T (.tup [x, y])⟩, rfl, rfl, rp3, st3, .d (.tup (.inl (.inl upd_same)) (.cons (st3.dr rp3.nd dx) (.cons (st3.dr rp3.nd dy) .nil)))⟩
  · intro e
    rw [List.getElem?_map] at e
    have e2 : (ds.zip es)[i]? = none := by
      cases e2 : (ds.zip es)[i]? with
      | none => rfl
      | some d => rw [e2] at e; cases e
    have e3 := List.getElem?_eq_none_iff.mp e2
    rw [List.length_zip] at e3
    refine ⟨xs, ys, hq, hq', ?_⟩
    rw [t.length, t'.length]
    omega
theorem ii_zip {a b : Expr} {elts : List Expr} {kk : Nat} {p tpos : Pos} {ma mb : Sg → Hq → R Val} (hK : G.K = X.K) (hg : Gl X "zip") (hm : X.mg "zip" = none) (ha : PE X a (tE G W ma)) (hb : PE X b (tE G W mb)) (hs : starEach [a, b] X.env = [(false, eval a X.env), (false, eval b X.env)]) (hs2 : starEach [b] X.env = [(false, eval b X.env)]) :
    PI X (.Tuple elts kk tpos) (.Call (.Name "zip" p) [a, b] [] pos) (tI G W fun σ h => (ma σ h).bind fun x h1 => (mb σ h1).bind fun y h2 => match x, y with
    | .d (.list xs), .d (.list ys) => .ok (.data ((xs.zip ys).map fun p => .d (.tuple [p.1, p.2]))) h2
    | _, _ => .no) := by
  have hst' : starEach [a, b] X.env = (false, eval a X.env) :: starEach [b] X.env := by rw [hs, hs2]
  have hst2 : starEach [b] X.env = (false, eval b X.env) :: starEach [] X.env := by rw [hs2]; rfl
  refine (pi_zip hg hm (pa_cons ha (pa_cons hb pa_nil hst2) hst') hst' (by rw [hs2]; rfl)).imp fun τ H Q ⟨Av, s, σ, hH, rp, sr, p⟩ => ?_
  subst hH
  refine tE_bind rp sr p fun v y s1 rp1 st1 sr1 q1 p1 => ?_
  refine tE_bind rp1 sr1 p1 fun w z s2 rp2 st2 sr2 q2 p2 => ?_
  have q1 := st2.vr rp2.nd q1
  split at p2
  · cases q1 with
    | d q1 =>
      cases q1 with
      | lst h t =>
        cases q2 with
        | d q2 =>
          cases q2 with
          | lst h' t' => exact ⟨_, _, _, _, rfl, hK ▸ sql_of h, hK ▸ sql_of h', hK ▸ p2.fin rp2 (src_zip h t h' t')⟩
  · exact p2.elim

/-! ### a comprehension -/
/-- an object that may be written here alone -/
theorem RepH.own {Av : Addr → Prop} {s : S3} {p : Addr} {zs xs : List V} (rp : RepH G (also Av p) s) (hp : s.H p = some (.lst zs)) :
    RepH G (also Av p) ⟨s.r, s.h, upd s.H p (.lst xs)⟩ ∧ ∀ {v : Val} {x : V}, VR G (also Av p) s v x → VR G (also Av p) ⟨s.r, s.h, upd s.H p (.lst xs)⟩ v x := by
  have f : Fr (fun a => a = p) s.H (upd s.H p (.lst xs)) := fr_upd_live hp rfl
  have cv : ∀ {v : V} {d : D}, DR G.K s.H (Bad (also Av p) s) v d → DR G.K (upd s.H p (.lst xs)) (Bad (also Av p) ⟨s.r, s.h, upd s.H p (.lst xs)⟩) v d := fun q =>
    DR.mono f (fun a z => .inl (.inr z)) (fun a _ h z => h z) q
  have cw : ∀ {v : Val} {x : V}, VR G (also Av p) s v x → VR G (also Av p) ⟨s.r, s.h, upd s.H p (.lst xs)⟩ v x := fun {v x} q => by
    cases q with
    | d q => exact .d (cv q)
    | ref q => exact .ref q
    | fn q => exact .fn q
  refine ⟨⟨rp.len, rp.nd, fun n a o e1 e2 => ?_, fun a z => f.there a (rp.av a z), rp.dis, fun a z => f.there a (rp.trk a z)⟩, cw⟩
  have q := rp.obj n a o e1 e2
  cases o with
  | lst vs =>
    obtain ⟨ys, h1, h2⟩ := q
    have : a ≠ p := fun z => by subst z; exact rp.dis a (.inr rfl) (List.mem_of_getElem? e1)
    refine ⟨ys, (upd_ne this).trans h1, ?_⟩
    clear h1 e2
    induction h2 with
    | nil => exact .nil
    | cons h _ ih => exact .cons (cw h) ih
  | dead x => exact cv q
theorem Stp.own {s0 s : S3} {p : Addr} {o : HO} {zs : List V} (st : Stp s0 s) (h0 : s0.H p = none) (hp : s.H p = some (.lst zs)) : Stp s0 ⟨s.r, s.h, upd s.H p o⟩ := by
  refine ⟨st.pre, st.liv, ⟨fun a u h n nt => ?_, fun a h => ?_, fun a xs h => ?_⟩, st.new⟩
  · have : a ≠ p := ne_of_none h h0
    exact (upd_ne this).trans (st.fr.keep a u h n nt)
  · show upd s.H p o a ≠ none
    by_cases e : a = p
    · subst e; rw [upd_same]; exact fun z => by cases z
    · rw [upd_ne e]; exact st.fr.there a h
  · have : a ≠ p := fun z => by subst z; exact rd_some h h0
    rcases st.fr.tup a xs h with q | ⟨o', q⟩
    · exact .inl ((upd_ne this).trans q)
    · exact .inr ⟨o', (upd_ne this).trans q⟩
abbrev E0 : XK := fun _ _ _ => False
abbrev W0 : WX := fun _ _ _ _ => False
theorem Post.quiet {Av : Addr → Prop} {s : S3} {α β : Type} {Rl : α → β → S3 → Prop} {r : R α} {Q : β → Hp → Prop} (p : Post G E Av s Rl r.quiet Q) : Post G Ip.E0 Av s Rl r Q := by
  cases r with
  | ok a h => exact p
  | er e h => exact p.elim
  | no => exact p
theorem bindT_h {h h' : Hq} (t : Tgt) (v : Val) (σ : Sg) (e : h = h') : bindT h t v σ = bindT h' t v σ := by subst e; rfl

/-- one turn's yield -/
def turnC (t : Tgt) (own : List Nat) (σ : Sg) (mI : Sg → Hq → R Bool) (me : Sg → Hq → R Val) : Val → Hq → R (List Val) := fun v h =>
  match bindT h t v (Ip.wipe σ own) with
  | none => .no
  | some σ' => ((mI σ' h).bind fun k h2 => if k then (me σ' h2).bind fun x h3 => .ok [x] h3 else .ok [] h2).quiet
/-- a comprehension's items -/
def cmpM (t : Tgt) (own : List Nat) (mS : Sg → Hq → R Sv) (mI : Sg → Hq → R Bool) (me : Sg → Hq → R Val) : Sg → Hq → R (List Val) := fun σ h => (mS σ h).bind fun sv h1 => match sv with
  | .data vs => if fits vs.length then cmpL (turnC t own σ mI me) vs h1 else .no
  | .obj _ => .no
theorem cmp_imp {own : List (Str × Nat)} {t : Tgt} {mS : Sg → Hq → R Sv} {mI : Sg → Hq → R Bool} {me : Sg → Hq → R Val} (ht : ∀ i ∈ tgs t, i ∈ own.map (·.2)) :
    ∀ τ H Q, tL G W (cmpM t (own.map (·.2)) mS mI me) τ H Q → tLc (tI G W mS) (tG G t) (tT G Ip.W0 mI) (tE G Ip.W0 me) (own.map (·.2)) τ H Q := by
  intro τ H Q ⟨Av, s, σ, hH, rp, sr, p⟩
  subst hH
  show tI G W mS τ s.H _
  refine ⟨Av, s, σ, rfl, rp, sr, ?_⟩
  revert p
  show Post G _ Av s (LR G Av s) ((mS σ s.h).bind _) Q → _
  cases mS σ s.h with
  | er x h => exact fun p => p
  | no => exact fun p => p
  | ok sv h1 =>
  intro p s1 J e1 rp1 st1 sv1
  subst e1
  cases sv with
  | obj n => exact p.elim
  | data vs =>
  have p : Post G _ Av s (LR G Av s) (if fits vs.length then cmpL (turnC t (own.map (·.2)) σ mI me) vs s1.h else .no) Q := p
  split at p
  case isFalse => exact p.elim
  rename_i hf
  intro D0 hD
  have h0D : s.H D0 = none := by
    cases e : s.H D0 with
    | none => rfl
    | some o => exact absurd hD (st1.fr.there D0 (by rw [e]; exact fun z => by cases z))
  obtain ⟨rpA, conv⟩ := rp1.more hD (o := .lst [])
  obtain ⟨_, stA⟩ := rp1.upd_new (o := .lst []) hD
  have sr1 := st1.sr rp1.nd sr
  have p0 : Post G (We W τ) Av s (LR G Av s) ((cmpL (turnC t (own.map (·.2)) σ mI me) (vs.drop 0) s1.h).bind fun us h2 => .ok ([] ++ us) h2) Q := by
    have e : ((cmpL (turnC t (own.map (·.2)) σ mI me) (vs.drop 0) s1.h).bind fun us h2 => R.ok ([] ++ us) h2) = cmpL (turnC t (own.map (·.2)) σ mI me) vs s1.h := by
      rw [List.drop_zero]; exact R.bind_id _
    rw [e]; exact p
  refine ⟨fun i m H' => m = vs.length - i ∧ i ≤ vs.length ∧ ∃ (s2 : S3) (ws : List Val) (acc : List V), s2.H = H' ∧ RepH G (also Av D0) s2 ∧ Stp s1 s2 ∧ Stp s s2 ∧ s2.H D0 = some (.lst acc) ∧ VRs G (also Av D0) s2 ws acc ∧ acc.length ≤ i ∧
    Post G (We W τ) Av s (LR G Av s) ((cmpL (turnC t (own.map (·.2)) σ mI me) (vs.drop i) s2.h).bind fun us h2 => .ok (ws ++ us) h2) Q, ⟨vs.length, by simp, Nat.zero_le _, ⟨s1.r, s1.h, upd s1.H D0 (.lst [])⟩, [], [], rfl, rpA, stA, st1.trans stA rp1.nd rp1.len, upd_same, .nil, Nat.le_refl _, p0⟩, ?_⟩
  rintro i m H' ⟨rfl, hi2, s2, ws, acc, rfl, rp2, st2, st02, hD2, hv2, hl2, p2⟩
  have srcAt := sv1 (also Av D0) s2 rp2 st2 (fun a ha z => z.elim id fun z => by subst z; exact absurd hD ha) i
  cases hvi : vs[i]? with
  | none =>
    have hlen : vs.length ≤ i := List.getElem?_eq_none_iff.mp hvi
    refine .inl ⟨srcAt.2 hvi, ?_⟩
    rw [List.drop_eq_nil_of_le hlen] at p2
    have p2 : Post G _ Av s (LR G Av s) (.ok (ws ++ []) s2.h) Q := p2
    rw [List.append_nil] at p2
    exact p2 s2 (.ref D0) rfl (rp2.less fun a z => .inl z) st02 ⟨D0, acc, rfl, h0D, rp2, hD2, hv2⟩
  | some v =>
    have hlt : i < vs.length := lt_of_get hvi
    obtain ⟨hgo, hyl⟩ := srcAt.1 v hvi
    have hdrop : vs.drop i = v :: vs.drop (i + 1) := by
      rw [List.drop_eq_getElem_cons hlt]
      rw [List.getElem?_eq_getElem hlt] at hvi
      rw [Option.some.inj hvi]
    rw [hdrop] at p2
    have p2 : Post G _ Av s (LR G Av s) (((turnC t (own.map (·.2)) σ mI me v s2.h).bind fun ws1 h1 => (cmpL (turnC t (own.map (·.2)) σ mI me) (vs.drop (i + 1)) h1).bind fun us h2 => .ok (ws1 ++ us) h2).bind fun us h2 => .ok (ws ++ us) h2) Q := p2
    rw [R.bind_assoc] at p2
    cases hturn : turnC t (own.map (·.2)) σ mI me v s2.h with
    | er x h =>
      exfalso
      unfold turnC at hturn
      split at hturn
      · cases hturn
      · rename_i σ' _
        revert hturn
        generalize ((mI σ' s2.h).bind fun k h2 => if k then (me σ' h2).bind fun x h3 => R.ok [x] h3 else R.ok [] h2) = r
        intro hturn
        cases r <;> cases hturn
    | no => rw [hturn] at p2; exact p2.elim
    | ok ws1 h3 =>
      rw [hturn] at p2
      simp only [R.bind_ok, R.bind_assoc] at p2
      refine .inr ⟨hgo, fun H6 => ∃ (s6 : S3) (acc6 : List V), s6.H = H6 ∧ RepH G (also Av D0) s6 ∧ Stp s1 s6 ∧ Stp s s6 ∧ s6.H D0 = some (.lst acc6) ∧ VRs G (also Av D0) s6 (ws ++ ws1) acc6 ∧ acc6.length ≤ i + 1 ∧ s6.h = h3, ?_, ?_⟩
      · rintro H6 ⟨s6, acc6, rfl, rp6, st6, st06, hD6, hv6, hl6, e6⟩
        refine ⟨vs.length - (i + 1), by omega, rfl, hlt, s6, ws ++ ws1, acc6, rfl, rp6, st6, st06, hD6, hv6, hl6, ?_⟩
        rw [e6]
        simp only [List.append_assoc]
        exact p2
      · intro x H7 hy
        obtain ⟨s7, rfl, hh7, rp7, st7, q7⟩ := hyl x H7 hy
        unfold turnC at hturn
        split at hturn
        · cases hturn
        rename_i σ' hb
        have srw : SR G (also Av D0) s7 (Ip.wipe σ (own.map (·.2))) (L2.wipe τ (own.map (·.2))) := by
          have a1 : SR G (also Av D0) s2 σ τ := ⟨sr1.len, fun j w e => by
            obtain ⟨y, e2, q2⟩ := sr1.at_ j w e
            exact ⟨y, e2, st2.vr' rp2.nd (fun a ha z => z.elim id fun z => by subst z; exact absurd hD ha) q2⟩⟩
          exact (st7.sr rp7.nd a1).wipe _
        refine ⟨also Av D0, s7, _, σ', v, rfl, rp7, srw, q7, by rw [bindT_h t v _ hh7]; exact hb, fun τ' sr' wi => ⟨?_, ?_⟩⟩
        · rw [wi _ ht, wipe_wipe]
        -- tests and element
        have hr : ((mI σ' s7.h).bind fun k h2 => if k then (me σ' h2).bind fun x h3 => R.ok [x] h3 else R.ok [] h2) = .ok ws1 h3 := by
          rw [hh7]
          revert hturn
          generalize ((mI σ' s2.h).bind fun k h2 => if k then (me σ' h2).bind fun x h3 => R.ok [x] h3 else R.ok [] h2) = r
          intro hturn
          cases r with
          | ok a h => exact hturn
          | er a h => cases hturn
          | no => cases hturn
        have pin : Post G Ip.E0 (also Av D0) s7 (fun vs ys s' => VRs G (also Av D0) s' vs ys) ((mI σ' s7.h).bind fun k h2 => if k then (me σ' h2).bind fun x h3 => R.ok [x] h3 else R.ok [] h2)
            (fun (ys : List V) H8 => ∃ s8 : S3, s8.H = H8 ∧ s8.h = h3 ∧ RepH G (also Av D0) s8 ∧ Stp s7 s8 ∧ VRs G (also Av D0) s8 ws1 ys) := by
          rw [hr]
          exact fun s8 ys e rp8 st8 q8 => ⟨s8, rfl, e, rp8, st8, q8⟩
        have hD7 : s7.H D0 = some (.lst acc) := st7.fr.keep D0 _ hD2 (fun ⟨n, z, _⟩ => rp2.dis D0 (.inr rfl) (List.mem_of_getElem? z)) (fun ps z => by cases z)
        -- from the turn's last state
        have fin : ∀ {s8 : S3} {ys : List V}, RepH G (also Av D0) s8 → Stp s7 s8 → s8.H D0 = some (.lst acc) ∧ Stp s1 s8 ∧ Stp s s8 ∧ VRs G (also Av D0) s8 ws acc := fun {s8 ys} rp8 st8 => by
          have st28 := st7.trans st8 rp7.nd rp7.len
          exact ⟨st8.fr.keep D0 _ hD7 (fun ⟨n, z, _⟩ => rp7.dis D0 (.inr rfl) (List.mem_of_getElem? z)) (fun ps z => by cases z), st2.trans st28 rp2.nd rp2.len, st02.trans st28 rp2.nd rp2.len, st28.vrs rp8.nd hv2⟩
        refine tT_bind rp7 sr' pin fun b s8 rp8 st8 sr8 p8 => ?_
        cases b with
        | false =>
          have p8 : Post G Ip.E0 (also Av D0) s8 (fun vs ys s' => VRs G (also Av D0) s' vs ys) (.ok [] s8.h) _ := p8
          rw [if_neg Bool.false_ne_true]
          obtain ⟨s9, e9, eh9, rp9, st9, q9⟩ := p8.fin rp8 .nil
          obtain ⟨f1, f2, f3, f4⟩ := fin (ys := []) rp9 st9
          cases hws : ws1 with
          | cons a b => rw [hws] at q9; cases q9
          | nil =>
            rw [← e9]
            exact ⟨s9, acc, rfl, rp9, f2, f3, f1, by rw [List.append_nil]; exact f4, by omega, eh9⟩
        | true =>
          have p8 : Post G Ip.E0 (also Av D0) s8 (fun vs ys s' => VRs G (also Av D0) s' vs ys) ((me σ' s8.h).bind fun x h3 => R.ok [x] h3) _ := p8
          rw [if_pos rfl]
          refine tE_bind rp8 sr8 p8 fun xv y s9 rp9 st9 sr9 q9 p9 => ?_
          obtain ⟨s10, e10, eh10, rp10, st10, q10⟩ := p9.fin (y := [y]) rp9 (.cons q9 .nil)
          obtain ⟨f1, f2, f3, f4⟩ := fin (ys := [y]) rp10 st10
          rw [← e10]
          refine ⟨acc, f1, ?_, ?_⟩
          · have := fits_line hf
            omega
          · obtain ⟨rp11, cw⟩ := rp10.own (xs := acc ++ [y]) f1
            have cws : ∀ {v : List Val} {x : List V}, VRs G (also Av D0) s10 v x → VRs G (also Av D0) ⟨s10.r, s10.h, upd s10.H D0 (.lst (acc ++ [y]))⟩ v x := fun {v x} q => by
              induction q with
              | nil => exact .nil
              | cons h _ ih => exact .cons (cw h) ih
            exact ⟨⟨s10.r, s10.h, upd s10.H D0 (.lst (acc ++ [y]))⟩, acc ++ [y], rfl, rp11, f2.own hD f1, f3.own h0D f1, upd_same, cws (f4.append q10), by rw [List.length_append]; simp; omega, eh10⟩
theorem il_cmp {elt tg iter : Expr} {ifs : List Expr} {scope : Scope} {own : List (Str × Nat)} {t : Tgt} {mS : Sg → Hq → R Sv} {mI : Sg → Hq → R Bool} {me : Sg → Hq → R Val} (hc : X.calm = true) (hN : X.N.Nodup) (hi : PI X tg iter (tI G W mS)) (ok : BlkOk X.N X.env.scope scope own)
    (ht : ∀ i ∈ tgs t, i ∈ own.map (·.2))
    (hg : ∀ (s : Shared) (H : Hp) (C : Addr) (cl : List (Str × Addr)) (fp : List Addr), PG (X.blk s H scope (compEnvC scope cl C X.env) fp) tg (tG G t))
    (hI : ∀ (s : Shared) (H : Hp) (C : Addr) (cl : List (Str × Addr)) (fp : List Addr), PTs (X.blk s H scope (compEnvC scope cl C X.env) fp) ifs (tT G Ip.W0 mI))
    (he : ∀ (s : Shared) (H : Hp) (C : Addr) (cl : List (Str × Addr)) (fp : List Addr), PE (X.blk s H scope (compEnvC scope cl C X.env) fp) elt (tE G Ip.W0 me))
    (hs : ∀ x, foldedSetIterable iter X.env x = pure x) : PE X (.ListComp elt [⟨tg, iter, ifs, 0⟩] scope pos) (tL G W (cmpM t (own.map (·.2)) mS mI me)) :=
  (pe_lc hc hN hi ok hg hI he hs).imp (cmp_imp ht)
/-- the tests of a clause -/
theorem it_nil : PTs X [] (tT G W fun _ h => .ok true h) :=
  ⟨fun pins s τ H Q I ⟨Av, s3, σ, hH, rp, sr, p⟩ => pts_nil.run pins s τ H Q I (by subst hH; exact p.fin rp rfl)⟩
theorem it_one {c : Expr} {m : Sg → Hq → R Val} (h : PT X c (tT G W (tst m))) : PTs X [c] (tT G W fun σ h => (m σ h).bind fun x h1 => (tru x h1).bind fun k h2 => if k then .ok true h2 else .ok false h2) := by
  have h' : PT X c (tT G W fun σ h => (m σ h).bind fun x h1 => (tru x h1).bind fun k h2 => if k then .ok true h2 else .ok false h2) := h.cong fun σ h => by
    simp only [tst]
    congr 1
    funext x h1
    cases tru x h1 with
    | ok k h2 => cases k <;> rfl
    | er _ _ => rfl
    | no => rfl
  exact pts_one h'
end
end Ip

set_option linter.all false
set_option Elab.async false
set_option autoImplicit false
/-! Calls of the text's own defs. -/
namespace Ip
open PySem L2

/-! ### a call, by what the callee promises -/
section
variable {G : Gb} {E : XK}
/-- a def's promise: what the evaluator says of its body -/
def spFn (G : Gb) (W : Nat) (C : List Orc) (fn : Fn) : Sp := fun vs H Q E => ∃ (Av : Addr → Prop) (s : S3) (args : List Val), s.H = H ∧ RepH G Av s ∧ VRs G Av s args vs ∧ args.length = fn.ps ∧
  Post G E Av s (fun v y s' => VR G Av s' v y) (run W C fn args s.h) Q

mutual
theorem flat_dr {K : PySem.W.Frag} {H : Hp} {B B' : Addr → Prop} : ∀ {v : V} {d : D}, DR K H B v d → flat d = true → DR K H B' v d
  | _, _, .non, _ => .non
  | _, _, .bl b, _ => .bl b
  | _, _, .int i, _ => .int i
  | _, _, .str x, _ => .str x
  | _, _, .lst _ _, e => by simp [flat] at e
  | _, _, .tup h t, e => .tup h (flats_dr t (by simpa [flat] using e))
theorem flats_dr {K : PySem.W.Frag} {H : Hp} {B B' : Addr → Prop} : ∀ {vs : List V} {ds : List D}, DRs K H B vs ds → flatAll ds = true → DRs K H B' vs ds
  | _, _, .nil, _ => .nil
  | _, _, .cons h t, e => by
    simp only [flatAll, Bool.and_eq_true] at e
    exact .cons (flat_dr h e.1) (flats_dr t e.2)
end
theorem allDat_map : ∀ {vs : List Val}, allDat vs = true → ∃ ds : List D, vs = ds.map .d
  | [], _ => ⟨[], rfl⟩
  | .d x :: vs, e => by
    obtain ⟨ds, h⟩ := allDat_map (vs := vs) e
    exact ⟨x :: ds, by rw [h]; rfl⟩
  | .ref _ :: _, e => by cases e
  | .fn _ :: _, e => by cases e
theorem pks_map (h : Hq) : ∀ ds : List D, pks h 3 (ds.map .d) = some ds
  | [] => rfl
  | d :: ds => by
    show (match pk h 3 (.d d), allO (pk h 3) (ds.map .d) with | some x, some xs => some (x :: xs) | _, _ => none) = _
    rw [show allO (pk h 3) (ds.map .d) = some ds from pks_map h ds]
    rfl
/-- the state of a run of its own: nothing of its own yet -/
theorem rep_nil {Av : Addr → Prop} {H : Hp} (h : ∀ a, Av a → H a ≠ none) : RepH G Av ⟨[], [], H⟩ :=
  ⟨rfl, List.nodup_nil, fun n a o e => (by cases e), h, fun a _ => (by simp), fun a h => (by cases h)⟩
theorem bad_nil {Av : Addr → Prop} {H : Hp} {a : Addr} : Bad Av ⟨[], [], H⟩ a ↔ Av a := by
  constructor
  · rintro (h | ⟨n, h, _⟩)
    · exact h
    · cases h
  · exact .inl
/-- all that stood stands: our state behind a run of its own -/
theorem rep_after {Av : Addr → Prop} {s : S3} {r2 : List Addr} {h2 : Hq} {H2 : Hp} (rp : RepH G Av s) (st : Stp ⟨[], [], s.H⟩ ⟨r2, h2, H2⟩) : RepH G Av ⟨s.r, s.h, H2⟩ ∧ Stp s ⟨s.r, s.h, H2⟩ := by
  have nl : ∀ a, ¬ ∃ n, ([] : List Addr)[n]? = some a ∧ live ([] : Hq) n := fun a ⟨n, z, _⟩ => by cases z
  refine rp.grow ⟨fun a o h _ nt => st.fr.keep a o h (nl a) nt, st.fr.there, st.fr.tup⟩ fun n a e l => ?_
  obtain ⟨vs, hl⟩ := l
  obtain ⟨xs, hx, _⟩ := rp.obj n a _ e hl
  rw [hx]
  exact st.fr.keep a _ hx (nl a) (fun ps z => by cases z)

theorem call_pure {W : Nat} {C : List Orc} {fn : Fn} {Av : Addr → Prop} {s : S3} {ys : List V} {ds : List D} {Q : VK} (rp : RepH G Av s) (q : DRs G.K s.H (Bad Av s) ys ds) (hl : ds.length = fn.ps)
    (p : Post G E Av s (fun v y s' => VR G Av s' v y) (match run W C fn (ds.map .d) [] with
      | .ok v h1 => match toD v h1 with
        | .ok x _ => .ok (.d x) s.h
        | _ => .no
      | .er e _ => .er e s.h
      | .no => .no) Q) : spFn G W C fn ys s.H Q E := by
  have r0 : RepH G (Bad Av s) ⟨[], [], s.H⟩ := rep_nil fun a h => rp.bad_some h
  refine ⟨Bad Av s, ⟨[], [], s.H⟩, ds.map .d, rfl, r0, VRs.of_data (q.sub fun a z => bad_nil.mp z), by rw [List.length_map]; exact hl, ?_⟩
  revert p
  cases run W C fn (ds.map .d) [] with
  | no => exact fun p => p
  | er e h1 =>
    intro p s2 c dx e2 rp2 st2 xr
    obtain ⟨r2, h2, H2⟩ := s2
    obtain ⟨rp3, st3⟩ := rep_after rp st2
    exact p ⟨s.r, s.h, H2⟩ c dx rfl rp3 st3 xr
  | ok v h1 =>
    intro p s2 y e2 rp2 st2 qv
    obtain ⟨r2, h2, H2⟩ := s2
    obtain ⟨rp3, st3⟩ := rep_after rp st2
    have e2 : h2 = h1 := e2
    subst e2
    have p : Post G E Av s (fun v y s' => VR G Av s' v y) (match toD v h2 with
        | .ok x _ => .ok (.d x) s.h
        | _ => .no) Q := p
    cases e3 : toD v h2 with
    | er x h => exact absurd e3 (toD_no_er _ _ _ _)
    | no => rw [e3] at p; exact p.elim
    | ok x h3 =>
      rw [e3] at p
      obtain ⟨rp4, st4, d4⟩ := toD_ok rp2 qv e3
      refine p ⟨s.r, s.h, H2⟩ y rfl rp3 st3 (.d (d4.sub fun a z => ?_))
      exact .inl z
theorem call_flat {W : Nat} {C : List Orc} {fn : Fn} {Av : Addr → Prop} {s : S3} {ys : List V} {ds : List D} {Q : VK} (rp : RepH G Av s) (q : DRs G.K s.H NoB ys ds) (hl : ds.length = fn.ps)
    (p : Post G E Av s (fun v y s' => VR G Av s' v y) (match run W C fn (ds.map .d) [] with
      | .ok v h1 => match toD v h1 with
        | .ok x _ => if flat x then .ok (.d x) s.h else .no
        | _ => .no
      | .er e _ => .er e s.h
      | .no => .no) Q) : spFn G W C fn ys s.H Q E := by
  have r0 : RepH G NoB ⟨[], [], s.H⟩ := rep_nil fun a h => h.elim
  refine ⟨NoB, ⟨[], [], s.H⟩, ds.map .d, rfl, r0, VRs.of_data (q.sub fun a z => bad_nil.mp z), by rw [List.length_map]; exact hl, ?_⟩
  revert p
  cases run W C fn (ds.map .d) [] with
  | no => exact fun p => p
  | er e h1 =>
    intro p s2 c dx e2 rp2 st2 xr
    obtain ⟨r2, h2, H2⟩ := s2
    obtain ⟨rp3, st3⟩ := rep_after rp st2
    exact p ⟨s.r, s.h, H2⟩ c dx rfl rp3 st3 xr
  | ok v h1 =>
    intro p s2 y e2 rp2 st2 qv
    obtain ⟨r2, h2, H2⟩ := s2
    obtain ⟨rp3, st3⟩ := rep_after rp st2
    have e2 : h2 = h1 := e2
    subst e2
    have p : Post G E Av s (fun v y s' => VR G Av s' v y) (match toD v h2 with
        | .ok x _ => if flat x then .ok (.d x) s.h else .no
        | _ => .no) Q := p
    cases e3 : toD v h2 with
    | er x h => exact absurd e3 (toD_no_er _ _ _ _)
    | no => rw [e3] at p; exact p.elim
    | ok x h3 =>
      rw [e3] at p
      have p : Post G E Av s (fun v y s' => VR G Av s' v y) (if flat x then .ok (.d x) s.h else .no) Q := p
      by_cases hf : flat x = true
      · rw [if_pos hf] at p
        obtain ⟨rp4, st4, d4⟩ := toD_ok rp2 qv e3
        exact p ⟨s.r, s.h, H2⟩ y rfl rp3 st3 (.d (flat_dr d4 hf))
      · rw [if_neg hf] at p; exact p.elim

/-! ### a call over this run's objects -/
theorem vr_cut {Av : Addr → Prop} {s s3 : S3} (hH : s3.H = s.H) (hr : s3.r <+: s.r) (hb : ∀ a, ¬ Bad Av s a → ¬ Bad Av s3 a) {v : Val} {y : V} (q : VR G Av s v y) (hv : below s3.r.length v = true) : VR G Av s3 v y := by
  cases q with
  | d q => exact .d (by rw [hH]; exact q.weak fun a _ h => hb a h)
  | fn q => exact .fn q
  | @ref n a q =>
    have hn : n < s3.r.length := by simpa [below] using hv
    have e : s3.r[n]? = some (s3.r[n]) := List.getElem?_eq_getElem hn
    have e' := pre_get hr e
    rw [q] at e'
    exact .ref (by rw [e, Option.some.inj e'])
theorem vrs_cut {Av : Addr → Prop} {s s3 : S3} (hH : s3.H = s.H) (hr : s3.r <+: s.r) (hb : ∀ a, ¬ Bad Av s a → ¬ Bad Av s3 a) : ∀ {vs : List Val} {ys : List V}, VRs G Av s vs ys → vs.all (below s3.r.length) = true → VRs G Av s3 vs ys
  | _, _, .nil, _ => .nil
  | _, _, .cons q t, h => by
    simp only [List.all_cons, Bool.and_eq_true] at h
    exact .cons (vr_cut hH hr hb q h.1) (vrs_cut hH hr hb t h.2)
theorem closed_at {n : Nat} : ∀ {h : Hq} {i : Nat} {vs : List Val}, closed n h = true → h[i]? = some (.lst vs) → vs.all (below n) = true
  | [], _, _, _, e => by simp at e
  | .lst ws :: r, 0, vs, c, e => by
    have e : some (IO.lst ws) = some (IO.lst vs) := e
    cases e
    simp only [closed, Bool.and_eq_true] at c
    exact c.1
  | .lst ws :: r, i + 1, vs, c, e => by
    simp only [closed, Bool.and_eq_true] at c
    exact closed_at (h := r) (i := i) c.2 e
  | .dead x :: r, 0, vs, c, e => by
    have e : some (IO.dead x) = some (IO.lst vs) := e
    cases e
  | .dead x :: r, i + 1, vs, c, e => closed_at (h := r) (i := i) (by simpa [closed] using c) e
/-- back to the objects that stood -/
theorem cut_ok {Av : Addr → Prop} {s s2 : S3} (rp : RepH G Av s) (rp2 : RepH G Av s2) (st : Stp s s2) (hc : closed s.h.length (s2.h.take s.h.length) = true) :
    RepH G Av ⟨s.r, s2.h.take s.h.length, s2.H⟩ ∧ Stp s ⟨s.r, s2.h.take s.h.length, s2.H⟩ ∧ ∀ a, ¬ Bad Av s2 a → ¬ Bad Av ⟨s.r, s2.h.take s.h.length, s2.H⟩ a := by
  have hlen : s.h.length ≤ s2.h.length := by rw [← rp.len, ← rp2.len]; exact st.pre.length_le
  have tk : ∀ {n : Nat} {o : IO}, (s2.h.take s.h.length)[n]? = some o → s2.h[n]? = some o := fun {n o} e => by
    rw [List.getElem?_take] at e
    split at e
    · exact e
    · cases e
  have hb : ∀ a, ¬ Bad Av s2 a → ¬ Bad Av ⟨s.r, s2.h.take s.h.length, s2.H⟩ a := fun a h h3 => by
    rcases h3 with z | ⟨n, z, vs, l⟩
    · exact h (.inl z)
    · exact h (.inr ⟨n, pre_get st.pre z, vs, tk l⟩)
  have hl3 : s.r.length = (s2.h.take s.h.length).length := by rw [List.length_take, rp.len]; omega
  refine ⟨⟨hl3, rp.nd, fun n a o e l => ?_, fun a h => st.fr.there a (rp.av a h), rp.dis, fun a h => st.fr.there a (rp.trk a h)⟩, ⟨List.prefix_refl _, fun n hn ⟨vs, l⟩ => st.liv n hn ⟨vs, tk l⟩, st.fr, fun a h => .inl h⟩, hb⟩
  have q := rp2.obj n a o (pre_get st.pre e) (tk l)
  cases o with
  | lst vs =>
    obtain ⟨xs, h1, h2⟩ := q
    exact ⟨xs, h1, vrs_cut (s := s2) (s3 := ⟨s.r, s2.h.take s.h.length, s2.H⟩) rfl st.pre hb h2 (by show vs.all (below s.r.length) = true; rw [rp.len]; exact closed_at hc l)⟩
  | dead x => exact DR.weak (fun a _ h => hb a h) q
theorem call_shared {W : Nat} {C : List Orc} {fn : Fn} {Av : Addr → Prop} {s : S3} {args : List Val} {ys : List V} {Q : VK} (rp : RepH G Av s) (q : VRs G Av s args ys) (hl : args.length = fn.ps)
    (p : Post G E Av s (fun v y s' => VR G Av s' v y) (match run W C fn args s.h with
      | .ok v h1 => match toD v h1 with
        | .ok x h2 => if closed s.h.length (h2.take s.h.length) then .ok (.d x) (h2.take s.h.length) else .no
        | _ => .no
      | .er e h1 => if closed s.h.length (h1.take s.h.length) then .er e (h1.take s.h.length) else .no
      | .no => .no) Q) : spFn G W C fn ys s.H Q E := by
  refine ⟨Av, s, args, rfl, rp, q, hl, ?_⟩
  revert p
  cases run W C fn args s.h with
  | no => exact fun p => p
  | er e h1 =>
    intro p s2 c dx e2 rp2 st2 xr
    subst e2
    have p : Post G E Av s (fun v y s' => VR G Av s' v y) (if closed s.h.length (s2.h.take s.h.length) then .er e (s2.h.take s.h.length) else .no) Q := p
    by_cases hc : closed s.h.length (s2.h.take s.h.length) = true
    · rw [if_pos hc] at p
      obtain ⟨r3, t3, _⟩ := cut_ok rp rp2 st2 hc
      exact p ⟨s.r, s2.h.take s.h.length, s2.H⟩ c dx rfl r3 t3 xr
    · rw [if_neg hc] at p; exact p.elim
  | ok v h1 =>
    intro p s2 y e2 rp2 st2 qv
    subst e2
    have p : Post G E Av s (fun v y s' => VR G Av s' v y) (match toD v s2.h with
        | .ok x h2 => if closed s.h.length (h2.take s.h.length) then .ok (.d x) (h2.take s.h.length) else .no
        | _ => .no) Q := p
    cases e3 : toD v s2.h with
    | er x h => exact absurd e3 (toD_no_er _ _ _ _)
    | no => rw [e3] at p; exact p.elim
    | ok x h3 =>
      rw [e3] at p
      obtain ⟨rp4, st4, d4⟩ := toD_ok rp2 qv e3
      have st5 := st2.trans st4 rp2.nd rp2.len
      have p : Post G E Av s (fun v y s' => VR G Av s' v y) (if closed s.h.length (h3.take s.h.length) then .ok (.d x) (h3.take s.h.length) else .no) Q := p
      by_cases hc : closed s.h.length (h3.take s.h.length) = true
      · rw [if_pos hc] at p
        obtain ⟨r6, t6, b6⟩ := cut_ok (s2 := ⟨s2.r, h3, s2.H⟩) rp rp4 st5 hc
        exact p ⟨s.r, h3.take s.h.length, s2.H⟩ y rfl r6 t6 (.d (d4.weak fun a _ h => b6 a h))
      · rw [if_neg hc] at p; exact p.elim

/-- THE CALL: what the evaluator's call brings about, by the def's promise -/
theorem call_ok {W : Nat} {C : List Orc} {fn : Fn} {Av : Addr → Prop} {s : S3} {args : List Val} {ys : List V} {Q : VK} (rp : RepH G Av s) (q : VRs G Av s args ys)
    (p : Post G E Av s (fun v y s' => VR G Av s' v y) (callR W C fn args s.h) Q) : spFn G W C fn ys s.H Q E := by
  unfold callR at p
  by_cases hl : args.length = fn.ps
  case neg => rw [if_neg hl] at p; exact p.elim
  rw [if_pos hl] at p
  by_cases hp : fn.pure = true
  case neg =>
    rw [if_neg hp] at p
    exact call_shared rp q hl p
  rw [if_pos hp] at p
  cases e : pks s.h 3 args with
  | none => rw [e] at p; exact p.elim
  | some ds =>
    rw [e] at p
    have hlen : ds.length = fn.ps := by
      have := (pks_dr rp q e).length
      have := q.length
      omega
    by_cases ha : allDat args = true
    · obtain ⟨es, rfl⟩ := allDat_map ha
      rw [pks_map] at e
      cases e
      refine call_pure rp q.to_data hlen ?_
      simp only [ha, Bool.or_true, if_true] at p
      exact p
    · refine call_flat rp (pks_dr rp q e) hlen ?_
      simp only [Bool.not_eq_true] at ha
      simp only [ha, Bool.or_false] at p
      exact p
end
end Ip

set_option linter.all false
set_option Elab.async false
set_option autoImplicit false
/-! Statements. -/
namespace Ip
open PySem L2

/-- what a statement's result must bring about -/
def PoS (G : Gb) (W : WX) (Av : Addr → Prop) (s : S3) (r : RF) (D : Ends) : Prop :=
  match r with
  | .ok (.nx σ') h' => ∀ (s' : S3) (τ' : L2.St), s'.h = h' → RepH G Av s' → Stp s s' → SR G Av s' σ' τ' → D.nx τ' s'.H
  | .ok (.bk σ') h' => ∀ (s' : S3) (τ' : L2.St), s'.h = h' → RepH G Av s' → Stp s s' → SR G Av s' σ' τ' → D.bk τ' s'.H
  | .ok (.ct σ') h' => ∀ (s' : S3) (τ' : L2.St), s'.h = h' → RepH G Av s' → Stp s s' → SR G Av s' σ' τ' → D.ct τ' s'.H
  | .ok (.rt v) h' => ∀ (s' : S3) (y : V), s'.h = h' → RepH G Av s' → Stp s s' → VR G Av s' v y → D.rt y s'.H
  | .er e σ' h' => ∀ (s' : S3) (c : Value) (dx : Option Addr) (τ' : L2.St), s'.h = h' → RepH G Av s' → Stp s s' → SR G Av s' σ' τ' → XR G e c dx → W c dx τ' s'.H
  | .no => False
def tS (G : Gb) (W : WX) (m : Sg → Hq → RF) : TS := fun D τ H => ∃ (Av : Addr → Prop) (s : S3) (σ : Sg), s.H = H ∧ RepH G Av s ∧ SR G Av s σ τ ∧ PoS G W Av s (m σ s.h) D
theorem _root_.L2.PS.imp {X : Cx} {e : Stmt} {t t' : TS} (h : PS X e t) (q : ∀ D τ H, t' D τ H → t D τ H) : PS X e t' := ⟨fun pins s σ H D I w => h.run pins s σ H D I (q _ _ _ w)⟩
theorem _root_.L2.PSs.imp {X : Cx} {e : List Stmt} {t t' : TS} (h : PSs X e t) (q : ∀ D τ H, t' D τ H → t D τ H) : PSs X e t' := ⟨fun pins s σ H D I w => h.run pins s σ H D I (q _ _ _ w)⟩

section
variable {X : Cx} {G : Gb} {W : WX} {pos : Pos} {Av : Addr → Prop} {s s1 : S3} {σ : Sg} {τ : L2.St} {D : Ends}
theorem PoS.step {r : RF} (p : PoS G W Av s r D) (t : Stp s s1) (r1 : RepH G Av s1) : PoS G W Av s1 r D := by
  have tr : ∀ {s2 : S3}, Stp s1 s2 → Stp s s2 := fun t2 => t.trans t2 r1.nd r1.len
  cases r with
  | no => exact p
  | er e σ' h => exact fun s2 c dx τ' e2 rp2 t2 => p s2 c dx τ' e2 rp2 (tr t2)
  | ok fl h => cases fl <;> exact fun s2 y e2 rp2 t2 => p s2 y e2 rp2 (tr t2)
/-- an expression ahead -/
theorem PoS.bind {α β : Type} {Rl : α → β → S3 → Prop} {r : R α} {f : α → Hq → RF} (sr : SR G Av s σ τ) (p : PoS G W Av s (r.thn σ f) D) :
    Post G (We W τ) Av s Rl r fun y H1 => ∃ (a : α) (s1 : S3), s1.H = H1 ∧ RepH G Av s1 ∧ Stp s s1 ∧ SR G Av s1 σ τ ∧ Rl a y s1 ∧ PoS G W Av s1 (f a s1.h) D := by
  cases r with
  | no => exact p
  | er e h => exact fun s2 c dx e2 rp2 t2 x => p s2 c dx τ e2 rp2 t2 (t2.sr rp2.nd sr) x
  | ok a h =>
    intro s1 y e rp t q
    subst e
    exact ⟨a, s1, rfl, rp, t, t.sr rp.nd sr, q, PoS.step p t rp⟩
theorem sE_bind {m : Sg → Hq → R Val} {f : Val → Hq → RF} {Q' : VK} (rp : RepH G Av s) (sr : SR G Av s σ τ) (p : PoS G W Av s ((m σ s.h).thn σ f) D)
    (h : ∀ (v : Val) (y : V) (s1 : S3), RepH G Av s1 → Stp s s1 → SR G Av s1 σ τ → VR G Av s1 v y → PoS G W Av s1 (f v s1.h) D → Q' y s1.H) : tE G W m τ s.H Q' := by
  refine ⟨Av, s, σ, rfl, rp, sr, (PoS.bind (Rl := fun v y s' => VR G Av s' v y) sr p).mono ?_⟩
  rintro y H1 ⟨v, s1, rfl, rp1, st, sr1, q, p1⟩
  exact h v y s1 rp1 st sr1 q p1
theorem sT_bind {m : Sg → Hq → R Bool} {f : Bool → Hq → RF} {Q' : Bool → Hp → Prop} (rp : RepH G Av s) (sr : SR G Av s σ τ) (p : PoS G W Av s ((m σ s.h).thn σ f) D)
    (h : ∀ (v : Bool) (s1 : S3), RepH G Av s1 → Stp s s1 → SR G Av s1 σ τ → PoS G W Av s1 (f v s1.h) D → Q' v s1.H) : tT G W m τ s.H Q' := by
  refine ⟨Av, s, σ, rfl, rp, sr, (PoS.bind (Rl := fun v y s' => v = y) sr p).mono ?_⟩
  rintro y H1 ⟨v, s1, rfl, rp1, st, sr1, q, p1⟩
  subst q
  exact h v s1 rp1 st sr1 p1
theorem sL_bind {m : Sg → Hq → R (List Val)} {f : List Val → Hq → RF} {Q' : VK} (rp : RepH G Av s) (sr : SR G Av s σ τ) (p : PoS G W Av s ((m σ s.h).thn σ f) D)
    (h : ∀ (v : List Val) (y : V) (s1 : S3), RepH G Av s1 → Stp s s1 → SR G Av s1 σ τ → LR G Av s v y s1 → PoS G W Av s1 (f v s1.h) D → Q' y s1.H) : tL G W m τ s.H Q' := by
  refine ⟨Av, s, σ, rfl, rp, sr, (PoS.bind (Rl := LR G Av s) sr p).mono ?_⟩
  rintro y H1 ⟨v, s1, rfl, rp1, st, sr1, q, p1⟩
  exact h v y s1 rp1 st sr1 q p1

/-! ### one after another -/
theorem is_nil : PSs X [] (tS G W fun σ h => .ok (.nx σ) h) :=
  pss_nil.imp fun D τ H ⟨Av, s, σ, hH, rp, sr, p⟩ => by subst hH; exact p s τ rfl rp (Stp.refl _) sr
theorem PoS.seq {r : RF} {f : Sg → Hq → RF} (p : PoS G W Av s (r.thn f) D) :
    PoS G W Av s r { D with nx := fun τ' H' => ∃ (s' : S3) (σ' : Sg), s'.H = H' ∧ RepH G Av s' ∧ SR G Av s' σ' τ' ∧ PoS G W Av s' (f σ' s'.h) D } := by
  cases r with
  | no => exact p
  | er e σ' h => exact p
  | ok fl h =>
    cases fl with
    | nx σ' =>
      intro s1 τ' e rp t sr
      subst e
      exact ⟨s1, σ', rfl, rp, sr, PoS.step (r := f σ' s1.h) p t rp⟩
    | bk σ' => exact p
    | ct σ' => exact p
    | rt v => exact p
theorem PoS.imp {r : RF} {D' : Ends} (p : PoS G W Av s r D) (h1 : ∀ τ H, D.nx τ H → D'.nx τ H) (h2 : ∀ τ H, D.bk τ H → D'.bk τ H) (h3 : ∀ τ H, D.ct τ H → D'.ct τ H) (h4 : ∀ v H, D.rt v H → D'.rt v H) : PoS G W Av s r D' := by
  cases r with
  | no => exact p
  | er e σ' h => exact p
  | ok fl h =>
    cases fl with
    | nx σ' => exact fun s1 τ' e rp t sr => h1 _ _ (p s1 τ' e rp t sr)
    | bk σ' => exact fun s1 τ' e rp t sr => h2 _ _ (p s1 τ' e rp t sr)
    | ct σ' => exact fun s1 τ' e rp t sr => h3 _ _ (p s1 τ' e rp t sr)
    | rt v => exact fun s1 y e rp t q => h4 _ _ (p s1 y e rp t q)
theorem is_cons {st : Stmt} {rest : List Stmt} {m ms : Sg → Hq → RF} (h : PS X st (tS G W m)) (hs : PSs X rest (tS G W ms)) : PSs X (st :: rest) (tS G W fun σ h => (m σ h).thn fun σ' h1 => ms σ' h1) :=
  (pss_cons h hs).imp fun D τ H ⟨Av, s, σ, hH, rp, sr, p⟩ => by
    subst hH
    exact ⟨Av, s, σ, rfl, rp, sr, (PoS.seq p).imp (fun τ' H' ⟨s', σ', e, rp', sr', p'⟩ => ⟨Av, s', σ', e, rp', sr', p'⟩) (fun _ _ z => z) (fun _ _ z => z) (fun _ _ z => z)⟩

/-! ### small ones -/
theorem is_pas : PS X (.Pass pos) (tS G W fun σ h => .ok (.nx σ) h) :=
  ps_pass.imp fun D τ H ⟨Av, s, σ, hH, rp, sr, p⟩ => by subst hH; exact p s τ rfl rp (Stp.refl _) sr
theorem is_doc {x j p1 p2} : PS X (.Expr (.Constant (.str x) j p1) p2) (tS G W fun σ h => .ok (.nx σ) h) :=
  ps_doc.imp fun D τ H ⟨Av, s, σ, hH, rp, sr, p⟩ => by subst hH; exact p s τ rfl rp (Stp.refl _) sr
theorem is_brk : PS X (.Break pos) (tS G W fun σ h => .ok (.bk σ) h) :=
  ps_break.imp fun D τ H ⟨Av, s, σ, hH, rp, sr, p⟩ => by subst hH; exact p s τ rfl rp (Stp.refl _) sr
theorem is_cnt : PS X (.Continue pos) (tS G W fun σ h => .ok (.ct σ) h) :=
  ps_continue.imp fun D τ H ⟨Av, s, σ, hH, rp, sr, p⟩ => by subst hH; exact p s τ rfl rp (Stp.refl _) sr
theorem is_retN : PS X (.Return none pos) (tS G W fun _ h => .ok (.rt (.d .none)) h) :=
  ps_retN.imp fun D τ H ⟨Av, s, σ, hH, rp, sr, p⟩ => by subst hH; exact p s .non rfl rp (Stp.refl _) (.d .non)
theorem is_ret {e : Expr} {m : Sg → Hq → R Val} (h : PE X e (tE G W m)) : PS X (.Return (some e) pos) (tS G W fun σ h => (m σ h).thn σ fun v h1 => .ok (.rt v) h1) :=
  (ps_ret h).imp fun D τ H ⟨Av, s, σ, hH, rp, sr, p⟩ => by
    subst hH
    exact sE_bind rp sr p fun v y s1 rp1 st1 sr1 q1 p1 => p1 s1 y rfl rp1 (Stp.refl _) q1
theorem is_exp {e : Expr} {m : Sg → Hq → R Val} (h : PE X e (tE G W m)) (hs : swapsWith e none pos.line X.env = pure false) : PS X (.Expr e pos) (tS G W fun σ h => (m σ h).thn σ fun _ h1 => .ok (.nx σ) h1) :=
  (ps_expr h hs).imp fun D τ H ⟨Av, s, σ, hH, rp, sr, p⟩ => by
    subst hH
    exact sE_bind rp sr p fun v y s1 rp1 st1 sr1 q1 p1 => p1 s1 τ rfl rp1 (Stp.refl _) sr1
/-- a name's value -/
theorem set_imp {i : Nat} {m : Sg → Hq → R Val} {te : TE} (ht : ∀ τ H Q, tE G W m τ H Q → te τ H Q) : ∀ D τ H, tS G W (fun σ h => (m σ h).thn σ fun v h1 => .ok (.nx (σ.set i (some v))) h1) D τ H → tAsg te (gName i) D τ H := fun D τ H ⟨Av, s, σ, hH, rp, sr, p⟩ => by
  subst hH
  exact ht _ _ _ (sE_bind rp sr p fun v y s1 rp1 st1 sr1 q1 p1 => p1 s1 _ rfl rp1 (Stp.refl _) (sr1.set q1 i))
theorem is_asg {tg e : Expr} {t : Tgt} {m : Sg → Hq → R Val} (h : PE X e (tE G W m)) (hg : PG X tg (tG G t)) (hs : swapsWithSole [tg] e pos.line X.env = pure false) (hw : swappedStores [tg] e X.env = pure none) (h1 : (assignEach [tg] X.env).map (·.2) = [assign tg X.env]) :
    PS X (.Assign [tg] e pos) (tS G W fun σ h => (m σ h).thn σ fun v h1 => match bindT h1 t v σ with
    | some σ' => .ok (.nx σ') h1
    | none => .no) :=
  (ps_asg h hg hs hw h1).imp fun D τ H ⟨Av, s, σ, hH, rp, sr, p⟩ => by
    subst hH
    refine sE_bind rp sr p fun v y s1 rp1 st1 sr1 q1 p1 => ?_
    cases e : bindT s1.h t v σ with
    | none => rw [e] at p1; exact p1.elim
    | some σ' =>
      rw [e] at p1
      exact ⟨Av, s1, σ, σ', v, rfl, rp1, sr1, q1, e, fun τ' sr' _ => p1 s1 τ' rfl rp1 (Stp.refl _) sr'⟩
theorem par_imp {i j : Nat} {ma mb : Sg → Hq → R Val} {ta : TA}
    (ht : ∀ τ H Q, tA G W (fun σ h => (ma σ h).bind fun v h1 => ((mb σ h1).bind fun v h1 => (R.ok ([] : List Val) h1).bind fun vs h2 => .ok (v :: vs) h2).bind fun vs h2 => .ok (v :: vs) h2) τ H Q → ta τ H Q) :
    ∀ D τ H, tS G W (fun σ h => (ma σ h).thn σ fun v h1 => (mb σ h1).thn σ fun w h2 => .ok (.nx ((σ.set i (some v)).set j (some w))) h2) D τ H → tPar i j ta D τ H := fun D τ H ⟨Av, s, σ, hH, rp, sr, p⟩ => by
  subst hH
  refine ht _ _ _ ⟨Av, s, σ, rfl, rp, sr, ?_⟩
  have p' : PoS G W Av s (((ma σ s.h).bind fun v h1 => ((mb σ h1).bind fun v h1 => (R.ok ([] : List Val) h1).bind fun vs h2 => .ok (v :: vs) h2).bind fun vs h2 => .ok (v :: vs) h2).thn σ fun vs h2 => match vs with
      | [v, w] => .ok (.nx ((σ.set i (some v)).set j (some w))) h2
      | _ => .no) D := by
    revert p
    show PoS G W Av s ((ma σ s.h).thn σ _) D → _
    cases ma σ s.h with
    | no => exact fun p => p
    | er e h => exact fun p => p
    | ok v h1 =>
      simp only [R.thn_ok, R.bind_ok]
      cases mb σ h1 with
      | no => exact fun p => p
      | er e h => exact fun p => p
      | ok w h2 => exact fun p => p
  refine (PoS.bind (Rl := fun v y s' => VRs G Av s' v y) sr p').mono ?_
  rintro ys H1 ⟨vs, s1, rfl, rp1, st, sr1, q, p1⟩
  split at p1
  · rename_i v w
    cases q with
    | cons a t =>
      cases t with
      | cons b t =>
        cases t
        exact ⟨_, _, rfl, p1 s1 _ rfl rp1 (Stp.refl _) ((sr1.set a i).set b j)⟩
  · exact p1.elim
theorem is_six {o i e : Expr} {p1 : Pos} {mo mi me : Sg → Hq → R Val} (he : PE X e (tE G W me)) (ho : PE X o (tE G W mo)) (hi : PE X i (tE G W mi)) (hs : swapsWithSole [.Subscript o i p1] e pos.line X.env = pure false) (hw : swappedStores [.Subscript o i p1] e X.env = pure none)
    (h1 : (assignEach [.Subscript o i p1] X.env).map (·.2) = [assign (.Subscript o i p1) X.env])
    (ha : ∀ v, assign (.Subscript o i p1) X.env v = (do
      let ov ← holding [v] (eval o X.env)
      let iv ← holding [v, ov] (eval i X.env)
      standAt p1
      holding [v, ov, iv] (setItem ov iv v)
      release [v, ov, iv] [])) :
    PS X (.Assign [.Subscript o i p1] e pos) (tS G W fun σ h => (me σ h).thn σ fun v h1 => (mo σ h1).thn σ fun x h2 => (mi σ h2).thn σ fun y h3 => (setV x y v h3).thn σ fun _ h4 => .ok (.nx σ) h4) :=
  (ps_asg he (pg_sub ho hi set_list ha) hs hw h1).imp fun D τ H ⟨Av, s, σ, hH, rp, sr, p⟩ => by
    subst hH
    refine sE_bind rp sr p fun v y s1 rp1 st1 sr1 q1 p1 => ?_
    refine sE_bind rp1 sr1 p1 fun x z s2 rp2 st2 sr2 q2 p2 => ?_
    refine sE_bind rp2 sr2 p2 fun k u s3 rp3 st3 sr3 q3 p3 => ?_
    have r1 := (st2.trans st3 rp2.nd rp2.len).vr rp3.nd q1
    have r2 := st3.vr rp3.nd q2
    clear q1 q2
    unfold setV at p3
    split at p3
    · rename_i n kk
      split at p3
      · rename_i ws hl
        split at p3
        · rename_i j hj
          cases r2 with
          | ref hn =>
            rename_i b
            cases q3 with
            | d q3 =>
              cases q3
              obtain ⟨zs, hH3, hv⟩ := rp3.obj n b _ hn hl
              obtain ⟨rp4, st4⟩ := rp3.write hn hl hH3 (hv.set r1 j)
              refine ⟨b, zs, kk, j, rfl, rfl, hH3, by rw [← ixn_eq, ← hv.length]; exact hj, ?_⟩
              exact p3 ⟨s3.r, s3.h.set n (.lst (ws.set j v)), upd s3.H b (.lst (zs.set j y))⟩ τ rfl rp4 st4 (st4.sr rp4.nd sr3)
        · exact p3.elim
      · exact p3.elim
    · exact p3.elim
theorem is_iff {c : Expr} {a b : List Stmt} {mc : Sg → Hq → R Bool} {ma mb : Sg → Hq → RF} (hc : PT X c (tT G W mc)) (ha : PSs X a (tS G W ma)) (hb : PSs X b (tS G W mb)) :
    PS X (.If c a b pos) (tS G W fun σ h => (mc σ h).thn σ fun k h2 => if k then ma σ h2 else mb σ h2) :=
  (ps_if hc ha hb).imp fun D τ H ⟨Av, s, σ, hH, rp, sr, p⟩ => by
    subst hH
    refine sT_bind rp sr p fun k s1 rp1 st1 sr1 p1 => ?_
    cases k with
    | true => rw [if_pos rfl] at p1 ⊢; exact ⟨Av, s1, σ, rfl, rp1, sr1, p1⟩
    | false => rw [if_neg Bool.false_ne_true] at p1 ⊢; exact ⟨Av, s1, σ, rfl, rp1, sr1, p1⟩

/-! ### loops -/
theorem PoS.turn {r : RF} {f : Sg → Hq → RF} (p : PoS G W Av s (r.turn f) D) {N : L2.St → Hp → Prop}
    (hN : ∀ (s' : S3) (σ' : Sg) (τ' : L2.St), RepH G Av s' → Stp s s' → SR G Av s' σ' τ' → PoS G W Av s' (f σ' s'.h) D → N τ' s'.H) : PoS G W Av s r { D with nx := N, ct := N, bk := D.nx } := by
  cases r with
  | no => exact p
  | er e σ' h => exact p
  | ok fl h =>
    cases fl with
    | nx σ' =>
      intro s1 τ' e rp t sr
      subst e
      exact hN s1 σ' τ' rp t sr (PoS.step (r := f σ' s1.h) p t rp)
    | bk σ' => exact p
    | ct σ' =>
      intro s1 τ' e rp t sr
      subst e
      exact hN s1 σ' τ' rp t sr (PoS.step (r := f σ' s1.h) p t rp)
    | rt v => exact p
theorem is_whl {F : Nat} {c : Expr} {body : List Stmt} {mc : Sg → Hq → R Bool} {mb : Sg → Hq → RF} (hp : PassesOwn (model X.prog X.w) X.A X.env X.xe) (hc : PT X c (tT G W mc)) (hb : PSs X body (tS G W mb)) :
    PS X (.While c body [] pos) (tS G W fun σ h => whlN mc mb F σ h) :=
  (ps_while hp hc hb).imp fun D τ H ⟨Av, s, σ, hH, rp, sr, p⟩ => by
    subst hH
    refine ⟨fun m τ' H' => ∃ (s2 : S3) (σ2 : Sg), s2.H = H' ∧ RepH G Av s2 ∧ SR G Av s2 σ2 τ' ∧ PoS G W Av s2 (whlN mc mb m σ2 s2.h) D, ⟨F, s, σ, rfl, rp, sr, p⟩, ?_⟩
    rintro m τ2 H2 ⟨s2, σ2, rfl, rp2, sr2, p2⟩
    cases m with
    | zero => exact p2.elim
    | succ m =>
      unfold whlN at p2
      refine sT_bind rp2 sr2 p2 fun k s3 rp3 st3 sr3 p3 => ?_
      cases k with
      | false =>
        rw [if_neg Bool.false_ne_true] at p3 ⊢
        exact p3 s3 τ2 rfl rp3 (Stp.refl _) sr3
      | true =>
        rw [if_pos rfl] at p3 ⊢
        refine ⟨fun τ4 H4 => ∃ (s4 : S3) (σ4 : Sg), s4.H = H4 ∧ RepH G Av s4 ∧ SR G Av s4 σ4 τ4 ∧ PoS G W Av s4 (whlN mc mb m σ4 s4.h) D, fun τ4 H4 w => ⟨m, Nat.lt_succ_self m, w⟩, ?_⟩
        exact ⟨Av, s3, σ2, rfl, rp3, sr3, p3.turn fun s4 σ4 τ4 rp4 _ sr4 p4 => ⟨s4, σ4, rfl, rp4, sr4, p4⟩⟩
theorem is_for {F : Nat} {tg iter : Expr} {t : Tgt} {body : List Stmt} {mS : Sg → Hq → R Sv} {mb : Sg → Hq → RF} (hp : PassesOwn (model X.prog X.w) X.A X.env X.xe) (hcl : X.calm = true) (hi : PI X tg iter (tI G W mS)) (hg : PG X tg (tG G t)) (hb : PSs X body (tS G W mb))
    (hs : ∀ x, foldedSetIterable iter X.env x = pure x) :
    PS X (.For tg iter body [] pos) (tS G W fun σ h => (mS σ h).thn σ fun sv h1 => match sv with
    | .data vs => forL (turnV t mb) vs σ h1
    | .obj n => forO (turnV t mb) n F 0 σ h1) :=
  (ps_for hp hcl hi hg hb hs).imp fun D τ H ⟨Av, s, σ, hH, rp, sr, p⟩ => by
    subst hH
    refine ⟨Av, s, σ, rfl, rp, sr, (PoS.bind (Rl := SvR G Av) sr p).mono ?_⟩
    rintro J H1 ⟨sv, s1, rfl, rp1, st1, sr1, sv1, p1⟩
    cases sv with
    | data vs =>
      refine ⟨fun i m τ' H' => m = vs.length - i ∧ i ≤ vs.length ∧ ∃ (s2 : S3) (σ2 : Sg), s2.H = H' ∧ RepH G Av s2 ∧ Stp s1 s2 ∧ SR G Av s2 σ2 τ' ∧ PoS G W Av s2 (forL (turnV t mb) (vs.drop i) σ2 s2.h) D,
        ⟨vs.length, by simp, Nat.zero_le _, s1, σ, rfl, rp1, Stp.refl _, sr1, by rw [List.drop_zero]; exact p1⟩, ?_⟩
      rintro i m τ2 H2 ⟨rfl, hi2, s2, σ2, rfl, rp2, st2, sr2, p2⟩
      have srcAt := sv1 Av s2 rp2 st2 (fun a ha z => z) i
      cases hvi : vs[i]? with
      | none =>
        refine .inl ⟨srcAt.2 hvi, ?_⟩
        rw [List.drop_eq_nil_of_le (List.getElem?_eq_none_iff.mp hvi)] at p2
        exact p2 s2 τ2 rfl rp2 (Stp.refl _) sr2
      | some v =>
        have hlt : i < vs.length := lt_of_get hvi
        obtain ⟨hgo, hyl⟩ := srcAt.1 v hvi
        have hdrop : vs.drop i = v :: vs.drop (i + 1) := by
          rw [List.drop_eq_getElem_cons hlt]
          rw [List.getElem?_eq_getElem hlt] at hvi
          rw [Option.some.inj hvi]
        rw [hdrop] at p2
        unfold forL turnV at p2
        cases hb : bindT s2.h t v σ2 with
        | none => rw [hb] at p2; exact p2.elim
        | some σ3 =>
          rw [hb] at p2
          refine .inr ⟨hgo, fun τ4 H4 => ∃ (s4 : S3) (σ4 : Sg), s4.H = H4 ∧ RepH G Av s4 ∧ Stp s1 s4 ∧ SR G Av s4 σ4 τ4 ∧ PoS G W Av s4 (forL (turnV t mb) (vs.drop (i + 1)) σ4 s4.h) D, ?_, ?_⟩
          · rintro τ4 H4 w
            exact ⟨vs.length - (i + 1), by omega, rfl, hlt, w⟩
          · intro x H7 hy
            obtain ⟨s7, rfl, hh7, rp7, st7, q7⟩ := hyl x H7 hy
            refine ⟨Av, s7, σ2, σ3, v, rfl, rp7, st7.sr rp7.nd sr2, q7, by rw [hh7]; exact hb, fun τ' sr' _ => ⟨Av, s7, σ3, rfl, rp7, sr', ?_⟩⟩
            have p3 := PoS.step (r := (mb σ3 s2.h).turn fun σ' h1 => forL (turnV t mb) (vs.drop (i + 1)) σ' h1) p2 st7 rp7
            rw [← hh7] at p3
            have st27 := st2.trans st7 rp2.nd rp2.len
            exact p3.turn fun s4 σ4 τ4 rp4 st4 sr4 p4 => ⟨s4, σ4, rfl, rp4, st27.trans st4 rp7.nd rp7.len, sr4, p4⟩
    | obj n =>
      obtain ⟨a, ha, rfl⟩ := sv1
      refine ⟨fun i m τ' H' => ∃ (s2 : S3) (σ2 : Sg), s2.H = H' ∧ RepH G Av s2 ∧ Stp s1 s2 ∧ SR G Av s2 σ2 τ' ∧ PoS G W Av s2 (forO (turnV t mb) n m i σ2 s2.h) D, ⟨F, s1, σ, rfl, rp1, Stp.refl _, sr1, p1⟩, ?_⟩
      rintro i m τ2 H2 ⟨s2, σ2, rfl, rp2, st2, sr2, p2⟩
      cases m with
      | zero => exact p2.elim
      | succ m =>
        unfold forO at p2
        cases he : els s2.h (.ref n) with
        | none => rw [he] at p2; exact p2.elim
        | some vs =>
          rw [he] at p2
          have he2 : elsL s2.h (.ref n) = some vs := he
          obtain ⟨a', xs, ea, hq, hv⟩ := elsL_ok rp2 (.ref (pre_get st2.pre ha)) he2
          cases ea
          simp only at p2
          cases hvi : vs[i]? with
          | none =>
            rw [hvi] at p2
            refine .inl ⟨⟨xs, hq, ?_⟩, p2 s2 τ2 rfl rp2 (Stp.refl _) sr2⟩
            rw [← hv.length]; exact List.getElem?_eq_none_iff.mp hvi
          | some v =>
            rw [hvi] at p2
            unfold turnV at p2
            obtain ⟨x, hx, qx⟩ := hv.get hvi
            cases hb : bindT s2.h t v σ2 with
            | none => simp only [hb] at p2; exact p2.elim
            | some σ3 =>
              simp only [hb] at p2
              refine .inr ⟨⟨xs, x, hq, hx⟩, fun τ4 H4 => ∃ (s4 : S3) (σ4 : Sg), s4.H = H4 ∧ RepH G Av s4 ∧ Stp s1 s4 ∧ SR G Av s4 σ4 τ4 ∧ PoS G W Av s4 (forO (turnV t mb) n m (i + 1) σ4 s4.h) D, fun τ4 H4 w => ⟨m, Nat.lt_succ_self m, w⟩, ?_⟩
              intro y H7 hy
              obtain ⟨rfl, hy⟩ := hy
              have := hy xs hq
              rw [hx] at this
              cases this
              exact ⟨Av, s2, σ2, σ3, v, rfl, rp2, sr2, qx, hb, fun τ' sr' _ => ⟨Av, s2, σ3, rfl, rp2, sr', p2.turn fun s4 σ4 τ4 rp4 st4 sr4 p4 => ⟨s4, σ4, rfl, rp4, st2.trans st4 rp2.nd rp2.len, sr4, p4⟩⟩⟩
end
end Ip

set_option linter.all false
set_option Elab.async false
set_option autoImplicit false
set_option maxRecDepth 100000
/-! Defs: what they promise, where no list is being shown. -/
namespace Ip
open PySem L2 PyProof.Rows

structure RoomG (k : Nat) (A : Around) : Prop where
  rm : Room k A
  gd : A.guards = some []
theorem RoomG.mono {j k : Nat} {A : Around} (r : RoomG k A) (h : j ≤ k) : RoomG j A := ⟨r.rm.mono h, r.gd⟩
theorem RoomG.deeper {k : Nat} {A : Around} (r : RoomG (k + 1) A) (env : Env) : RoomG k (A.deeper env) := ⟨r.rm.deeper env, r.gd⟩
theorem RoomG.calm {k : Nat} {X : Cx} (r : RoomG k X.A) (h : X.calm = true) : Calm X := ⟨h, r.rm.units, r.gd⟩

structure FnG (P : Program) (w : World) (K : PySem.W.Frag) (mg : Str → Option Value) (base : Heap) (k : Nat) (f : Addr) (fd : FuncData) (ps : List Str) (sp : Sp) : Prop where
  len : ∀ vs H Q E, sp vs H Q E → vs.length = ps.length
  run : ∀ (A : Around) (outer : List Env) (s : Shared) (H : Hp) (args : Args) (us : List Value) (vs : List V) (Q : VK) (E : XK), RoomG k A → Env0 P w K mg base A outer s H → BindsTo s fd args (ps.zip us) → Vals vs us → sp vs H Q E →
    codeAny (model P w) A (.call (.ref f) args) (CR (L2.CX P w) outer P w H s Q E) s

/-- a def by its body -/
theorem fnG_of {P : Program} {w : World} {K : PySem.W.Frag} {mg : Str → Option Value} {base : Heap} {k : Nat} {f : Addr} {name qual : Str} {params : Arguments} {body : List Stmt} {scope : Scope} {dV kV doc pm cdv ct oc : Value} {an od : Option Addr}
    {osl : Array (Option Value)} {N ps : List Str} {sp : Sp} (lk : K.lookup f = some ⟨oc, od, .func (PySem.W.fnOf name qual params body scope dV kV doc pm an cdv ct), osl⟩) (hcd : PySem.W.codeIn K cdv qual = true) (S : FnScope N ps scope)
    (len : ∀ vs H Q E, sp vs H Q E → vs.length = ps.length)
    (hbody : ∀ (A : Around) (outer : List Env) (s : Shared) (H : Hp) (vs : List V) (Q : VK) (E : XK), RoomG k (A.deeper (envOfC qual scope s.heap.objs.size f cdv)) → sp vs H Q E →
      ∃ t, PSs (cxOf (L2.CX P w) P w K mg base N qual scope f cdv A outer s H E) body t ∧ t { nx := fun _ H' => Q .non H', rt := Q } (L2.start N vs) H) :
    FnG P w K mg base (k + 1) f (PySem.W.fnOf name qual params body scope dV kV doc pm an cdv ct) ps sp := by
  refine ⟨len, fun A outer s H args us vs Q E hr e0 hb r hsp => ?_⟩
  have KX : K.In s.heap := e0.mod.kin.keeps fun b o e => (e0.bs b o e).1
  have lim : s.heap.NoLimit := e0.mod.nolimit.keeps fun b o e => (e0.bs b o e).1
  refine codeAny_call_function hr.rm.depth (KX _ _ lk) rfl S.co S.gen rfl (PySem.W.codeRec_of KX hcd) (hb _ _ _ _ ?_)
  refine wpAny_newFunctionEnv_cells S.kind (fun y hy => ?_) fun env he s1 x => ?_
  · rcases S.par y.1 (List.of_mem_zip hy).1 with q | q
    · exact .inl q
    · exact .inr ⟨q, PySem.W.cellsFrom_some _ _ _ (.inl q)⟩
  subst he
  refine ⟨lim.keeps x.toInCall.keep, codeAny_func ?_⟩
  obtain ⟨t, ht, hq⟩ := hbody A outer s H vs Q E (hr.deeper _) hsp
  have I : Inv (cxOf (L2.CX P w) P w K mg base N qual scope f cdv A outer s H E) [] (L2.start N vs) H s1 := inv_start S hr.rm.hd e0 (len _ _ _ _ hsp) r x
  refine wpAny_mono (ht.run [] s1 (L2.start N vs) H _ I hq) (fun fl s' hs => ?_) fun e s' hs => hs
  cases fl with
  | ret u => obtain ⟨v, σ', H', J, rv, q⟩ := hs; exact ⟨v, H', J.os, J.bare, J.base, J.hok, rv, q⟩
  | next => obtain ⟨σ', H', J, q⟩ := hs; exact ⟨V.non, H', J.os, J.bare, J.base, J.hok, rfl, q⟩
  | brk => obtain ⟨_, _, _, q⟩ := hs; exact q.elim
  | cont => obtain ⟨_, _, _, q⟩ := hs; exact q.elim

/-! ### a call of a def -/
/-- what a callee lets out is what is wished for -/
def Passing (X : Cx) (W : WX) : Prop := ∀ σ, PassesAt (L2.CX X.prog X.w) X σ (WE W σ)
theorem Passing.of_takes {X : Cx} {W : WX} (tk : Takes X W) : Passing X W := fun σ => passAt tk σ
theorem Passing.never {X : Cx} : Passing X W0 := fun σ pins H s e s' I c => by
  obtain ⟨_, _, _, _, _, _, _, _, _, _, _, _, h⟩ := c
  exact h.elim
section
variable {X : Cx} {G : Gb} {W : WX} {k : Nat} {f : Addr} {fd : FuncData} {ps : List Str} {sp : Sp} {x : Str} {p pos : Pos} {e : Expr} {es : List Expr} {t : TA}
theorem run_fnG {pins : List (Addr × Obj)} {σ : L2.St} {H : Hp} {s : Shared} {Q : VK} {us : List Value} {vs : List V} (F : FnG X.prog X.w X.K X.mg X.base k f fd ps sp) (hr : RoomG k X.A) (hb : Binds X.K fd ps []) (hx : Passing X W)
    (I : Inv X pins σ H s) (r : Vals vs us) (h : sp vs H Q (WE W σ)) : wpAny (model X.prog X.w) X.A (call (.ref f) us) (EP X pins σ Q) X.xe s := by
  have hl : us.length = ps.length := by rw [← r.length]; exact F.len _ _ _ _ h
  have b := hb s us I.kIn (by rw [List.append_nil]; exact hl)
  rw [List.append_nil] at b
  refine wpAny_call (codeAny_mono (F.run X.A X.stack s H ⟨us, []⟩ us vs Q (WE W σ) hr I.env0 b r h) fun r s' hq => ?_)
  cases r with
  | error e => exact hx σ pins H s e s' I hq
  | ok fl =>
    cases fl with
    | ret u => exact I.after hq
    | next => exact False.elim hq
    | brk => exact False.elim hq
    | cont => exact False.elim hq
theorem pe_callG (F : FnG X.prog X.w X.K X.mg X.base k f fd ps sp) (hr : RoomG k X.A) (hg : Gl X x) (hm : X.mg x = some (.ref f)) (hk : PySem.W.keepIn X.K (.ref f) = true) (hb : Binds X.K fd ps []) (hx : Passing X W)
    (ha : PA X (e :: es) t) (hdb : (x == ("__debug__" : Str)) = false) (he : starEach (e :: es) X.env = (false, eval e X.env) :: starEach es X.env) (hpl : (backTo pos (starEach es X.env)).any (·.1) = false) :
    PE X (.Call (.Name x p) (e :: es) [] pos) (tCallS sp (WE W) t) := by
  refine ⟨fun pins s σ H Q I h => ?_⟩
  refine wpAny_Call_Name_kw (ld_glob I hg hm ?_ hdb)
  refine PySem.W.callWith_K (h₀ := X.base) I.ok.mod.kin hk (thn (ha.run pos pins s σ H _ I h) fun us s1 ⟨vs, H1, I1, r, q⟩ => ⟨I1.kIn, ?_⟩) he hpl
  exact run_fnG F hr hb hx I1 r q
theorem pe_callG0 (F : FnG X.prog X.w X.K X.mg X.base k f fd ps sp) (hr : RoomG k X.A) (hg : Gl X x) (hm : X.mg x = some (.ref f)) (hk : PySem.W.keepIn X.K (.ref f) = true) (hb : Binds X.K fd ps []) (hx : Passing X W)
    (hdb : (x == ("__debug__" : Str)) = false) : PE X (.Call (.Name x p) [] [] pos) (tCallS sp (WE W) tNil) := by
  refine ⟨fun pins s σ H Q I h => ?_⟩
  refine wpAny_Call_Name_kw (ld_glob I hg hm ?_ hdb)
  exact PySem.W.callWith_K0 I.kIn hk (run_fnG (us := []) F hr hb hx I .nil h)
/-- the evaluator's call -/
theorem call_imp {F : Nat} {C : List Orc} {fn : Fn} {ms : Sg → Hq → R (List Val)} {t : TA} (ht : ∀ τ H Q, tA G W ms τ H Q → t τ H Q) :
    ∀ τ H Q, tE G W (fun σ h => (ms σ h).bind fun vs h1 => callR F C fn vs h1) τ H Q → tCallS (spFn G F C fn) (WE W) t τ H Q := fun τ H Q ⟨Av, s, σ, hH, rp, sr, p⟩ => by
  subst hH
  exact ht _ _ _ (tA_bind rp sr p fun vs ys s1 rp1 st1 sr1 q1 p1 => call_ok rp1 q1 p1)
end

/-! ### a def of the table -/
theorem start_ok {G : Gb} {Av : Addr → Prop} {s : S3} : ∀ {args : List Val} {vs : List V} (n : Nat), VRs G Av s args vs → ∀ (i : Nat) (v : Val), (args.map some ++ List.replicate n none)[i]? = some (some v) → ∃ x, (vs.map some ++ List.replicate n none)[i]? = some (some x) ∧ VR G Av s v x
  | _, _, n, .nil, i, v, e => by
    have e : (List.replicate n none : List (Option Val))[i]? = some (some v) := e
    rw [List.getElem?_replicate] at e
    split at e <;> cases e
  | _, _, n, .cons q t, 0, v, e => by
    have e : some (some _) = some (some v) := e
    cases e
    exact ⟨_, rfl, q⟩
  | _, _, n, .cons q t, i + 1, v, e => start_ok n t i v e
theorem sp_body {G : Gb} {F : Nat} {C : List Orc} {fn : Fn} {N : List Str} {vs : List V} {H : Hp} {Q : VK} {E : XK} (hN : fn.ns = N.length) (h : spFn G F C fn vs H Q E) :
    tS G (fun c d _ H => E c d H) (fun σ h => exs F C fn.body σ h) { nx := fun _ H' => Q .non H', rt := Q } (L2.start N vs) H := by
  obtain ⟨Av, s, args, rfl, rp, q, hl, p⟩ := h
  refine ⟨Av, s, args.map some ++ List.replicate (fn.ns - fn.ps) none, rfl, rp, ⟨?_, ?_⟩, ?_⟩
  · unfold L2.start
    have := q.length
    simp only [List.length_append, List.length_map, List.length_replicate]
    omega
  · intro i v e
    unfold L2.start
    rw [← hN, ← q.length, hl]
    exact start_ok _ q i v e
  · unfold run at p
    revert p
    show _ → PoS G (fun c d _ H => E c d H) Av s (exs F C fn.body (args.map some ++ List.replicate (fn.ns - fn.ps) none) s.h) _
    cases exs F C fn.body (args.map some ++ List.replicate (fn.ns - fn.ps) none) s.h with
    | no => exact fun p => p
    | er e σ' h => exact fun p => fun s' c dx τ' e2 rp2 st2 _ x => p s' c dx e2 rp2 st2 x
    | ok fl h =>
      cases fl with
      | nx σ' => exact fun p => fun s' τ' e2 rp2 st2 _ => p s' .non e2 rp2 st2 (.d .non)
      | bk _ => exact fun p => p.elim
      | ct _ => exact fun p => p.elim
      | rt v => exact fun p => fun s' y e2 rp2 st2 q2 => p s' y e2 rp2 st2 q2
theorem sp_len {G : Gb} {F : Nat} {C : List Orc} {fn : Fn} {vs : List V} {H : Hp} {Q : VK} {E : XK} (h : spFn G F C fn vs H Q E) : vs.length = fn.ps := by
  obtain ⟨_, _, args, _, _, q, hl, _⟩ := h
  rw [← q.length, hl]
end Ip

set_option linter.all false
set_option Elab.async false
set_option autoImplicit false
set_option maxRecDepth 100000
/-! More rules; facts about forms of expressions that hold in any environment. -/
namespace Ip
open PySem L2 PyProof.Rows

/-! ### forms -/
/-- neither starred, nor a set's display, nor a slice -/
def plainE : Expr → Bool
  | .Starred .. | .Set .. | .Slice .. => false
  | _ => true
/-- its truth is its value's -/
def plainT : Expr → Bool
  | .UnaryOp .. | .BoolOp .. | .IfExp .. | .Compare .. => false
  | _ => true
/-- no comprehension -/
def noComp : Expr → Bool
  | .ListComp .. | .SetComp .. | .DictComp .. => false
  | _ => true
def notCall : Expr → Bool
  | .Call .. => false
  | _ => true
def notTup : Expr → Bool
  | .Tuple .. => false
  | _ => true
theorem star_cons {e : Expr} (h : plainE e = true) (es : List Expr) (env : Env) : starEach (e :: es) env = (false, eval e env) :: starEach es env := by
  cases e <;> first | (cases h; done) | rfl
def plains : List Expr → Bool
  | [] => true
  | e :: es => plainE e && plains es
theorem back_plain (pos : Pos) (env : Env) : ∀ {es : List Expr}, plains es = true → (backTo pos (starEach es env)).any (·.1) = false
  | [], _ => rfl
  | e :: es, h => by
    simp only [plains, Bool.and_eq_true] at h
    rw [star_cons h.1]
    show (false || (backTo pos (starEach es env)).any (·.1)) = false
    rw [back_plain pos env h.2]; rfl
theorem isTrue_plain {e : Expr} (h : plainT e = true) (env : Env) : ∀ whole, isTrue e env whole = (do let v ← whole; standAt e.pos; holding [v] (truthy v)) := by
  cases e <;> first | (cases h; done) | (intro whole; rfl)
theorem plainIx_of {e : Expr} (h : plainE e = true) : PlainIx e := by
  cases e <;> first | (cases h; done) | (intro o i; rfl)
theorem base_of {e : Expr} (h : notCall e = true) (at_ : Str) (env : Env) (w : Sem Value) : attributeBase e at_ env w = w := by
  cases e <;> first | (cases h; done) | rfl
theorem swaps_no {e : Expr} (h : noComp e = true) (t : Option Expr) (l : Nat) (env : Env) : swapsWith e t l env = pure false := by
  cases e <;> first | (cases h; done) | rfl
theorem folded_of {e : Expr} (h : plainE e = true) (env : Env) (x : Value) : foldedSetIterable e env x = pure x := by
  cases e <;> first | (cases h; done) | rfl
theorem behind_of {e : Expr} (h : plainE e = true) (op : CmpOp) : behindInMarks op e = false := by
  cases e <;> first | (cases h; done) | rfl
theorem stores_no {t e : Expr} (h : notTup e = true) (env : Env) : swappedStores [t] e env = pure none := by
  cases e <;> first | (cases h; done) | (cases t <;> rfl)
theorem stores_no2 {t e : Expr} (h : (match t with | .Tuple .. => false | .List .. => false | _ => true) = true) (env : Env) : swappedStores [t] e env = pure none := by
  cases t <;> first | (cases h; done) | (cases e <;> rfl)
theorem sole_other {t e : Expr} (h : (match t with | .Name .. => false | _ => true) = true) (l : Nat) (env : Env) : swapsWithSole [t] e l env = pure false := by
  show swapsWith e (some t) l env = _
  cases t <;> first | (cases h; done) | (cases e <;> rfl)

section
variable {X : Cx} {G : Gb} {W : WX} {pos : Pos}
theorem ie_nev {e : Expr} : PE X e (tE G W fun _ _ => .no) := ⟨fun pins s τ H Q I ⟨Av, s3, σ, hH, rp, sr, p⟩ => p.elim⟩
theorem ip_frz {e : Expr} {m : Sg → Hq → R Val} (h : PE X e (tE G W m)) : PE X e (tE G W fun σ h => (m σ h).bind fun x h1 => (toD x h1).bind fun d h2 => .ok (.d d) h2) :=
  h.imp fun τ H Q ⟨Av, s, σ, hH, rp, sr, p⟩ => by
    subst hH
    refine ⟨Av, s, σ, rfl, rp, sr, ?_⟩
    revert p
    show Post G _ Av s _ ((m σ s.h).bind _) Q → _
    cases m σ s.h with
    | no => exact fun p => p
    | er e h => exact fun p => p
    | ok v h1 =>
      intro p s1 y e1 rp1 st1 q1
      subst e1
      have p : Post G (We W τ) Av s (fun v y s' => VR G Av s' v y) ((toD v s1.h).bind fun d h2 => .ok (.d d) h2) Q := p
      cases e : toD v s1.h with
      | no => rw [e] at p; exact p.elim
      | er x h => exact absurd e (toD_no_er _ _ _ _)
      | ok d h2 =>
        rw [e] at p
        obtain ⟨rp2, st2, d2⟩ := toD_ok rp1 q1 e
        exact p ⟨s1.r, h2, s1.H⟩ y rfl rp2 (st1.trans st2 rp1.nd rp1.len) (.d d2)
theorem ip_fmt {e : Expr} {m : Sg → Hq → R Val} (h : PE X e (tE G W m)) : PE X (.FormattedValue e (-1) none pos) (tE G W fun σ h => (m σ h).bind fun x h1 => match partS x with
    | some s => .ok (.d (.str s)) h1
    | none => .no) :=
  (pe_fmt h).imp fun τ H Q ⟨Av, s, σ, hH, rp, sr, p⟩ => by
    subst hH
    refine tE_bind rp sr p fun v y s1 rp1 st1 sr1 q1 p1 => ?_
    unfold partS at p1
    split at p1
    · rename_i z e
      split at e
      · rename_i z2
        split at e
        · rename_i hf
          cases e
          cases q1 with
          | d q1 =>
            cases q1
            exact .inl ⟨_, rfl, fits_line hf, p1.fin rp1 (.d (.str _))⟩
        · cases e
      · rename_i i
        split at e
        · rename_i hf
          cases e
          cases q1 with
          | d q1 =>
            cases q1
            exact .inr ⟨_, rfl, hf, p1.fin rp1 (.d (.str _))⟩
        · cases e
      · cases e
    · exact p1.elim
/-- parts -/
theorem jn_imp {F : Nat} {C : List Orc} {τ : L2.St} {σ : Sg} {Av : Addr → Prop} : ∀ (xs : List Ex) (acc : Str) (s : S3) (Q : Str → Hp → Prop), RepH G Av s → SR G Av s σ τ →
    Post G (We W τ) Av s (fun v y _ => v = y) (evJ F C xs acc σ s.h) Q → tJs (xs.map fun x => tE G W (ev F C x)) acc τ s.H Q
  | [], acc, s, Q, rp, sr, p => p s acc rfl rp (Stp.refl _) rfl
  | x :: xs, acc, s, Q, rp, sr, p => by
    show tE G W (ev F C x) τ s.H _
    unfold evJ at p
    refine tE_bind rp sr p fun v y s1 rp1 st1 sr1 q1 p1 => ?_
    split at p1
    · split at p1
      · rename_i z hf
        cases q1 with
        | d q1 =>
          cases q1
          exact ⟨z, rfl, fits_line hf, jn_imp xs _ s1 Q rp1 sr1 p1⟩
      · exact p1.elim
    · exact p1.elim
theorem ip_fst {F : Nat} {C : List Orc} {xs : List Ex} {v1 v2 : Expr} {rest : List Expr} (h : PJ X (v1 :: v2 :: rest) (xs.map fun x => tE G W (ev F C x))) :
    PE X (.JoinedStr (v1 :: v2 :: rest) pos) (tE G W fun σ h => (evJ F C xs Str.empty σ h).bind fun s h1 => .ok (.d (.str s)) h1) :=
  (pe_joined h).imp fun τ H Q ⟨Av, s, σ, hH, rp, sr, p⟩ => by
    subst hH
    refine jn_imp xs _ s _ rp sr ?_
    refine (p.bind (Rl := fun v y _ => v = y)).mono ?_
    rintro y H1 ⟨a, s1, rfl, rp1, st1, rfl, p1⟩
    exact p1.fin rp1 (.d (.str _))

/-! ### values and targets -/
theorem isn_nev {st : Stmt} : PS X st (tS G W fun _ _ => .no) := ⟨fun pins s τ H D I ⟨Av, s3, σ, hH, rp, sr, p⟩ => p.elim⟩
/-- a raised exception of a class of the text -/
structure ClsF (X : Cx) (G : Gb) (x : Str) (c : Nat) : Prop where
  ex : ∃ (C : Addr) (B newId initId : String) (bmB : List Value), G.ca[c]? = some C ∧ X.mg x = some (.ref C) ∧ ExcBaseFacts B newId initId bmB ∧ PySem.W.excIn X.K C bmB newId = true ∧ PySem.W.keepIn X.K (.ref C) = true ∧ Raises X (.ref C)
theorem is_rse {c : Nat} {x m : Str} {j : Nat} {p p2 p3 : Pos} (hc : X.calm = true) (tk : Takes X W) (f : ClsF X G x c) (hg : Gl X x) (hdb : (x == ("__debug__" : Str)) = false) :
    PS X (.Raise (some (.Call (.Name x p) [.Constant (.str m) j p2] [] p3)) none pos) (tS G W fun σ h => .er ⟨c, none⟩ σ h) := by
  obtain ⟨C, B, newId, initId, bmB, hC, hm, hF, hq, hk, hr⟩ := f.ex
  exact (ps_raise hc tk (pmk_own hF hq hm hk hr hg hdb)).imp fun D τ H ⟨Av, s, σ, hH, rp, sr, p⟩ => by
    subst hH
    exact p s (.ref C) none τ rfl rp (Stp.refl _) sr ⟨C, hC, rfl, fun _ => rfl⟩
/-- two names, two values -/
theorem swapped2 {env : Env} {x y : Str} {px py pt pt2 : Pos} {kt k2 : Nat} {a b : Expr} (hk : env.blockKind = .function) (hx : env.kindOf x = some .local) (hy : env.kindOf y = some .local) (hl : (py.line == px.line) = true) (hxy : (x == y) = false)
    (ha : plainE a = true) (hb : plainE b = true) (hf : (foldedForSure 8 a && foldedForSure 8 b) = false) (hcc : (constantsAlone 8 a && constantsAlone 8 b) = false) :
    swappedStores [.Tuple [.Name x px, .Name y py] kt pt] (.Tuple [a, b] k2 pt2) env = pure (some [x, y]) := by
  have s1 : ([a, b].any fun | .Starred .. => true | _ => false) = false := by
    cases a <;> first | (cases ha; done) | (cases b <;> first | (cases hb; done) | rfl)
  have hyx : (y == x) = false := by
    cases h : y == x with
    | false => rfl
    | true =>
      have := eq_of_beq h
      subst this
      simp at hxy
  unfold swappedStores
  have f1 : [a, b].all (foldedForSure 8) = false := by
    show (foldedForSure 8 a && (foldedForSure 8 b && true)) = false
    rw [Bool.and_true]; exact hf
  have f2 : [a, b].all (constantsAlone 8) = false := by
    show (constantsAlone 8 a && (constantsAlone 8 b && true)) = false
    rw [Bool.and_true]; exact hcc
  have l0 : (([Expr.Name x px, Expr.Name y py].head?.map (·.pos.line)).getD 0) = px.line := rfl
  have e2 : ([x, y].eraseDups.length != [x, y].length) = false := by
    simp [List.eraseDups_cons, hyx]
  simp only [l0, List.filterMap, hx, hy, hl, beq_self_eq_true, Bool.and_self, if_true, hk, bne_self_eq_false, Bool.or_false, s1, e2, f1, f2, Bool.false_eq_true, if_false]
  refine (if_neg (by simp)).trans ((if_neg fun z => ?_).trans (if_neg (by simp)))
  cases a <;> first | (cases ha; done) | (cases b <;> first | (cases hb; done) | (cases z; done))
end
end Ip

set_option linter.all false
set_option Elab.async false
set_option autoImplicit false
set_option maxRecDepth 100000
/-! The look at a text: that an expression of the evaluator is the text's. -/
namespace Ip
open PySem L2 PyProof.Rows

/-- the names around -/
structure Sc where
  N : List Str
  names : List (Str × NameKind)
  defs : List (Str × Nat)
  cls : List (Str × Nat)
  fn : Str → Bool

section
variable (S : Sc)
def slotOk (i : Nat) (x : Str) : Bool := decide (S.N[i]? = some x)
def visOk (x : Str) : Bool := decide (S.names.lookup x = some .local) || decide (S.names.lookup x = some .cell) || decide (S.names.lookup x = some .free)
def glOk (x : Str) : Bool := decide (S.names.lookup x = some .globalImplicit)
def dbg (x : Str) : Bool := !(x == ("__debug__" : Str)) && !(x == ("__classdict__" : Str))
def kLit : D → Const → Bool
  | .none, .none => true
  | .bool a, .bool b => decide (a = b)
  | .int a, .int b => decide (a = b)
  | .str a, .str b => decide (a = b)
  | _, _ => false
def nmP : Prm → Str
  | .len => "len"
  | .abs => "abs"
  | .int => "int"
  | .str => "str"
  | .repr => "repr"
  | .sum => "sum"
  | .max1 => "max"
  | .min1 => "min"
  | .max2 => "max"
  | .min2 => "min"
  | .all => "all"
  | .any => "any"
/-- the built-ins' names that are used -/
def bltN : List Str := ["len", "abs", "int", "str", "repr", "sum", "max", "min", "all", "any", "range", "zip"]
/-- a name that is stored -/
def stoOk (i : Nat) (x : Str) : Bool := slotOk S i x && (decide (S.names.lookup x = some .local) || (decide (S.names.lookup x = some .cell) && S.fn x))
def kNs : List Nat → List Expr → Bool
  | [], [] => true
  | i :: is, .Name x _ :: es => stoOk S i x && kNs is es
  | _, _ => false
def kG : Tgt → Expr → Bool
  | .nm i, .Name x _ => stoOk S i x
  | .tp is, .Tuple es _ _ => kNs S is es
  | _, _ => false
def ownN (own : List Nat) : List (Str × Nat) := own.map fun i => ((S.N[i]?).getD Str.empty, i)
def blkC (scope : Scope) (own : List Nat) : Bool :=
  decide (scope.kind = .function) && scope.names.all (fun y => decide (scope.names.lookup y.1 = some y.2)) && own.all (fun i => decide (i < S.N.length)) &&
    scope.names.all (fun y => !decide (y.2 = .free) || (decide (S.names.lookup y.1 = some .cell) || decide (S.names.lookup y.1 = some .free))) &&
    scope.names.all (fun y => !(decide (y.2 = .local) || decide (y.2 = .cell)) || (decide (y.1 ∈ (ownN S own).map (·.1)) || decide (y.1 ∉ S.N)))
/-- the names within a comprehension -/
def inN (scope : Scope) : Sc := { S with
  names := scope.names.map fun (n, k) => if (k == .free && S.names.lookup n == some .cell) then (n, .cell) else (n, k)
  fn := fun x => scope.names.lookup x == some .cell }
end

mutual
def kE : Nat → Sc → Ex → Expr → Bool
  | 0, _, _, _ => false
  | n + 1, S, x, e => match x, e with
    | .frz a, e => kE n S a e
    | .nev, e => true
    | .ofL l, e => kL n S l e
    | .new l, e => kL n S l e
    | .lit x, .Constant c _ _ => kLit x c
    | .var i, .Name x _ => slotOk S i x && visOk S x && dbg x
    | .fnv f, .Name x _ => decide (S.defs.lookup x = some f) && glOk S x && dbg x
    | .bin o a b, .BinOp ea op eb _ => decide (op = opOf o) && kE n S a ea && kE n S b eb
    | .neg a, .UnaryOp .USub ea _ => kE n S a ea
    | .not_ a, .UnaryOp .Not ea _ => kE n S a ea
    | .cmp o a b, .Compare ea [op] [eb] _ => decide (op = copOf o) && kE n S a ea && kE n S b eb && plainE eb
    | .chn o o' a b c, .Compare ea [op, op'] [eb, ec] _ => decide (op = copOf o) && decide (op' = copOf o') && kE n S a ea && kE n S b eb && kE n S c ec && plainE ec
    | .and_ a b, .BoolOp .And es _ => kVa n S (.and_ a b) es
    | .or_ a b, .BoolOp .Or es _ => kVo n S (.or_ a b) es
    | .ife c a b, .IfExp ec ea eb _ => kT n S c ec && kE n S a ea && kE n S b eb
    | .tup xs, .Tuple es _ _ => kEs n S xs es && decide (xs.length ≤ 1000)
    | .slc a lo hi, .Subscript ea (.Slice el eh none _) _ => kE n S a ea && kO n S lo el && kO n S hi eh
    | .ix a b, .Subscript ea eb _ => plainE eb && kE n S a ea && kE n S b eb
    | .call f xs, .Call (.Name x _) es [] _ => decide (S.defs.lookup x = some f) && glOk S x && dbg x && kEs n S xs es
    | .prm p (x :: xs), .Call (.Name nm _) (e :: es) [] _ => decide (nm = nmP p) && glOk S nm && kEs n S (x :: xs) (e :: es)
    | .app o a, .Call (.Attribute eo at_ ap) [ea] [] pos => decide (at_ = ("append" : Str)) && notCall eo && (ap.endLine == pos.line) && plainE ea && kE n S o eo && kE n S a ea
    | .fmt a, .FormattedValue ea c none _ => decide (c = -1) && kE n S a ea
    | .fmt a, .JoinedStr [.FormattedValue ea c none _] _ => decide (c = -1) && kE n S a ea
    | .fst xs, .JoinedStr (e1 :: e2 :: es) _ => kEs n S xs (e1 :: e2 :: es)
    | _, _ => false
/-- as a test -/
def kT : Nat → Sc → Ex → Expr → Bool
  | 0, _, _, _ => false
  | n + 1, S, x, e => match x, e with
    | .not_ a, .UnaryOp .Not ea _ => kT n S a ea
    | .cmp o a b, .Compare ea [op] [eb] _ => decide (op = copOf o) && kE n S a ea && kE n S b eb && plainE eb
    | .chn o o' a b c, .Compare ea [op, op'] [eb, ec] _ => decide (op = copOf o) && decide (op' = copOf o') && kE n S a ea && kE n S b eb && kE n S c ec && plainE ec
    | .and_ a b, .BoolOp .And es _ => kTa n S (.and_ a b) es
    | .or_ a b, .BoolOp .Or es _ => kTo n S (.or_ a b) es
    | .ife c a b, .IfExp ec ea eb _ => kT n S c ec && kT n S a ea && kT n S b eb
    | x, e => plainT e && kE n S x e
def kVa : Nat → Sc → Ex → List Expr → Bool
  | 0, _, _, _ => false
  | n + 1, S, x, es => match x, es with
    | .and_ a b, e :: e' :: r => kE n S a e && kVa n S b (e' :: r)
    | x, [e] => kE n S x e
    | _, _ => false
def kVo : Nat → Sc → Ex → List Expr → Bool
  | 0, _, _, _ => false
  | n + 1, S, x, es => match x, es with
    | .or_ a b, e :: e' :: r => kE n S a e && kVo n S b (e' :: r)
    | x, [e] => kE n S x e
    | _, _ => false
def kTa : Nat → Sc → Ex → List Expr → Bool
  | 0, _, _, _ => false
  | n + 1, S, x, es => match x, es with
    | .and_ a b, e :: e' :: r => kT n S a e && kTa n S b (e' :: r)
    | x, [e] => kT n S x e
    | _, _ => false
def kTo : Nat → Sc → Ex → List Expr → Bool
  | 0, _, _, _ => false
  | n + 1, S, x, es => match x, es with
    | .or_ a b, e :: e' :: r => kT n S a e && kTo n S b (e' :: r)
    | x, [e] => kT n S x e
    | _, _ => false
def kEs : Nat → Sc → List Ex → List Expr → Bool
  | 0, _, _, _ => false
  | n + 1, S, xs, es => match xs, es with
    | [], [] => true
    | x :: xs, e :: es => plainE e && kE n S x e && kEs n S xs es
    | _, _ => false
def kL : Nat → Sc → Lx → Expr → Bool
  | 0, _, _, _ => false
  | n + 1, S, l, e => match l, e with
    | .dsp xs, .List es _ => kEs n S xs es
    | .cmp own t s ifs x, .ListComp elt [⟨tg, iter, ifs', k⟩] scope _ => decide (k = 0) && plainE iter && kS n S s tg iter && blkC S scope own && (tgs t).all (fun i => decide (i ∈ own)) && kG (inN S scope) t tg && kI n (inN S scope) ifs ifs' && kE n (inN S scope) x elt
    | _, _ => false
def kS : Nat → Sc → Sx → Expr → Expr → Bool
  | 0, _, _, _, _ => false
  | n + 1, S, s, tg, e => match s, tg, e with
    | .val a, _, e => kE n S a e
    | .rng a, _, .Call (.Name x _) [ea] [] _ => decide (x = ("range" : Str)) && glOk S x && plainE ea && kE n S a ea
    | .rng2 a b, _, .Call (.Name x _) [ea, eb] [] _ => decide (x = ("range" : Str)) && glOk S x && plainE ea && plainE eb && kE n S a ea && kE n S b eb
    | .zip a b, .Tuple _ _ _, .Call (.Name x _) [ea, eb] [] _ => decide (x = ("zip" : Str)) && glOk S x && plainE ea && plainE eb && kE n S a ea && kE n S b eb
    | _, _, _ => false
def kI : Nat → Sc → List Ex → List Expr → Bool
  | 0, _, _, _ => false
  | n + 1, S, xs, es => match xs, es with
    | [], [] => true
    | [c], [e] => kT n S c e
    | _, _ => false
def kO : Nat → Sc → Option Ex → Option Expr → Bool
  | 0, _, _, _ => false
  | n + 1, S, x, e => match x, e with
    | none, none => true
    | some x, some e => kE n S x e
    | _, _ => false
end

/-- what holds of a def that is called -/
def FnFact (T : List Fn) (F k : Nat) (G : Gb) (X : Cx) (x : Str) (f : Nat) : Prop := ∃ (a : Addr) (fd : FuncData) (ps : List Str) (fn : Fn), X.mg x = some (.ref a) ∧ G.fa[f]? = some a ∧ PySem.W.keepIn X.K (.ref a) = true ∧ T[f]? = some fn ∧
  ∀ (j : Nat), k = j + 1 → Binds X.K fd ps [] ∧ ∃ q, RoomG q X.A ∧ FnG X.prog X.w X.K X.mg X.base q a fd ps (spFn G F (orcs T F j) fn)
/-- where an expression of the text stands -/
structure Cok (T : List Fn) (F k : Nat) (S : Sc) (G : Gb) (W : WX) (X : Cx) : Prop where
  hN : X.N = S.N
  nd : S.N.Nodup
  nm : X.env.scope.names = S.names
  kind : X.env.scope.kind = .function
  calm : Calm X
  hK : G.K = X.K
  blt : ∀ x ∈ bltN, X.mg x = none
  fns : ∀ x f, S.defs.lookup x = some f → FnFact T F k G X x f
  pas : Passing X W
  hf : ∀ x, S.fn x = true → X.fn x = true

section
variable {T : List Fn} {F k : Nat} {S : Sc} {G : Gb} {W : WX} {X : Cx}
theorem Cok.gl (c : Cok T F k S G W X) {x : Str} (h : glOk S x = true) : Gl X x := by
  unfold glOk at h
  show X.env.scope.names.lookup x = _
  rw [c.nm]
  exact of_decide_eq_true h
theorem dbg1 {x : Str} (h : dbg x = true) : (x == ("__debug__" : Str)) = false := by
  unfold dbg at h
  simp only [Bool.and_eq_true, Bool.not_eq_true'] at h
  exact h.1
theorem dbg2 {x : Str} (h : dbg x = true) : (x == ("__classdict__" : Str)) = false := by
  unfold dbg at h
  simp only [Bool.and_eq_true, Bool.not_eq_true'] at h
  exact h.2
theorem Cok.vis (c : Cok T F k S G W X) {x : Str} (h : visOk S x = true) : Vis X.env.scope x := by
  unfold visOk at h
  unfold Vis
  rw [c.nm]
  simp only [Bool.or_eq_true, decide_eq_true_eq] at h
  rcases h with (h | h) | h
  · exact .inl h
  · exact .inr (.inl h)
  · exact .inr (.inr h)
theorem Cok.slot (c : Cok T F k S G W X) {i : Nat} {x : Str} (h : slotOk S i x = true) : X.N[i]? = some x := by
  rw [c.hN]; exact of_decide_eq_true h
theorem Cok.sto (c : Cok T F k S G W X) {i : Nat} {x : Str} {pos : Pos} (h : stoOk S i x = true) : PG X (.Name x pos) (gName i) := by
  unfold stoOk at h
  simp only [Bool.and_eq_true, Bool.or_eq_true, decide_eq_true_eq] at h
  refine pg_name (by rw [c.hN]; exact c.nd) (c.slot h.1) ?_ ?_
  · unfold L2.Loc
    rw [c.nm]
    rcases h.2 with q | q
    · exact .inl q
    · exact .inr q.1
  · rcases h.2 with q | q
    · right
      rw [c.nm]; exact q
    · exact .inl (c.hf x q.2)
theorem kNs_ok (c : Cok T F k S G W X) : ∀ {is : List Nat} {es : List Expr}, kNs S is es = true → PGs X es (gNames is) ∧ (assignEach es X.env).length = is.length ∧ (assignEach es X.env).findIdx? (·.1) = none
  | [], [], _ => ⟨pgs_nil, rfl, rfl⟩
  | i :: is, .Name x p :: es, h => by
    unfold kNs at h
    simp only [Bool.and_eq_true] at h
    obtain ⟨h1, h2, h3⟩ := kNs_ok c h.2
    have e : assignEach (.Name x p :: es) X.env = (false, assign (.Name x p) X.env) :: assignEach es X.env := rfl
    refine ⟨pgs_cons (c.sto h.1) h1 rfl, ?_, ?_⟩
    · rw [e, List.length_cons, h2]; rfl
    · rw [e, List.findIdx?_cons, h3]; rfl
  | [], _ :: _, h => by simp [kNs] at h
  | _ :: _, [], h => by simp [kNs] at h
theorem kG_ok (c : Cok T F k S G W X) {t : Tgt} {tg : Expr} (h : kG S t tg = true) : PG X tg (tG G t) := by
  unfold kG at h
  split at h
  · exact ig_nm (c.sto h)
  · obtain ⟨h1, h2, h3⟩ := kNs_ok c h
    exact ig_tp c.hK (pg_tup c.calm.calm h1 h2 h3) (pg_unl c.calm.calm h1 h2 h3)
  · cases h
end
end Ip

set_option linter.all false
set_option Elab.async false
set_option autoImplicit false
set_option maxRecDepth 100000
/-! The look is right: expressions. -/
namespace Ip
open PySem L2 PyProof.Rows

section
variable {T : List Fn} {F k : Nat} {S : Sc} {G : Gb} {W : WX} {X : Cx}
theorem Cok.blk (c : Cok T F k S G W X) {scope : Scope} {own : List Nat} (hb : blkC S scope own = true) (s : Shared) (H : Hp) (C : Addr) (cl : List (Str × Addr)) (fp : List Addr) :
    Cok T F k (inN S scope) G W0 (X.blk s H scope (compEnvC scope cl C X.env) fp) := by
  unfold blkC at hb
  simp only [Bool.and_eq_true, decide_eq_true_eq] at hb
  refine ⟨c.hN, c.nd, ?_, hb.1.1.1.1, ⟨c.calm.calm, c.calm.un, c.calm.gd⟩, c.hK, c.blt, c.fns, Passing.never, fun x h => h⟩
  show (relabel scope X.env).names = (inN S scope).names
  unfold relabel inN
  have hk : (X.env.scope.kind == ScopeKind.function) = true := by rw [c.kind]; rfl
  have hn : ∀ n : Str, X.env.kindOf n = S.names.lookup n := fun n => by show X.env.scope.names.lookup n = _; rw [c.nm]
  simp only [hk, hn, Bool.and_true]
theorem blk_ok (c : Cok T F k S G W X) {scope : Scope} {own : List Nat} (hb : blkC S scope own = true) : BlkOk X.N X.env.scope scope (ownN S own) := by
  unfold blkC at hb
  simp only [Bool.and_eq_true, decide_eq_true_eq, List.all_eq_true, Bool.or_eq_true, Bool.not_eq_true', decide_eq_false_iff_not, Bool.or_eq_false_iff] at hb
  obtain ⟨⟨⟨⟨h1, h2⟩, h3⟩, h4⟩, h5⟩ := hb
  refine ⟨h1, h2, fun p hp => ?_, fun y hy hf => ?_, fun y hy hl => ?_⟩
  · obtain ⟨i, hi, rfl⟩ := List.mem_map.mp hp
    rw [c.hN]
    have := List.getElem?_eq_getElem (h3 i hi)
    show S.N[i]? = some ((S.N[i]?).getD Str.empty)
    rw [this]; rfl
  · rw [c.nm]
    rcases h4 y hy with q | q
    · exact absurd hf q
    · exact q
  · rcases h5 y hy with q | q
    · exact absurd hl (by rcases hl with hl | hl <;> simp [hl] at q)
    · rw [c.hN]; exact q
theorem ownN_snd (own : List Nat) : (ownN S own).map (·.2) = own := by
  unfold ownN
  rw [List.map_map]
  exact List.map_id _

/-- what the look tells, at n steps -/
structure Snd (T : List Fn) (F k n : Nat) : Prop where
  e : ∀ {S : Sc} {G : Gb} {W : WX} {X : Cx} {x : Ex} {e : Expr}, Cok T F k S G W X → kE n S x e = true → PE X e (tE G W (ev F (orcs T F k) x))
  t : ∀ {S : Sc} {G : Gb} {W : WX} {X : Cx} {x : Ex} {e : Expr}, Cok T F k S G W X → kT n S x e = true → PT X e (tT G W (tst (ev F (orcs T F k) x)))
  va : ∀ {S : Sc} {G : Gb} {W : WX} {X : Cx} {x : Ex} {es : List Expr} {pos : Pos}, Cok T F k S G W X → kVa n S x es = true → PE X (.BoolOp .And es pos) (tE G W (ev F (orcs T F k) x))
  vo : ∀ {S : Sc} {G : Gb} {W : WX} {X : Cx} {x : Ex} {es : List Expr} {pos : Pos}, Cok T F k S G W X → kVo n S x es = true → PE X (.BoolOp .Or es pos) (tE G W (ev F (orcs T F k) x))
  ta : ∀ {S : Sc} {G : Gb} {W : WX} {X : Cx} {x : Ex} {es : List Expr} {pos : Pos}, Cok T F k S G W X → kTa n S x es = true → PW X (.BoolOp .And es pos) (tT G W (tst (ev F (orcs T F k) x)))
  to : ∀ {S : Sc} {G : Gb} {W : WX} {X : Cx} {x : Ex} {es : List Expr} {pos : Pos}, Cok T F k S G W X → kTo n S x es = true → PW X (.BoolOp .Or es pos) (tT G W (tst (ev F (orcs T F k) x)))
  es : ∀ {S : Sc} {G : Gb} {W : WX} {X : Cx} {xs : List Ex} {es : List Expr}, Cok T F k S G W X → kEs n S xs es = true → PA X es (tA G W (evs F (orcs T F k) xs)) ∧ plains es = true ∧ PJ X es (xs.map fun x => tE G W (ev F (orcs T F k) x)) ∧ xs.length = es.length
  l : ∀ {S : Sc} {G : Gb} {W : WX} {X : Cx} {x : Lx} {e : Expr}, Cok T F k S G W X → kL n S x e = true → PE X e (tL G W (evL F (orcs T F k) x))
  s : ∀ {S : Sc} {G : Gb} {W : WX} {X : Cx} {x : Sx} {tg e : Expr}, Cok T F k S G W X → kS n S x tg e = true → PI X tg e (tI G W (evS F (orcs T F k) x))
  i : ∀ {S : Sc} {G : Gb} {W : WX} {X : Cx} {xs : List Ex} {es : List Expr}, Cok T F k S G W X → kI n S xs es = true → PTs X es (tT G W (evI F (orcs T F k) xs))
  o : ∀ {S : Sc} {G : Gb} {W : WX} {X : Cx} {x : Option Ex} {e : Option Expr}, Cok T F k S G W X → kO n S x e = true → PO X e (tO G W (evO F (orcs T F k) x))
theorem evs_len (F : Nat) (C : List Orc) : ∀ (xs : List Ex) (σ : Sg) (h : Hq) (vs : List Val) (h' : Hq), evs F C xs σ h = .ok vs h' → vs.length = xs.length
  | [], σ, h, vs, h', e => by simp only [evs] at e; cases e; rfl
  | x :: xs, σ, h, vs, h', e => by
    simp only [evs] at e
    cases e1 : ev F C x σ h with
    | no => rw [e1] at e; cases e
    | er a b => rw [e1] at e; cases e
    | ok v h1 =>
      rw [e1] at e
      simp only [R.bind_ok] at e
      cases e2 : evs F C xs σ h1 with
      | no => rw [e2] at e; cases e
      | er a b => rw [e2] at e; cases e
      | ok ws h2 =>
        rw [e2] at e
        cases e
        rw [List.length_cons, List.length_cons, evs_len F C xs _ _ _ _ e2]
theorem kLit_ok {x : D} {c : Const} {j : Nat} {pos : Pos} (h : kLit x c = true) : PE X (.Constant c j pos) (tE G W fun _ h => .ok (.d x) h) := by
  unfold kLit at h
  split at h
  · exact ip_lit pe_non rfl
  · rw [of_decide_eq_true h]; exact ip_lit pe_bl rfl
  · rw [of_decide_eq_true h]; exact ip_lit pe_int rfl
  · rw [of_decide_eq_true h]; exact ip_lit pe_str rfl
  · cases h
theorem prm_ok (c : Cok T F k S G W X) {p : Prm} {e : Expr} {es : List Expr} {px pos : Pos} {ms : Sg → Hq → R (List Val)} (hg : glOk S (nmP p) = true) (ha : PA X (e :: es) (tA G W ms)) (hp : plains (e :: es) = true) :
    PE X (.Call (.Name (nmP p) px) (e :: es) [] pos) (tE G W fun σ h => (ms σ h).bind fun vs h1 => prmV p vs h1) := by
  have hg := c.gl hg
  simp only [plains, Bool.and_eq_true] at hp
  have st := star_cons hp.1 es X.env
  have bk := back_plain pos X.env hp.2
  have z : X.mg (nmP p) = none := c.blt _ (by cases p <;> decide)
  cases p
  · exact ip_prmB c.calm c.hK rfl hg z (by decide +kernel) ha (by decide) (by decide) st bk
  · exact ip_prmB c.calm c.hK rfl hg z (by decide +kernel) ha (by decide) (by decide) st bk
  · exact ip_prmT c.calm c.hK rfl hg z (by decide +kernel) ha (by decide) (by decide) st bk
  · exact ip_prmT c.calm c.hK rfl hg z (by decide +kernel) ha (by decide) (by decide) st bk
  · exact ip_prmB c.calm c.hK rfl hg z (by decide +kernel) ha (by decide) (by decide) st bk
  · exact ip_prmB c.calm c.hK rfl hg z (by decide +kernel) ha (by decide) (by decide) st bk
  · exact ip_prmB c.calm c.hK rfl hg z (by decide +kernel) ha (by decide) (by decide) st bk
  · exact ip_prmB c.calm c.hK rfl hg z (by decide +kernel) ha (by decide) (by decide) st bk
  · exact ip_prmB c.calm c.hK rfl hg z (by decide +kernel) ha (by decide) (by decide) st bk
  · exact ip_prmB c.calm c.hK rfl hg z (by decide +kernel) ha (by decide) (by decide) st bk
  · exact ip_prmB c.calm c.hK rfl hg z (by decide +kernel) ha (by decide) (by decide) st bk
  · exact ip_prmB c.calm c.hK rfl hg z (by decide +kernel) ha (by decide) (by decide) st bk
theorem call_ok' (c : Cok T F k S G W X) {f : Nat} {x : Str} {es : List Expr} {px pos : Pos} {xs : List Ex} (hd : S.defs.lookup x = some f) (hg : glOk S x = true) (hb : dbg x = true) (ha : PA X es (tA G W (evs F (orcs T F k) xs))) (hp : plains es = true) (hl : xs.length = es.length) :
    PE X (.Call (.Name x px) es [] pos) (tE G W (ev F (orcs T F k) (.call f xs))) := by
  obtain ⟨a, fd, ps, fn, hm, hfa, hk, hT, hF⟩ := c.fns x f hd
  cases k with
  | zero => exact ie_nev.cong fun σ h => by simp only [ev, orcs]
  | succ j =>
    obtain ⟨hB, q, hr, hG⟩ := hF j rfl
    have key : ∀ {t : TA}, (∀ τ H Q, tA G W (evs F (orcs T F (j + 1)) xs) τ H Q → t τ H Q) → ∀ τ H Q, tE G W (ev F (orcs T F (j + 1)) (.call f xs)) τ H Q → tCallS (spFn G F (orcs T F j) fn) (WE W) t τ H Q := fun {t} ht τ H Q h => by
      refine call_imp ht τ H Q ?_
      have e : (ev F (orcs T F (j + 1)) (.call f xs)) = fun σ h => (evs F (orcs T F (j + 1)) xs σ h).bind fun vs h1 => callR F (orcs T F j) fn vs h1 := by
        funext σ h
        have e2 : orcs T F (j + 1) = (fun f vs h => match T[f]? with
          | some fn => callR F (orcs T F j) fn vs h
          | none => .no) :: orcs T F j := rfl
        rw [e2]
        simp only [ev, hT]
      rw [← e]; exact h
    cases es with
    | nil =>
      cases xs with
      | cons _ _ => cases hl
      | nil =>
        refine (pe_callG0 hG hr (c.gl hg) hm hk hB c.pas (dbg1 hb)).imp (key fun τ H Q ⟨Av, s, σ, hH, rp, sr, p⟩ => ?_)
        subst hH
        simp only [evs] at p
        exact p s [] rfl rp (Stp.refl _) .nil
    | cons e es =>
      simp only [plains, Bool.and_eq_true] at hp
      exact (pe_callG hG hr (c.gl hg) hm hk hB c.pas ha (dbg1 hb) (star_cons hp.1 es X.env) (back_plain pos X.env hp.2)).imp (key fun _ _ _ h => h)
end
end Ip

set_option linter.all false
set_option Elab.async false
set_option autoImplicit false
set_option maxRecDepth 100000
/-! The look is right: the steps. -/
namespace Ip
open PySem L2 PyProof.Rows
section
variable {T : List Fn} {F k : Nat} {S : Sc} {G : Gb} {W : WX} {X : Cx}
theorem _root_.L2.PA.cong {a : List Expr} {m m' : Sg → Hq → R (List Val)} (h : PA X a (tA G W m)) (e : ∀ σ h, m σ h = m' σ h) : PA X a (tA G W m') := by
  have : m = m' := by funext σ h; exact e σ h
  rw [← this]; exact h
theorem _root_.L2.PO.cong {a : Option Expr} {m m' : Sg → Hq → R (Option Int)} (h : PO X a (tO G W m)) (e : ∀ σ h, m σ h = m' σ h) : PO X a (tO G W m') := by
  have : m = m' := by funext σ h; exact e σ h
  rw [← this]; exact h
theorem _root_.L2.PI.cong {tg a : Expr} {m m' : Sg → Hq → R Sv} (h : PI X tg a (tI G W m)) (e : ∀ σ h, m σ h = m' σ h) : PI X tg a (tI G W m') := by
  have : m = m' := by funext σ h; exact e σ h
  rw [← this]; exact h
theorem _root_.L2.PTs.cong {a : List Expr} {m m' : Sg → Hq → R Bool} (h : PTs X a (tT G W m)) (e : ∀ σ h, m σ h = m' σ h) : PTs X a (tT G W m') := by
  have : m = m' := by funext σ h; exact e σ h
  rw [← this]; exact h
theorem snd_e {n : Nat} (ih : Snd T F k n) {x : Ex} {e : Expr} (c : Cok T F k S G W X) (h : kE (n + 1) S x e = true) : PE X e (tE G W (ev F (orcs T F k) x)) := by
  have hu : X.A.units + 64 < cLine := c.calm.un
  rw [kE.eq_def] at h
  simp only at h
  split at h
  · exact (ip_frz (ih.e c h)).cong fun σ h => by simp only [ev]
  · exact ie_nev.cong fun σ h => by simp only [ev]
  · exact (ip_ofL (ih.l c h)).cong fun σ h => by simp only [ev]
  · exact (ip_new (ih.l c h)).cong fun σ h => by simp only [ev]
  · exact (kLit_ok h).cong fun σ h => by simp only [ev]
  · simp only [Bool.and_eq_true] at h
    exact (ip_var (pe_var (c.slot h.1.1) (c.vis h.1.2) (dbg1 h.2) (dbg2 h.2))).cong fun σ h => by simp only [ev] <;> rfl
  · simp only [Bool.and_eq_true, decide_eq_true_eq] at h
    obtain ⟨a, fd, ps, fn, hm, hfa, _⟩ := c.fns _ _ h.1.1
    exact (ip_fnv (pe_glob (v := .ref a) (c.gl h.1.2) hm rfl (dbg1 h.2)) hfa).cong fun σ h => by simp only [ev]
  · simp only [Bool.and_eq_true, decide_eq_true_eq] at h
    rw [h.1.1]
    exact (ip_bin _ (ih.e c h.1.2) (ih.e c h.2)).cong fun σ h => by simp only [ev]
  · exact (ip_neg (ih.e c h)).cong fun σ h => by simp only [ev] <;> rfl
  · exact (ip_not c.hK (ih.e c h)).cong fun σ h => by simp only [ev]
  · simp only [Bool.and_eq_true, decide_eq_true_eq] at h
    rw [h.1.1.1]
    exact (ip_cmp _ c.hK hu (ih.e c h.1.1.2) (ih.e c h.1.2) (behind_of h.2 _)).cong fun σ h => by simp only [ev]
  · simp only [Bool.and_eq_true, decide_eq_true_eq] at h
    rw [h.1.1.1.1.1, h.1.1.1.1.2]
    exact (ip_chn _ _ c.hK hu (ih.e c h.1.1.1.2) (ih.e c h.1.1.2) (ih.e c h.1.2) (behind_of h.2 _)).cong fun σ h => by simp only [ev]
  · exact ih.va c h
  · exact ih.vo c h
  · simp only [Bool.and_eq_true, decide_eq_true_eq] at h
    exact (ip_ife (ih.t c h.1.1) (ih.e c h.1.2) (ih.e c h.2)).cong fun σ h => by simp only [ev]
  · simp only [Bool.and_eq_true, decide_eq_true_eq] at h
    refine (ip_tup (ih.es c h.1).1 fun σ h0 vs h' e => ?_).cong fun σ h => by simp only [ev]
    have := evs_len _ _ _ _ _ _ _ e
    have := h.2
    omega
  · simp only [Bool.and_eq_true, decide_eq_true_eq] at h
    exact (ip_slc c.hK (ih.e c h.1.1) (ih.o c h.1.2) (ih.o c h.2)).cong fun σ h => by simp only [ev]
  · simp only [Bool.and_eq_true, decide_eq_true_eq] at h
    exact (ip_ix c.hK (ih.e c h.1.2) (ih.e c h.2) (plainIx_of h.1.1)).cong fun σ h => by simp only [ev]
  · simp only [Bool.and_eq_true, decide_eq_true_eq] at h
    obtain ⟨h1, h2, _, h3⟩ := ih.es c h.2
    exact call_ok' c h.1.1.1 h.1.1.2 h.1.2 h1 h2 h3
  · simp only [Bool.and_eq_true, decide_eq_true_eq] at h
    obtain ⟨h1, h2, _, h3⟩ := ih.es c h.2
    have hg := h.1.2
    rw [h.1.1] at hg ⊢
    exact (prm_ok c hg h1 h2).cong fun σ h => by simp only [ev]
  · simp only [Bool.and_eq_true, decide_eq_true_eq] at h
    rw [h.1.1.1.1.1]
    exact (ip_app c.hK (ih.e c h.1.2) (ih.e c h.2) (base_of h.1.1.1.1.2 _ _ _) (star_cons h.1.1.2 [] X.env) h.1.1.1.2).cong fun σ h => by simp only [ev]
  · simp only [Bool.and_eq_true, decide_eq_true_eq] at h
    rw [h.1]
    exact (ip_fmt (ih.e c h.2)).cong fun σ h => by simp only [ev] <;> rfl
  · simp only [Bool.and_eq_true, decide_eq_true_eq] at h
    rw [h.1]
    exact (pe_joined1 (ip_fmt (ih.e c h.2))).cong fun σ h => by simp only [ev] <;> rfl
  · exact (ip_fst (ih.es c h).2.2.1).cong fun σ h => by simp only [ev]
  · cases h
theorem snd_t {n : Nat} (ih : Snd T F k n) {x : Ex} {e : Expr} (c : Cok T F k S G W X) (h : kT (n + 1) S x e = true) : PT X e (tT G W (tst (ev F (orcs T F k) x))) := by
  have hu : X.A.units + 64 < cLine := c.calm.un
  rw [kT.eq_def] at h
  simp only at h
  split at h
  · exact (ip_notT (ih.t c h)).cong fun σ h => by simp only [tst, ev]
  · simp only [Bool.and_eq_true, decide_eq_true_eq] at h
    rw [h.1.1.1]
    exact (ip_cmpT' _ c.hK hu (ih.e c h.1.1.2) (ih.e c h.1.2) (behind_of h.2 _)).cong fun σ h => by simp only [tst, ev]
  · simp only [Bool.and_eq_true, decide_eq_true_eq] at h
    rw [h.1.1.1.1.1, h.1.1.1.1.2]
    exact (ip_chnT _ _ c.hK hu (ih.e c h.1.1.1.2) (ih.e c h.1.1.2) (ih.e c h.1.2) (behind_of h.2 _)).cong fun σ h => by simp only [tst, ev]
  · exact (ih.ta c h).pt
  · exact (ih.to c h).pt
  · simp only [Bool.and_eq_true, decide_eq_true_eq] at h
    exact (ip_ifeT (ih.t c h.1.1) (ih.t c h.1.2) (ih.t c h.2)).cong fun σ h => by simp only [tst, ev]
  · simp only [Bool.and_eq_true] at h
    exact ip_tst c.hK (ih.e c h.2) (isTrue_plain h.1 _)
theorem snd_va {n : Nat} (ih : Snd T F k n) {x : Ex} {es : List Expr} {pos : Pos} (c : Cok T F k S G W X) (h : kVa (n + 1) S x es = true) : PE X (.BoolOp .And es pos) (tE G W (ev F (orcs T F k) x)) := by
  rw [kVa.eq_def] at h
  simp only at h
  split at h
  · simp only [Bool.and_eq_true] at h
    exact (ip_and c.hK (ih.e c h.1) (ih.va c h.2)).cong fun σ h => by simp only [ev]
  · exact ip_and1 (ih.e c h)
  · cases h
theorem snd_vo {n : Nat} (ih : Snd T F k n) {x : Ex} {es : List Expr} {pos : Pos} (c : Cok T F k S G W X) (h : kVo (n + 1) S x es = true) : PE X (.BoolOp .Or es pos) (tE G W (ev F (orcs T F k) x)) := by
  rw [kVo.eq_def] at h
  simp only at h
  split at h
  · simp only [Bool.and_eq_true] at h
    exact (ip_or c.hK (ih.e c h.1) (ih.vo c h.2)).cong fun σ h => by simp only [ev]
  · exact ip_and1 (ih.e c h)
  · cases h
theorem snd_ta {n : Nat} (ih : Snd T F k n) {x : Ex} {es : List Expr} {pos : Pos} (c : Cok T F k S G W X) (h : kTa (n + 1) S x es = true) : PW X (.BoolOp .And es pos) (tT G W (tst (ev F (orcs T F k) x))) := by
  rw [kTa.eq_def] at h
  simp only at h
  split at h
  · simp only [Bool.and_eq_true] at h
    exact (ip_andT (ih.t c h.1) (ih.ta c h.2)).cong fun σ h => by simp only [tst, ev]
  · exact ip_andT1 (ih.t c h)
  · cases h
theorem snd_to {n : Nat} (ih : Snd T F k n) {x : Ex} {es : List Expr} {pos : Pos} (c : Cok T F k S G W X) (h : kTo (n + 1) S x es = true) : PW X (.BoolOp .Or es pos) (tT G W (tst (ev F (orcs T F k) x))) := by
  rw [kTo.eq_def] at h
  simp only at h
  split at h
  · simp only [Bool.and_eq_true] at h
    exact (ip_orT (ih.t c h.1) (ih.to c h.2)).cong fun σ h => by simp only [tst, ev]
  · exact ip_orT1 (ih.t c h)
  · cases h
theorem snd_es {n : Nat} (ih : Snd T F k n) {xs : List Ex} {es : List Expr} (c : Cok T F k S G W X) (h : kEs (n + 1) S xs es = true) :
    PA X es (tA G W (evs F (orcs T F k) xs)) ∧ plains es = true ∧ PJ X es (xs.map fun x => tE G W (ev F (orcs T F k) x)) ∧ xs.length = es.length := by
  rw [kEs.eq_def] at h
  simp only at h
  split at h
  · refine ⟨ia_nil.cong fun σ h => by simp only [evs], rfl, .nil, rfl⟩
  · simp only [Bool.and_eq_true] at h
    obtain ⟨h1, h2, h3, h4⟩ := ih.es c h.2
    refine ⟨(ia_cons (ih.e c h.1.2) h1 (star_cons h.1.1 _ _)).cong fun σ h => by simp only [evs], ?_, .cons (ih.e c h.1.2) h3, by rw [List.length_cons, List.length_cons, h4]⟩
    simp only [plains, Bool.and_eq_true]
    exact ⟨h.1.1, h2⟩
  · cases h
theorem snd_o {n : Nat} (ih : Snd T F k n) {x : Option Ex} {e : Option Expr} (c : Cok T F k S G W X) (h : kO (n + 1) S x e = true) : PO X e (tO G W (evO F (orcs T F k) x)) := by
  rw [kO.eq_def] at h
  simp only at h
  split at h
  · exact io_none.cong fun σ h => by simp only [evO]
  · exact (io_some (ih.e c h)).cong fun σ h => by simp only [evO] <;> rfl
  · cases h
theorem snd_i {n : Nat} (ih : Snd T F k n) {xs : List Ex} {es : List Expr} (c : Cok T F k S G W X) (h : kI (n + 1) S xs es = true) : PTs X es (tT G W (evI F (orcs T F k) xs)) := by
  rw [kI.eq_def] at h
  simp only at h
  split at h
  · exact it_nil.cong fun σ h => by simp only [evI]
  · exact (it_one (ih.t c h)).cong fun σ h => by simp only [evI]
  · cases h
theorem snd_s {n : Nat} (ih : Snd T F k n) {x : Sx} {tg e : Expr} (c : Cok T F k S G W X) (h : kS (n + 1) S x tg e = true) : PI X tg e (tI G W (evS F (orcs T F k) x)) := by
  rw [kS.eq_def] at h
  simp only at h
  split at h
  · exact (ii_val c.hK (ih.e c h)).cong fun σ h => by simp only [evS]
  · simp only [Bool.and_eq_true, decide_eq_true_eq] at h
    have hg := c.gl h.1.1.2
    rw [h.1.1.1] at hg ⊢
    exact (ii_rng hg (c.blt _ (by decide)) (ih.e c h.2) (star_cons h.1.2 [] _)).cong fun σ h => by simp only [evS] <;> rfl
  · simp only [Bool.and_eq_true, decide_eq_true_eq] at h
    have hg := c.gl h.1.1.1.1.2
    rw [h.1.1.1.1.1] at hg ⊢
    exact (ii_rng2 hg (c.blt _ (by decide)) (ih.e c h.1.2) (ih.e c h.2) ((star_cons h.1.1.1.2 _ _).trans (by rw [star_cons h.1.1.2]; rfl)) (star_cons h.1.1.2 [] _)).cong fun σ h => by simp only [evS] <;> rfl
  · simp only [Bool.and_eq_true, decide_eq_true_eq] at h
    have hg := c.gl h.1.1.1.1.2
    rw [h.1.1.1.1.1] at hg ⊢
    exact (ii_zip c.hK hg (c.blt _ (by decide)) (ih.e c h.1.2) (ih.e c h.2) ((star_cons h.1.1.1.2 _ _).trans (by rw [star_cons h.1.1.2]; rfl)) (star_cons h.1.1.2 [] _)).cong fun σ h => by simp only [evS] <;> rfl
  · cases h
theorem snd_l {n : Nat} (ih : Snd T F k n) {x : Lx} {e : Expr} (c : Cok T F k S G W X) (h : kL (n + 1) S x e = true) : PE X e (tL G W (evL F (orcs T F k) x)) := by
  rw [kL.eq_def] at h
  simp only at h
  split at h
  · exact (il_dsp (ih.es c h).1).imp fun τ H Q h => by simpa only [evL] using h
  · rename_i own t s ifs x elt tg iter ifs' kk scope pos
    simp only [Bool.and_eq_true, decide_eq_true_eq, List.all_eq_true] at h
    obtain ⟨⟨⟨⟨⟨⟨⟨h0, h1⟩, h2⟩, h3⟩, h4⟩, h5⟩, h6⟩, h7⟩ := h
    subst h0
    have hN : X.N.Nodup := by rw [c.hN]; exact c.nd
    refine (il_cmp (t := t) (own := ownN S own) c.calm.calm hN (ih.s c h2) (blk_ok c h3) (fun i hi => by rw [ownN_snd]; exact h4 i hi) (fun s H C cl fp => kG_ok (c.blk h3 s H C cl fp) h5)
      (fun s H C cl fp => ih.i (c.blk h3 s H C cl fp) h6) (fun s H C cl fp => ih.e (c.blk h3 s H C cl fp) h7) (folded_of h1 _)).imp fun τ H Q h => ?_
    rw [ownN_snd]
    have e : evL F (orcs T F k) (.cmp own t s ifs x) = cmpM t own (evS F (orcs T F k) s) (evI F (orcs T F k) ifs) (ev F (orcs T F k) x) := by
      funext σ h
      simp only [evL] <;> rfl
    rw [← e]; exact h
  · cases h
theorem snd (T : List Fn) (F k : Nat) : ∀ n, Snd T F k n
  | 0 => ⟨fun _ h => by simp [kE] at h, fun _ h => by simp [kT] at h, fun _ h => by simp [kVa] at h, fun _ h => by simp [kVo] at h, fun _ h => by simp [kTa] at h, fun _ h => by simp [kTo] at h, fun _ h => by simp [kEs] at h, fun _ h => by simp [kL] at h, fun _ h => by simp [kS] at h, fun _ h => by simp [kI] at h, fun _ h => by simp [kO] at h⟩
  | n + 1 => ⟨snd_e (snd T F k n), snd_t (snd T F k n), snd_va (snd T F k n), snd_vo (snd T F k n), snd_ta (snd T F k n), snd_to (snd T F k n), snd_es (snd T F k n), snd_l (snd T F k n), snd_s (snd T F k n), snd_i (snd T F k n), snd_o (snd T F k n)⟩
end
end Ip

set_option linter.all false
set_option Elab.async false
set_option autoImplicit false
set_option maxRecDepth 100000
/-! The look at a text: statements. -/
namespace Ip
open PySem L2 PyProof.Rows

/-- does a comprehension's value go into the name in its own way -/
def swpC (S : Sc) (y : Str) (py : Pos) : Expr → Bool
  | .ListComp elt gs scope pos => (S.names.lookup y == some .local) && (py.line == pos.line) && !(scope.names.any fun (n, k) => n == y && (k == .local || k == .cell))
  | _ => false
def isLC : Expr → Bool
  | .ListComp .. => true
  | _ => false
def madeL : Ex → Bool
  | .ofL _ => true
  | .new _ => true
  | _ => false
def isTup : Expr → Bool
  | .Tuple .. => true
  | _ => false

mutual
def kSt (m : Nat) : Nat → Sc → St → Stmt → Bool
  | 0, _, _, _ => false
  | n + 1, S, s, st => match s, st with
    | .nev, _ => true
    | .set i e, .Assign [.Name x px] v _ => stoOk S i x && kE m S e v && (noComp v || (isLC v && (!swpC S x px v || madeL e)))
    | .par i j a b, .Assign [.Tuple [.Name x px, .Name y py] _ _] (.Tuple [ea, eb] _ _) _ => slotOk S i x && slotOk S j y && decide (S.names.lookup x = some .local) && decide (S.names.lookup y = some .local) && !decide (i = j) && !(x == y) && (py.line == px.line) &&
        plainE ea && plainE eb && !(foldedForSure 8 ea && foldedForSure 8 eb) && !(constantsAlone 8 ea && constantsAlone 8 eb) && kE m S a ea && kE m S b eb
    | .asg t e, .Assign [tg] v _ => isTup tg && notTup v && kG S t tg && kE m S e v
    | .six o i e, .Assign [.Subscript eo ei _] v _ => plainE ei && kE m S o eo && kE m S i ei && kE m S e v
    | .exp e, .Expr v _ => noComp v && kE m S e v
    | .pas, .Expr (.Constant (.str _) _ _) _ => true
    | .pas, .Pass _ => true
    | .iff c a b, .If ec as bs _ => kT m S c ec && kSts m n S a as && kSts m n S b bs
    | .for_ t s b, .For tg iter body [] _ => plainE iter && kS m S s tg iter && kG S t tg && kSts m n S b body
    | .whl c b, .While ec body [] _ => kT m S c ec && kSts m n S b body
    | .ret e, .Return (some v) _ => kE m S e v
    | .retN, .Return none _ => true
    | .brk, .Break _ => true
    | .cnt, .Continue _ => true
    | .rse c, .Raise (some (.Call (.Name x _) [.Constant (.str _) _ _] [] _)) none _ => decide (S.cls.lookup x = some c) && glOk S x && dbg x
    | _, _ => false
def kSts (m : Nat) : Nat → Sc → List St → List Stmt → Bool
  | 0, _, _, _ => false
  | n + 1, S, ss, sts => match ss, sts with
    | [], [] => true
    | s :: ss, st :: sts => kSt m n S s st && kSts m n S ss sts
    | _, _ => false
end
/-- where a statement of the text stands -/
structure Sok (T : List Fn) (F k : Nat) (S : Sc) (G : Gb) (W : WX) (X : Cx) : Prop extends Cok T F k S G W X where
  own : PassesOwn (model X.prog X.w) X.A X.env X.xe
  tk : Takes X W
  cl : ∀ x c, S.cls.lookup x = some c → ClsF X G x c

section
variable {T : List Fn} {F k : Nat} {S : Sc} {G : Gb} {W : WX} {X : Cx} {pos : Pos}
theorem _root_.L2.PS.cong {a : Stmt} {m m' : Sg → Hq → RF} (h : PS X a (tS G W m)) (e : ∀ σ h, m σ h = m' σ h) : PS X a (tS G W m') := by
  have : m = m' := by funext σ h; exact e σ h
  rw [← this]; exact h
theorem _root_.L2.PSs.cong {a : List Stmt} {m m' : Sg → Hq → RF} (h : PSs X a (tS G W m)) (e : ∀ σ h, m σ h = m' σ h) : PSs X a (tS G W m') := by
  have : m = m' := by funext σ h; exact e σ h
  rw [← this]; exact h
theorem swp_ok (c : Cok T F k S G W X) {y : Str} {py : Pos} {v : Expr} (h : isLC v = true) (l : Nat) : swapsWith v (some (.Name y py)) l X.env = pure (swpC S y py v) := by
  cases v <;> first | (cases h; done) | skip
  rename_i elt gs scope p
  have hb : X.env.blockKind = .function := by
    unfold Env.blockKind
    rw [c.kind]; rfl
  have hk : (X.env.kindOf y == some NameKind.local) = (S.names.lookup y == some .local) := by
    show (X.env.scope.names.lookup y == some NameKind.local) = _
    rw [c.nm]
  show (pure (X.env.blockKind == .function && X.env.kindOf y == some .local && py.line == p.line && !(scope.names.any fun (n, k) => n == y && (k == .local || k == .cell))) : Sem Bool) = _
  rw [hb, hk]
  rfl
theorem setLc_ok (c : Cok T F k S G W X) {n i : Nat} {y : Str} {py : Pos} {l : Lx} {v : Expr} (hv : isLC v = true) (hs : stoOk S i y = true) (hw : swpC S y py v = true) (h : kL n S l v = true) :
    ∃ te, PS X (.Assign [.Name y py] v pos) (tAsg te (gName i)) ∧ ∀ τ H Q, tL G W (evL F (orcs T F k) l) τ H Q → te τ H Q := by
  cases n with
  | zero => simp [kL] at h
  | succ n =>
  have ih := snd T F k n
  have hsw := swp_ok c (y := y) (py := py) hv pos.line
  rw [hw] at hsw
  rw [kL.eq_def] at h
  simp only at h
  split at h
  · cases hv
  · rename_i own t s ifs x elt tg iter ifs' kk scope p
    simp only [Bool.and_eq_true, decide_eq_true_eq, List.all_eq_true] at h
    obtain ⟨⟨⟨⟨⟨⟨⟨h0, h1⟩, h2⟩, h3⟩, h4⟩, h5⟩, h6⟩, h7⟩ := h
    subst h0
    have hN : X.N.Nodup := by rw [c.hN]; exact c.nd
    have hl : X.env.scope.names.lookup y = some .local := by
      rw [c.nm]
      simp only [swpC, Bool.and_eq_true, beq_iff_eq] at hw
      exact hw.1.1
    simp only [stoOk, Bool.and_eq_true] at hs
    refine ⟨_, ps_setLc (own := ownN S own) c.calm.calm hN (c.slot hs.1) hl hsw (ih.s c h2) (blk_ok c h3) (fun s H C cl fp => kG_ok (t := t) (c.blk h3 s H C cl fp) h5)
      (fun s H C cl fp => ih.i (c.blk h3 s H C cl fp) h6) (fun s H C cl fp => ih.e (c.blk h3 s H C cl fp) h7) (folded_of h1 _), fun τ H Q h => ?_⟩
    refine cmp_imp (fun i hi => by rw [ownN_snd]; exact h4 i hi) τ H Q ?_
    rw [ownN_snd]
    have e : evL F (orcs T F k) (.cmp own t s ifs x) = cmpM t own (evS F (orcs T F k) s) (evI F (orcs T F k) ifs) (ev F (orcs T F k) x) := by
      funext σ h
      simp only [evL] <;> rfl
    rw [← e]; exact h
  · cases h
theorem set_ok (c : Cok T F k S G W X) {m i : Nat} {x : Str} {px : Pos} {e : Ex} {v : Expr} (h1 : stoOk S i x = true) (h2 : kE m S e v = true) (h3 : (noComp v || (isLC v && (!swpC S x px v || madeL e))) = true) :
    PS X (.Assign [.Name x px] v pos) (tS G W (fun σ h => (ev F (orcs T F k) e σ h).thn σ fun v h1 => .ok (.nx (σ.set i (some v))) h1)) := by
  have hN : X.N.Nodup := by rw [c.hN]; exact c.nd
  have simple : swapsWith v (some (.Name x px)) pos.line X.env = pure false → PS X (.Assign [.Name x px] v pos) (tS G W (fun σ h => (ev F (orcs T F k) e σ h).thn σ fun v h1 => .ok (.nx (σ.set i (some v))) h1)) := fun hs => by
    refine (ps_asg ((snd T F k m).e c h2) (c.sto h1) hs (stores_no2 rfl _) rfl).imp (set_imp fun _ _ _ h => h)
  by_cases hv : noComp v = true
  · exact simple (swaps_no hv _ _ _)
  · simp only [Bool.not_eq_true] at hv
    rw [hv, Bool.false_or] at h3
    simp only [Bool.and_eq_true, Bool.or_eq_true, Bool.not_eq_true'] at h3
    obtain ⟨h3, h4⟩ := h3
    cases hw : swpC S x px v with
    | false => exact simple ((swp_ok c h3 _).trans (by rw [hw]))
    | true =>
      rw [hw] at h4
      replace h4 : madeL e = true := h4.resolve_left (by decide)
      cases m with
      | zero => simp [kE] at h2
      | succ m =>
      cases e <;> first | (cases h4; done) | skip
      · rename_i l
        have hl : kL m S l v = true := by
          rw [kE.eq_def] at h2
          exact h2
        obtain ⟨te, p, q⟩ := setLc_ok (pos := pos) c h3 h1 hw hl
        exact p.imp (set_imp fun τ H Q h => q τ H Q (ofL_imp τ H Q (by
          have e : ev F (orcs T F k) (.ofL l) = fun σ h => (evL F (orcs T F k) l σ h).bind fun vs h1 => (toDs vs h1).bind fun ds h2 => .ok (.d (.list ds)) h2 := by
            funext σ h; simp only [ev]
          rw [← e]; exact h)))
      · rename_i l
        have hl : kL m S l v = true := by
          rw [kE.eq_def] at h2
          exact h2
        obtain ⟨te, p, q⟩ := setLc_ok (pos := pos) c h3 h1 hw hl
        exact p.imp (set_imp fun τ H Q h => q τ H Q (new_imp τ H Q (by
          have e : ev F (orcs T F k) (.new l) = fun σ h => (evL F (orcs T F k) l σ h).bind fun vs h1 => .ok (.ref h1.length) (h1 ++ [.lst vs]) := by
            funext σ h; simp only [ev]
          rw [← e]; exact h)))

theorem snd_st (m : Nat) : ∀ (n : Nat), (∀ {s : St} {st : Stmt}, Sok T F k S G W X → kSt m n S s st = true → PS X st (tS G W (ex F (orcs T F k) s))) ∧ ∀ {ss : List St} {sts : List Stmt}, Sok T F k S G W X → kSts m n S ss sts = true → PSs X sts (tS G W (exs F (orcs T F k) ss))
  | 0 => ⟨fun _ h => by simp [kSt] at h, fun _ h => by simp [kSts] at h⟩
  | n + 1 => by
    have ih := snd_st m n
    have ie := snd T F k m
    refine ⟨fun {s st} so h => ?_, fun {ss sts} so h => ?_⟩
    · have c := so.toCok
      have hN : X.N.Nodup := by rw [c.hN]; exact c.nd
      rw [kSt.eq_def] at h
      simp only at h
      split at h
      · exact isn_nev.cong fun σ h => by simp only [ex]
      · simp only [Bool.and_eq_true] at h
        exact (set_ok c h.1.1 h.1.2 h.2).cong fun σ h => by simp only [ex]
      · simp only [Bool.and_eq_true, decide_eq_true_eq, Bool.not_eq_true', decide_eq_false_iff_not] at h
        obtain ⟨⟨⟨⟨⟨⟨⟨⟨⟨⟨⟨⟨h1, h2⟩, h3⟩, h4⟩, h5⟩, h6⟩, h7⟩, h8⟩, h9⟩, h10⟩, h11⟩, h12⟩, h13⟩ := h
        have lx : ∀ {z : Str}, S.names.lookup z = some .local → X.env.scope.names.lookup z = some .local := fun q => by rw [c.nm]; exact q
        refine ((ps_par (ta := _) c.calm.calm hN (c.slot h1) (c.slot h2) h5 (lx h3) (lx h4) (ia_cons (G := G) (W := W) (ie.e c h12) (ia_cons (ie.e c h13) ia_nil (star_cons h9 _ _)) (star_cons h8 _ _))
          (swapped2 (by unfold Env.blockKind; rw [c.kind]; rfl) (lx h3) (lx h4) h7 h6 h8 h9 h10 h11) rfl).imp (par_imp fun _ _ _ h => h)).cong fun σ h => by simp only [ex]
      · simp only [Bool.and_eq_true] at h
        obtain ⟨⟨⟨h1, h2⟩, h3⟩, h4⟩ := h
        refine (is_asg (ie.e c h4) (kG_ok c h3) (sole_other ?_ _ _) (stores_no h2 _) ?_).cong fun σ h => by simp only [ex] <;> rfl
        · rename_i tg _ _
          cases tg <;> first | (cases h1; done) | rfl
        · rename_i tg _ _
          cases tg <;> first | (cases h1; done) | rfl
      · simp only [Bool.and_eq_true] at h
        obtain ⟨⟨⟨h1, h2⟩, h3⟩, h4⟩ := h
        refine (is_six (ie.e c h4) (ie.e c h2) (ie.e c h3) (sole_other rfl _ _) (stores_no2 rfl _) rfl ?_).cong fun σ h => by simp only [ex]
        rename_i ei _ _ _
        intro v
        cases ei <;> first | (cases h1; done) | rfl
      · simp only [Bool.and_eq_true] at h
        exact (is_exp (ie.e c h.2) (swaps_no h.1 _ _ _)).cong fun σ h => by simp only [ex]
      · exact is_doc.cong fun σ h => by simp only [ex]
      · exact is_pas.cong fun σ h => by simp only [ex]
      · simp only [Bool.and_eq_true] at h
        exact (is_iff (ie.t c h.1.1) (ih.2 so h.1.2) (ih.2 so h.2)).cong fun σ h => by simp only [ex]
      · simp only [Bool.and_eq_true] at h
        exact (is_for (F := F) so.own c.calm.calm (ie.s c h.1.1.2) (kG_ok c h.1.2) (ih.2 so h.2) (folded_of h.1.1.1 _)).cong fun σ h => by simp only [ex] <;> rfl
      · simp only [Bool.and_eq_true] at h
        exact (is_whl (F := F) so.own (ie.t c h.1) (ih.2 so h.2)).cong fun σ h => by simp only [ex]
      · exact (is_ret (ie.e c h)).cong fun σ h => by simp only [ex]
      · exact is_retN.cong fun σ h => by simp only [ex]
      · exact is_brk.cong fun σ h => by simp only [ex]
      · exact is_cnt.cong fun σ h => by simp only [ex]
      · simp only [Bool.and_eq_true, decide_eq_true_eq] at h
        exact (is_rse c.calm.calm so.tk (so.cl _ _ h.1.1) (c.gl h.1.2) (dbg1 h.2)).cong fun σ h => by simp only [ex]
      · cases h
    · rw [kSts.eq_def] at h
      simp only at h
      split at h
      · exact is_nil.cong fun σ h => by simp only [exs]
      · simp only [Bool.and_eq_true] at h
        exact (is_cons (ih.1 so h.1) (ih.2 so h.2)).cong fun σ h => by simp only [exs]
      · cases h
end
end Ip

set_option linter.all false
set_option Elab.async false
set_option autoImplicit false
set_option maxRecDepth 100000
/-! The table of a law's defs; the end of a law. -/
namespace Ip
open PySem L2 PyProof.Rows

/-- a look at the names of a def's scope -/
def scK (N P : List Str) (sc : Scope) : Bool :=
  decide (sc.kind = .function) && !sc.isCoroutine && !sc.isGenerator && decide N.Nodup && decide (N.take P.length = P) && P.all (fun x => decide (sc.names.lookup x = some .local) || decide (sc.names.lookup x = some .cell)) && sc.names.all (fun y => !decide (y.2 = .free))
theorem scK_ok {N P : List Str} {sc : Scope} (h : scK N P sc = true) : FnScope N P sc := by
  unfold scK at h
  simp only [Bool.and_eq_true, Bool.not_eq_true', decide_eq_true_eq, List.all_eq_true, Bool.or_eq_true, decide_eq_false_iff_not] at h
  exact ⟨h.1.1.1.1.1.1, h.1.1.1.1.1.2, h.1.1.1.1.2, h.1.1.1.2, h.1.1.2, h.1.2, h.2⟩
/-- a def of the text: its name, how the evaluator has it, the statement, its slots, its parameters -/
structure Row where
  x : Str
  fn : Fn
  st : Stmt
  N : List Str
  ps : List Str
def scOf (defs cls : List (Str × Nat)) (r : Row) : Sc := ⟨r.N, (defScope r.st).names, defs, cls, fun _ => true⟩
def rowOk (m n : Nat) (defs cls : List (Str × Nat)) (r : Row) : Bool :=
  scK r.N r.ps (defScope r.st) && decide (r.fn.ns = r.N.length) && decide (r.fn.ps = r.ps.length) && kSts m n (scOf defs cls r) r.fn.body (defBody r.st)
def defsOk (rows : List Row) (defs : List (Str × Nat)) : Bool := defs.all fun p => decide ((rows[p.2]?).map (·.x) = some p.1)
def fnsOf (rows : List Row) : List Fn := rows.map (·.fn)

structure RowF (K : PySem.W.Frag) (mg : Str → Option Value) (r : Row) (a : Addr) : Prop where
  mg : mg r.x = some (.ref a)
  ex : ∃ fd, L2.Fun K r.x r.x r.st a fd ∧ Binds K fd r.ps []
def Facts (K : PySem.W.Frag) (mg : Str → Option Value) : List Row → List Addr → Prop
  | [], [] => True
  | r :: rs, a :: as => RowF K mg r a ∧ Facts K mg rs as
  | _, _ => False
theorem Facts.get {K : PySem.W.Frag} {mg : Str → Option Value} : ∀ {rows : List Row} {as : List Addr} {f : Nat} {r : Row}, Facts K mg rows as → rows[f]? = some r → ∃ a, as[f]? = some a ∧ RowF K mg r a
  | [], _, _, _, _, e => by simp at e
  | r :: rs, a :: as, 0, _, h, e => by
    have e : some r = some _ := e
    cases e
    exact ⟨a, rfl, h.1⟩
  | r :: rs, a :: as, f + 1, _, h, e => Facts.get (rows := rs) (f := f) h.2 e
  | _ :: _, [], _, _, h, _ => h.elim
/-- a class of the text whose instances may be raised -/
structure ClsK (K : PySem.W.Frag) (mg : Str → Option Value) (x : Str) (C : Addr) : Prop where
  mg : mg x = some (.ref C)
  ex : ∃ (B newId initId : String) (bmB : List Value), ExcBaseFacts B newId initId bmB ∧ PySem.W.excIn K C bmB newId = true
  kp : PySem.W.keepIn K (.ref C) = true
  sub : PySem.W.subIn K (.ref C) (.type "BaseException") = some true
  ty : PySem.W.typeIn K (.ref C) = some (.type "type")
def ClsFs (K : PySem.W.Frag) (mg : Str → Option Value) (cls : List (Str × Nat)) (ca : List Addr) : Prop := ∀ x c, cls.lookup x = some c → ∃ C, ca[c]? = some C ∧ ClsK K mg x C

section
variable {P : Program} {w : World} {K : PySem.W.Frag} {mg : Str → Option Value} {base : Heap}
theorem lookup_mem {α : Type} : ∀ {l : List (Str × α)} {x : Str} {v : α}, l.lookup x = some v → (x, v) ∈ l
  | [], _, _, h => by simp at h
  | (y, u) :: l, x, v, h => by
    rw [List.lookup_cons] at h
    split at h
    · rename_i e
      cases h
      rw [eq_of_beq e]
      exact List.mem_cons_self
    · exact List.mem_cons_of_mem _ (lookup_mem h)
/-- EVERY DEF OF THE TABLE does what the evaluator says -/
theorem tab_ok {m n F : Nat} {rows : List Row} {defs cls : List (Str × Nat)} {fa ca : List Addr} (hr : ∀ r ∈ rows, rowOk m n defs cls r = true) (hd : defsOk rows defs = true) (hb : ∀ x ∈ bltN, mg x = none) (hF : Facts K mg rows fa) (hc : ClsFs K mg cls ca) :
    ∀ (j f : Nat) (r : Row) (a : Addr) (fd : FuncData), rows[f]? = some r → fa[f]? = some a → L2.Fun K r.x r.x r.st a fd → FnG P w K mg base (j + 1) a fd r.ps (spFn ⟨K, fa, ca⟩ F (orcs (fnsOf rows) F j) r.fn)
  | j, f, r, a, fd, er, ea, fn => by
    have hrow := hr r (List.mem_of_getElem? er)
    unfold rowOk at hrow
    simp only [Bool.and_eq_true, decide_eq_true_eq] at hrow
    obtain ⟨⟨⟨h1, h2⟩, h3⟩, h4⟩ := hrow
    obtain ⟨oc, od, kV, doc, pm, an, cdv, ct, osl, rfl, lk, hcd⟩ := fn.ex
    have S := scK_ok h1
    refine fnG_of lk hcd S (fun vs H Q E h => by rw [sp_len h, h3]) fun A outer s H vs Q E hroom hsp => ?_
    refine ⟨_, ?_, sp_body h2 hsp⟩
    have key := fun so => (snd_st (T := fnsOf rows) (F := F) (k := j) (S := scOf defs cls r) (G := ⟨K, fa, ca⟩) (W := fun c d _ H => E c d H) (X := cxOf (L2.CX P w) P w K mg base r.N r.x (defScope r.st) a cdv A outer s H E) m n).2 so h4
    refine key ⟨⟨rfl, S.nd, rfl, S.kind, ⟨rfl, hroom.rm.units, hroom.gd⟩, rfl, hb, fun x g hx => ?_, ?_, fun _ _ => rfl⟩, passes_of rfl, takes_of rfl rfl rfl rfl, fun x c hx => ?_⟩
    · have hm := lookup_mem hx
      unfold defsOk at hd
      have := List.all_eq_true.mp hd _ hm
      have := of_decide_eq_true this
      cases e : rows[g]? with
      | none => rw [e] at this; cases this
      | some r' =>
        rw [e] at this
        have hx' : r'.x = x := Option.some.inj this
        obtain ⟨a', ea', rf⟩ := hF.get e
        obtain ⟨fd', fn', bd'⟩ := rf.ex
        refine ⟨a', fd', r'.ps, r'.fn, by rw [← hx']; exact rf.mg, ea', fn'.kp, by unfold fnsOf; rw [List.getElem?_map, e]; rfl, fun j' hj => ⟨bd', j, hroom, ?_⟩⟩
        subst hj
        exact tab_ok hr hd hb hF hc j' g r' a' fd' e ea' fn'
    · exact Passing.of_takes (takes_of rfl rfl rfl rfl)
    · obtain ⟨C, hC, ck⟩ := hc x c hx
      obtain ⟨B, newId, initId, bmB, e1, e2⟩ := ck.ex
      exact ⟨C, B, newId, initId, bmB, hC, ck.mg, e1, e2, ck.kp, raises_own ck.sub ck.ty⟩
end

/-! ### the end of a law -/
/-- the law's own def, called with the script: by what the evaluator says of it -/
theorem callG_law {P : Program} {w : World} {K : PySem.W.Frag} {mg mb : Str → Option Value} {k : Nat} {fa a : Addr} {fd : FuncData} {x : Str} {sp : Sp} {s₁ : Shared} {vs : List Value} {ns : List Int}
    (KX : K.In s₁.heap) (hns : s₁.heap.Ns mainGlobals mg) (hb : s₁.heap.Ns builtinsNs mb) (hbb : ∀ x : Str, x ≠ "__name__" → mb x = bootBuiltins x) (hlim : s₁.heap.NoLimit) (hg : s₁.gens = #[])
    (ha : s₁.heap.get? a = some { cls := .type "list", data := .seq vs.toArray }) (hi : IntsAre vs ns) (hl : ns.length ≤ sizeLine) (hr : RoomG k callerA)
    (F : ∀ base : Heap, K.In base → base.Ns mainGlobals mg → FnG P w K mg base k fa fd [x] sp) (hbind : ∀ (s : Shared) (u : Value), BindsTo s fd ⟨[u], []⟩ [(x, u)])
    (hsp : ∀ H : Hp, Only H → SqL K H a (ns.map V.int) → sp [.ref a] H (fun v _ => v = .bl true) fun _ _ _ => False) :
    codeAny (model P w) callerA (.call (.ref fa) ⟨[.ref a], []⟩) (fun r s' => r = .ok (.ret (.bool true)) ∧ OldK s₁.heap s'.heap ∧ s'.os = s₁.os ∧ AllBare s'.gens) s₁ := by
  have rv := vals_ints hi
  obtain ⟨H, hO, hS, hok, hA, hK⟩ : ∃ H : Hp, Only H ∧ SqL K H a (ns.map V.int) ∧ HOk P w H s₁.heap ∧ (∀ b, H b ≠ none → b = a) ∧ (H a ≠ none → K.lookup a = none) := by
    cases hk : K.lookup a with
    | some o =>
      have e := KX a o hk
      rw [ha] at e
      cases e
      exact ⟨fun _ => none, fun _ => .inl rfl, .inr ⟨_, vs.toArray, _, hk, rfl, rfl, rfl, by rw [List.size_toArray, hi.length]; exact hl, by simpa using rv⟩, fun b u z => (by cases z), fun b z => absurd rfl z, fun z => absurd rfl z⟩
    | none =>
      refine ⟨fun b => if b = a then some (.frz { cls := .type "list", data := .seq vs.toArray } (.lst (ns.map V.int))) else none, fun b => ?_, .inl (.inr ⟨_, if_pos rfl⟩), fun b u z => ?_, fun b z => ?_, fun _ => rfl⟩
      · by_cases h : b = a
        · exact .inr ⟨_, _, if_pos h⟩
        · exact .inl (if_neg h)
      · by_cases h : b = a
        · subst h
          have z' := (if_pos rfl).symm.trans z
          cases z'
          exact ⟨ha, by rw [List.length_map]; exact hl, vs, _, rv, ha⟩
        · exact absurd ((if_neg h).symm.trans z) (fun q => by cases q)
      · exact Classical.byContradiction fun h => z (if_neg h)
  have free : ∀ {b : Addr} {o : Obj}, s₁.heap.get? b = some o → (∀ vs, o.data ≠ .seq vs 0) → H b = none := fun {b o} e hd => by
    cases q : H b with
    | none => rfl
    | some u =>
      have e' := hA b (by rw [q]; exact fun z => by cases z)
      subst e'
      rw [ha] at e; cases e
      exact absurd rfl (hd _)
  have nsK : ∀ {b : Addr} {m : Str → Option Value}, s₁.heap.Ns b m → (hidT s₁.heap H).Ns b m := fun {b m} ⟨o, es, ep, e, d, r⟩ => ⟨o, es, ep, hidT_get e (free e fun vs z => by rw [d] at z; cases z), d, r⟩
  have hKb : K.In (hidT s₁.heap H) := fun b o e => hidT_get (KX b o e) (by
    cases q : H b with
    | none => rfl
    | some u =>
      have e' := hA b (by rw [q]; exact fun z => by cases z)
      subst e'
      rw [hK (by rw [q]; exact fun z => by cases z)] at e; cases e)
  have hM : Mod K mg (hidT s₁.heap H) := ⟨hKb, nsK hns, ⟨mb, nsK hb, hbb⟩, let ⟨mc, h1, h2⟩ := hlim; ⟨mc, nsK h1, h2⟩⟩
  have e0 : Env0 P w K mg (hidT s₁.heap H) callerA [] s₁ H := ⟨rfl, hM, fun b o e => of_hidT e, Nat.le_of_eq (hidT_size _ _), trivial, fun b hb => (by cases hb), hok, .of_eq hg⟩
  refine codeAny_mono ((F _ hKb (nsK hns)).run callerA [] s₁ H ⟨[.ref a], []⟩ [.ref a] [.ref a] _ _ hr e0 (hbind s₁ (.ref a)) (.cons rfl .nil) (hsp H hO hS)) fun r s' h => ?_
  cases r with
  | error e => obtain ⟨_, _, _, _, _, _, _, _, _, _, _, _, q⟩ := h; exact q.elim
  | ok fl =>
    cases fl with
    | next => exact False.elim h
    | brk => exact False.elim h
    | cont => exact False.elim h
    | ret u =>
      obtain ⟨v, H', os, bare, un, hok', r', rfl⟩ := h
      obtain rfl : u = Value.bool true := r'
      refine ⟨rfl, OldK.of_keep fun b o e => ?_, os, bare⟩
      cases q : H b with
      | none => exact un.keep b o e q (fun z => by cases z) (by simp)
      | some u =>
        rcases hO b with z | ⟨ob, xs, z⟩
        · rw [q] at z; cases z
        · obtain ⟨e1, _⟩ := hok b _ z
          obtain ⟨e2, _⟩ := hok' b _ (un.frzs b ob _ z)
          rw [e] at e1; cases e1
          exact e2
theorem walk_G {l : PySem.W.OpenLaw} {n : Nat} {q : Program} {loose : List Str} {XP : (Str → Option Value) → Heap → Prop} {YP : World → Heap → Prop} {d : DefRec} {K : Params → PySem.W.Frag} {sp : World → List Addr → Sp} {x : Str}
    (hn : l.most = some n) (hn2 : n ≤ sizeLine) (hdf : d.params.defaults = []) (hY : ∀ (w : World) (h : Heap), YP w h → (K w.params).In h)
    (F : ∀ (w : World) (mg : Str → Option Value) (fa : Addr) (h : Heap), (K w.params).In h → h.Ns mainGlobals mg → mg d.name = some (.ref fa) →
      ∃ (fd : FuncData) (as : List Addr) (k : Nat), RoomG k callerA ∧ (∀ (s : Shared) (u : Value), BindsTo s fd ⟨[u], []⟩ [(x, u)]) ∧
        ∀ base : Heap, (K w.params).In base → base.Ns mainGlobals mg → FnG l.prog w (K w.params) mg base k fa fd [x] (sp w as))
    (hsp : ∀ (w : World) (as : List Addr) (H : Hp) (a : Addr) (ns : List Int), ns.length ≤ n → Only H → SqL (K w.params) H a (ns.map V.int) → sp w as [.ref a] H (fun v _ => v = .bl true) fun _ _ _ => False) :
    PySem.W.WalkO q loose XP YP l.row.toRowW d [] (fun f vs => PySem.call f vs) := by
  refine Att.attach_call hn hdf fun w s₀ s₁ mg mb fa o pm cd doc a vs ns hG hY' ho hd hcd hmg hobj hints hlen hg => ?_
  have KX := hY w _ hY'
  obtain ⟨fd, as, k, hr, hb, hF⟩ := F w mg fa _ KX hG.T.g hmg
  exact callG_law KX hG.T.g hG.T.b hG.T.builtins hG.T.nolimit hg hobj hints (Nat.le_trans hlen hn2) hr hF hb (fun H hO hS => hsp w as H a ns hlen hO hS)
end Ip

set_option linter.all false
set_option Elab.async false
set_option autoImplicit false
set_option maxRecDepth 100000
/-! What the top has written; a law by its evaluation. -/
namespace Ip
open PySem L2 PyProof.Rows

/-- a def as the top leaves it -/
def DefK (K : PySem.W.Frag) (x : Str) (st : Stmt) (ps : List Str) : Prop := ∃ (f : Addr) (fd : FuncData), PySem.W.nsIn K mainGlobals x = some (some (.ref f)) ∧ L2.Fun K x x st f fd ∧ Binds K fd ps []
theorem dk_mk {K : PySem.W.Frag} {x : Str} {st : Stmt} {ps : List Str} {f : Addr} {oc : Value} {od an : Option Addr} {osl : Array (Option Value)} {kV doc pm cdv ct : Value} (a : PySem.W.nsIn K mainGlobals x = some (some (.ref f)))
    (l : K.lookup f = some ⟨oc, od, .func (PySem.W.fnOf x x (defArgs st) (defBody st) (defScope st) .none kV doc pm an cdv ct), osl⟩) (c : PySem.W.codeIn K cdv x = true) (k : PySem.W.keepIn K (.ref f) = true)
    (b : ∀ (kV doc pm : Value) (an : Option Addr) (cdv ct : Value) (us : List Value), us.length = ps.length → bindArgs (PySem.W.fnOf x x (defArgs st) (defBody st) (defScope st) .none kV doc pm an cdv ct) ⟨us, []⟩ = pure (ps.zip us)) : DefK K x st ps :=
  ⟨f, _, a, fun_mk l c k, (fun_mk l c k).binds b⟩
/-- all of them -/
def DefsK (K : PySem.W.Frag) : List Row → Prop
  | [] => True
  | r :: rs => DefK K r.x r.st r.ps ∧ DefsK K rs
theorem facts_of {K : PySem.W.Frag} {h : Heap} {mg : Str → Option Value} (X : K.In h) (G : h.Ns mainGlobals mg) : ∀ {rows : List Row}, DefsK K rows → ∃ as, Facts K mg rows as
  | [], _ => ⟨[], trivial⟩
  | r :: rs, hd => by
    obtain ⟨f, fd, a, F, b⟩ := hd.1
    obtain ⟨as, q⟩ := facts_of X G hd.2
    exact ⟨f :: as, ⟨PySem.W.mg_of X G a, fd, F, b⟩, q⟩
/-- the built-ins stand -/
def BltK (K : PySem.W.Frag) : List Str → Prop
  | [] => True
  | x :: xs => PySem.W.nsIn K mainGlobals x = some none ∧ BltK K xs
theorem blt_of {K : PySem.W.Frag} {h : Heap} {mg : Str → Option Value} (X : K.In h) (G : h.Ns mainGlobals mg) : ∀ {xs : List Str}, BltK K xs → ∀ x ∈ xs, mg x = none
  | [], _, _, hx => by cases hx
  | y :: ys, hb, x, hx => by
    rcases List.mem_cons.mp hx with rfl | hx
    · exact PySem.W.mg_none_of X G hb.1
    · exact blt_of X G hb.2 x hx
/-- a class as the top leaves it -/
def CK (K : PySem.W.Frag) (x : Str) : Prop := ∃ C : Addr, PySem.W.nsIn K mainGlobals x = some (some (.ref C)) ∧ (∃ (B newId initId : String) (bmB : List Value), ExcBaseFacts B newId initId bmB ∧ PySem.W.excIn K C bmB newId = true) ∧ PySem.W.keepIn K (.ref C) = true ∧
  PySem.W.subIn K (.ref C) (.type "BaseException") = some true ∧ PySem.W.typeIn K (.ref C) = some (.type "type")
def CKs (K : PySem.W.Frag) : List Str → Prop
  | [] => True
  | x :: xs => CK K x ∧ CKs K xs
theorem cks_of {K : PySem.W.Frag} {h : Heap} {mg : Str → Option Value} (X : K.In h) (G : h.Ns mainGlobals mg) : ∀ {xs : List Str}, CKs K xs → ∃ ca : List Addr, ∀ (c : Nat) (x : Str), xs[c]? = some x → ∃ C, ca[c]? = some C ∧ ClsK K mg x C
  | [], _ => ⟨[], fun c x e => by simp at e⟩
  | y :: ys, hc => by
    obtain ⟨C, a, e, k, s, t⟩ := hc.1
    obtain ⟨ca, q⟩ := cks_of X G hc.2
    refine ⟨C :: ca, fun c x ex => ?_⟩
    cases c with
    | zero =>
      have ex : some y = some x := ex
      cases ex
      exact ⟨C, rfl, PySem.W.mg_of X G a, e, k, s, t⟩
    | succ c => exact q c x ex

/-- what is asked of the law's def -/
def spLaw (rows : List Row) (F J : Nat) (law : Fn) (K : PySem.W.Frag) (as ca : List Addr) : Sp := spFn ⟨K, as, ca⟩ F (orcs (fnsOf rows) F J) law
theorem ints_dr {K : PySem.W.Frag} {H : Hp} {B : Addr → Prop} : ∀ ns : List Int, DRs K H B (ns.map V.int) (ns.map PyData.int)
  | [] => .nil
  | n :: ns => .cons (.int n) (ints_dr ns)
theorem sp_law {rows : List Row} {F J : Nat} {law : Fn} {K : PySem.W.Frag} {as ca : List Addr} {H : Hp} {a : Addr} {ns : List Int} (hp : law.ps = 1) (hS : SqL K H a (ns.map V.int))
    (plain : ∃ h, run F (orcs (fnsOf rows) F J) law [.d (.list (ns.map .int))] [] = .ok (.d (.bool true)) h) : spLaw rows F J law K as ca [.ref a] H (fun v _ => v = .bl true) fun _ _ _ => False := by
  obtain ⟨h, e⟩ := plain
  refine ⟨fun _ => False, ⟨[], [], H⟩, [.d (.list (ns.map .int))], rfl, rep_nil fun a z => z.elim, .cons (.d (.lst ?_ (ints_dr ns))) .nil, hp.symm, ?_⟩
  · rcases hS with q | q
    · exact .inl ⟨q, fun z => (bad_nil.mp z).elim⟩
    · exact .inr (.inr q)
  · show Post _ _ _ _ _ (run F (orcs (fnsOf rows) F J) law [.d (.list (ns.map .int))] []) _
    rw [e]
    intro s' y _ _ _ q
    cases q with
    | d q => cases q; rfl
/-- all that the top must have left, and the law's def does what the evaluator says -/
theorem all_mk {l : PySem.W.OpenLaw} {w : World} {K : PySem.W.Frag} {h : Heap} {mg : Str → Option Value} {fa : Addr} {rows : List Row} {defs cls : List (Str × Nat)} {m n F J f : Nat} {r : Row} {x : Str} {xs : List Str} (hr : ∀ r ∈ rows, rowOk m n defs cls r = true) (hd : defsOk rows defs = true)
    (hroom : RoomG (J + 1) callerA) (hf : rows[f]? = some r) (hx : r.x = "law") (hps : r.ps = [x]) (hcl : cls.all (fun p => decide (xs[p.2]? = some p.1)) = true)
    (hbind : ∀ (kV doc pm : Value) (an : Option Addr) (cdv ct : Value) (s : Shared) (v : Value), BindsTo s (PySem.W.fnOf r.x r.x (defArgs r.st) (defBody r.st) (defScope r.st) .none kV doc pm an cdv ct) ⟨[v], []⟩ [(x, v)])
    (X : K.In h) (G : h.Ns mainGlobals mg) (hfa : mg "law" = some (.ref fa)) (dk : DefsK K rows) (bk : BltK K bltN) (ck : CKs K xs) :
    ∃ (fd : FuncData) (as : List Addr) (k : Nat), RoomG k callerA ∧ (∀ (s : Shared) (u : Value), BindsTo s fd ⟨[u], []⟩ [(x, u)]) ∧ ∀ base : Heap, K.In base → base.Ns mainGlobals mg → FnG l.prog w K mg base k fa fd [x] (fun vs H Q E => ∀ _ : True, spLaw rows F J r.fn K (as.take rows.length) (as.drop rows.length) vs H Q E) := by
  obtain ⟨as, hF⟩ := facts_of X G dk
  obtain ⟨ca, hC⟩ := cks_of X G ck
  obtain ⟨a, ea, rf⟩ := hF.get hf
  obtain ⟨fd, fn, bd⟩ := rf.ex
  have e : fa = a := by
    have := rf.mg
    rw [hx, hfa] at this
    cases this; rfl
  subst e
  have hlen : ∀ {rs : List Row} {bs : List Addr}, Facts K mg rs bs → bs.length = rs.length := by
    intro rs
    induction rs with
    | nil => intro bs q; cases bs with
      | nil => rfl
      | cons _ _ => exact q.elim
    | cons r rs ih => intro bs q; cases bs with
      | nil => exact q.elim
      | cons b bs => rw [List.length_cons, List.length_cons, ih q.2]
  refine ⟨fd, as ++ ca, J + 1, hroom, ?_, fun base _ _ => ?_⟩
  · obtain ⟨oc, od, kV, doc, pm, an, cdv, ct, osl, rfl, lk, hcd⟩ := fn.ex
    exact hbind kV doc pm an cdv ct
  · have e1 : (as ++ ca).take rows.length = as := by rw [← hlen hF]; exact List.take_left' rfl
    have e2 : (as ++ ca).drop rows.length = ca := by rw [← hlen hF]; exact List.drop_left' rfl
    have hcls : ClsFs K mg cls ca := fun y c hy => by
      have := List.all_eq_true.mp hcl _ (lookup_mem hy)
      exact hC c y (of_decide_eq_true this)
    have t := tab_ok (P := l.prog) (w := w) (base := base) (F := F) hr hd (blt_of X G bk) hF hcls J f r fa fd hf ea fn
    rw [hps] at t
    refine ⟨fun vs H Q E q => t.len vs H Q E (by have := q trivial; rw [e1, e2] at this; exact this), fun A outer s H args us vs Q E h1 h2 h3 h4 h5 => t.run A outer s H args us vs Q E h1 h2 h3 h4 (by have := h5 trivial; rw [e1, e2] at this; exact this)⟩
end Ip

set_option linter.all false
set_option Elab.async false
set_option autoImplicit false
set_option maxRecDepth 100000
/-! Running the evaluator in a proof. -/
namespace Ip
open PySem

section
variable {h : Hq} {σ : Sg} {W j : Nat} {C : List Orc} {T : List Fn}
@[simp] theorem peek_d (x : D) : peek h (.d x) = some x := rfl
@[simp] theorem binV_d (o : Bop) (x y : D) : binV o (.d x) (.d y) h = match binD o x y with
    | some c => .ok (.d c) h
    | none => .no := rfl
@[simp] theorem cmpV_d (o : Cop) (x y : D) : cmpV o (.d x) (.d y) h = match cmpD o x y with
    | some c => .ok c h
    | none => .no := rfl
@[simp] theorem binD_add (i k : Int) : binD .add (.int i) (.int k) = some (.int (i + k)) := rfl
@[simp] theorem binD_sub (i k : Int) : binD .sub (.int i) (.int k) = some (.int (i - k)) := rfl
@[simp] theorem binD_mul (i k : Int) : binD .mul (.int i) (.int k) = if okMul i k then some (.int (i * k)) else none := rfl
@[simp] theorem binD_fdiv (i k : Int) : binD .fdiv (.int i) (.int k) = if okDiv k then some (.int (i.fdiv k)) else none := rfl
@[simp] theorem binD_mod (i k : Int) : binD .mod (.int i) (.int k) = if k = 0 then none else some (.int (i.fmod k)) := rfl
@[simp] theorem cmpD_lt (i k : Int) : cmpD .lt (.int i) (.int k) = some (decide (i < k)) := rfl
@[simp] theorem cmpD_le (i k : Int) : cmpD .le (.int i) (.int k) = some (decide (i ≤ k)) := rfl
@[simp] theorem cmpD_gt (i k : Int) : cmpD .gt (.int i) (.int k) = some (decide (k < i)) := rfl
@[simp] theorem cmpD_ge (i k : Int) : cmpD .ge (.int i) (.int k) = some (decide (k ≤ i)) := rfl
@[simp] theorem cmpD_eqi (i k : Int) : cmpD .eq (.int i) (.int k) = some (decide (i = k)) := rfl
@[simp] theorem cmpD_nei (i k : Int) : cmpD .ne (.int i) (.int k) = some (!decide (i = k)) := rfl
@[simp] theorem cmpD_eqs (i k : Str) : cmpD .eq (.str i) (.str k) = some (decide (i = k)) := rfl
@[simp] theorem cmpD_nes (i k : Str) : cmpD .ne (.str i) (.str k) = some (!decide (i = k)) := rfl
@[simp] theorem tru_b (b : Bool) : tru (.d (.bool b)) h = .ok b h := rfl
@[simp] theorem tru_i (i : Int) : tru (.d (.int i)) h = .ok (i != 0) h := rfl
@[simp] theorem intV_i (i : Int) : intV (.d (.int i)) = some i := rfl
@[simp] theorem prmV_1 (p : Prm) (x : D) : prmV p [.d x] h = match prmD p [x] with
    | some c => .ok (.d c) h
    | none => .no := rfl
@[simp] theorem prmV_2 (p : Prm) (x y : D) : prmV p [.d x, .d y] h = match prmD p [x, y] with
    | some c => .ok (.d c) h
    | none => .no := rfl
@[simp] theorem prm_abs (i : Int) : prmD .abs [.int i] = some (.int (if i < 0 then -i else i)) := rfl
@[simp] theorem prm_int (i : Int) : prmD .int [.int i] = some (.int i) := rfl
@[simp] theorem prm_intb (b : Bool) : prmD .int [.bool b] = some (.int (if b then 1 else 0)) := rfl
@[simp] theorem prm_lenl (xs : List D) : prmD .len [.list xs] = some (.int xs.length) := rfl
@[simp] theorem prm_lent (xs : List D) : prmD .len [.tuple xs] = some (.int xs.length) := rfl
@[simp] theorem prm_max2 (i k : Int) : prmD .max2 [.int i, .int k] = some (.int (if k > i then k else i)) := rfl
@[simp] theorem prm_min2 (i k : Int) : prmD .min2 [.int i, .int k] = some (.int (if k < i then k else i)) := rfl
@[simp] theorem toD_d (x : D) : toD (.d x) h = .ok x h := rfl
@[simp] theorem toDs_nil : toDs [] h = .ok [] h := rfl
@[simp] theorem toDs_cons (v : Val) (vs : List Val) : toDs (v :: vs) h = (toD v h).bind fun x h1 => (toDs vs h1).bind fun xs h2 => .ok (x :: xs) h2 := rfl
theorem toDs_map (xs : List D) : toDs (xs.map .d) h = .ok xs h := by
  induction xs with
  | nil => rfl
  | cons x xs ih => simp only [List.map_cons, toDs_cons, toD_d, R.bind_ok, ih]
/-- a text's items by a known place -/
theorem ixV_at {x : Val} {vs : List Val} {v : Val} {i : Int} (e : els h x = some vs) (q : atD vs i = some v) : ixV x (.d (.int i)) h = .ok v h := by
  unfold ixV
  rw [e]
  simp only [q]
@[simp] theorem ixV_t (xs : List D) (i : Int) : ixV (.d (.tuple xs)) (.d (.int i)) h = match atD (xs.map .d) i with
    | some v => .ok v h
    | none => .no := rfl
@[simp] theorem ixV_l (xs : List D) (i : Int) : ixV (.d (.list xs)) (.d (.int i)) h = match atD (xs.map .d) i with
    | some v => .ok v h
    | none => .no := rfl
@[simp] theorem atD_0 (v : Val) (vs : List Val) : atD (v :: vs) 0 = some v := by
  unfold atD ixn
  simp
@[simp] theorem atD_1 (v w : Val) (vs : List Val) : atD (v :: w :: vs) 1 = some w := by
  have : (1 : Int) < ((v :: w :: vs).length : Nat) := by simp only [List.length_cons]; omega
  unfold atD ixn
  rw [if_pos (by decide), if_pos this]
  rfl
theorem atD_nat {vs : List Val} {n : Nat} (hn : n < vs.length) : atD vs (n : Int) = some vs[n] := by
  unfold atD ixn
  rw [if_pos (by omega), if_pos (by omega)]
  simp [hn]
/-- a loop's test, a loop's body, a comprehension's item -/
def cnd (W : Nat) (C : List Orc) (c : Ex) (σ : Sg) (h : Hq) : R Bool := tst (ev W C c) σ h
def bdy (W : Nat) (C : List Orc) (b : List St) (σ : Sg) (h : Hq) : RF := exs W C b σ h
def itm (W : Nat) (C : List Orc) (own : List Nat) (t : Tgt) (ifs : List Ex) (e : Ex) (σ : Sg) (v : Val) (h : Hq) : R (List Val) := match bindT h t v (wipe σ own) with
  | none => .no
  | some σ' => ((evI W C ifs σ' h).bind fun k h2 => if k then (ev W C e σ' h2).bind fun x h3 => .ok [x] h3 else .ok [] h2).quiet
@[simp] theorem e_lit (x : D) : ev W C (.lit x) σ h = .ok (.d x) h := by simp only [ev] <;> rfl
@[simp] theorem e_var (i : Nat) : ev W C (.var i) σ h = match σ[i]? with
    | some (some v) => .ok v h
    | _ => .no := by simp only [ev] <;> rfl
@[simp] theorem e_fnv (f : Nat) : ev W C (.fnv f) σ h = .ok (.fn f) h := by simp only [ev] <;> rfl
@[simp] theorem e_bin (o : Bop) (a b : Ex) : ev W C (.bin o a b) σ h = (ev W C a σ h).bind fun x h1 => (ev W C b σ h1).bind fun y h2 => binV o x y h2 := by simp only [ev] <;> rfl
@[simp] theorem e_neg (a : Ex) : ev W C (.neg a) σ h = (ev W C a σ h).bind fun x h1 => match intV x with
    | some i => .ok (.d (.int (-i))) h1
    | none => .no := by simp only [ev] <;> rfl
@[simp] theorem e_cmp (o : Cop) (a b : Ex) : ev W C (.cmp o a b) σ h = (ev W C a σ h).bind fun x h1 => (ev W C b σ h1).bind fun y h2 => (cmpV o x y h2).bind fun c h3 => .ok (.d (.bool c)) h3 := by simp only [ev] <;> rfl
@[simp] theorem e_chn (o o' : Cop) (a b c : Ex) : ev W C (.chn o o' a b c) σ h = (ev W C a σ h).bind fun x h1 => (ev W C b σ h1).bind fun y h2 => (cmpV o x y h2).bind fun k h3 =>
      if k then (ev W C c σ h3).bind fun z h4 => (cmpV o' y z h4).bind fun k' h5 => .ok (.d (.bool k')) h5 else .ok (.d (.bool false)) h3 := by simp only [ev] <;> rfl
@[simp] theorem e_and (a b : Ex) : ev W C (.and_ a b) σ h = (ev W C a σ h).bind fun x h1 => (tru x h1).bind fun k h2 => if k then ev W C b σ h2 else .ok x h2 := by simp only [ev] <;> rfl
@[simp] theorem e_or (a b : Ex) : ev W C (.or_ a b) σ h = (ev W C a σ h).bind fun x h1 => (tru x h1).bind fun k h2 => if k then .ok x h2 else ev W C b σ h2 := by simp only [ev] <;> rfl
@[simp] theorem e_not (a : Ex) : ev W C (.not_ a) σ h = (ev W C a σ h).bind fun x h1 => (tru x h1).bind fun k h2 => .ok (.d (.bool (!k))) h2 := by simp only [ev] <;> rfl
@[simp] theorem e_ife (c a b : Ex) : ev W C (.ife c a b) σ h = (ev W C c σ h).bind fun x h1 => (tru x h1).bind fun k h2 => if k then ev W C a σ h2 else ev W C b σ h2 := by simp only [ev] <;> rfl
@[simp] theorem e_tup (xs : List Ex) : ev W C (.tup xs) σ h = (evs W C xs σ h).bind fun vs h1 => (toDs vs h1).bind fun ds h2 => .ok (.d (.tuple ds)) h2 := by simp only [ev] <;> rfl
@[simp] theorem e_ofL (l : Lx) : ev W C (.ofL l) σ h = (evL W C l σ h).bind fun vs h1 => (toDs vs h1).bind fun ds h2 => .ok (.d (.list ds)) h2 := by simp only [ev] <;> rfl
@[simp] theorem e_new (l : Lx) : ev W C (.new l) σ h = (evL W C l σ h).bind fun vs h1 => .ok (.ref h1.length) (h1 ++ [.lst vs]) := by simp only [ev] <;> rfl
@[simp] theorem e_ix (a b : Ex) : ev W C (.ix a b) σ h = (ev W C a σ h).bind fun x h1 => (ev W C b σ h1).bind fun y h2 => ixV x y h2 := by simp only [ev] <;> rfl
@[simp] theorem e_slc (a : Ex) (lo hi : Option Ex) : ev W C (.slc a lo hi) σ h = (ev W C a σ h).bind fun x h1 => (evO W C lo σ h1).bind fun l h2 => (evO W C hi σ h2).bind fun u h3 => slcV x l u h3 := by simp only [ev] <;> rfl
@[simp] theorem e_prm (p : Prm) (xs : List Ex) : ev W C (.prm p xs) σ h = (evs W C xs σ h).bind fun vs h1 => prmV p vs h1 := by simp only [ev] <;> rfl
@[simp] theorem e_app (o a : Ex) : ev W C (.app o a) σ h = (ev W C o σ h).bind fun x h1 => (lstV x h1).bind fun _ h1 => (ev W C a σ h1).bind fun y h2 => appV x y h2 := by simp only [ev] <;> rfl
@[simp] theorem e_fmt (a : Ex) : ev W C (.fmt a) σ h = (ev W C a σ h).bind fun x h1 => match partS x with
    | some s => .ok (.d (.str s)) h1
    | none => .no := by simp only [ev] <;> rfl
@[simp] theorem e_fst (xs : List Ex) : ev W C (.fst xs) σ h = (evJ W C xs Str.empty σ h).bind fun s h1 => .ok (.d (.str s)) h1 := by simp only [ev] <;> rfl
@[simp] theorem e_frz (a : Ex) : ev W C (.frz a) σ h = (ev W C a σ h).bind fun x h1 => (toD x h1).bind fun d h2 => .ok (.d d) h2 := by simp only [ev] <;> rfl
@[simp] theorem es_nil : evs W C [] σ h = .ok [] h := by simp only [evs] <;> rfl
@[simp] theorem es_cons (e : Ex) (es : List Ex) : evs W C (e :: es) σ h = (ev W C e σ h).bind fun v h1 => (evs W C es σ h1).bind fun vs h2 => .ok (v :: vs) h2 := by simp only [evs] <;> rfl
@[simp] theorem eo_none : evO W C none σ h = .ok none h := by simp only [evO] <;> rfl
@[simp] theorem eo_some (e : Ex) : evO W C (some e) σ h = (ev W C e σ h).bind fun x h1 => match intV x with
    | some i => .ok (some i) h1
    | none => .no := by simp only [evO] <;> rfl
@[simp] theorem ei_nil : evI W C [] σ h = .ok true h := by simp only [evI] <;> rfl
@[simp] theorem ei_cons (e : Ex) (es : List Ex) : evI W C (e :: es) σ h = (ev W C e σ h).bind fun x h1 => (tru x h1).bind fun k h2 => if k then evI W C es σ h2 else .ok false h2 := by simp only [evI] <;> rfl
@[simp] theorem ej_nil (acc : Str) : evJ W C [] acc σ h = .ok acc h := by simp only [evJ] <;> rfl
@[simp] theorem ej_cons (e : Ex) (es : List Ex) (acc : Str) : evJ W C (e :: es) acc σ h = (ev W C e σ h).bind fun v h1 => match v with
    | .d (.str y) => if fits (acc ++ y).length then evJ W C es (acc ++ y) σ h1 else .no
    | _ => .no := by simp only [evJ] <;> rfl
@[simp] theorem el_dsp (xs : List Ex) : evL W C (.dsp xs) σ h = (evs W C xs σ h).bind fun vs h1 => if fits vs.length then .ok vs h1 else .no := by simp only [evL] <;> rfl
@[simp] theorem el_cmp (own : List Nat) (t : Tgt) (s : Sx) (ifs : List Ex) (e : Ex) : evL W C (.cmp own t s ifs e) σ h = (evS W C s σ h).bind fun sv h1 => match sv with
    | .data vs => if fits vs.length then cmpL (itm W C own t ifs e σ) vs h1 else .no
    | .obj _ => .no := by simp only [evL] <;> rfl
@[simp] theorem ex_val (a : Ex) : evS W C (.val a) σ h = (ev W C a σ h).bind fun x h1 => srcV x h1 := by simp only [evS] <;> rfl
@[simp] theorem ex_rng (a : Ex) : evS W C (.rng a) σ h = (ev W C a σ h).bind fun x h1 => match intV x with
    | some i => if okRng i then .ok (.data (rangeL 0 i.toNat)) h1 else .no
    | none => .no := by simp only [evS] <;> rfl
@[simp] theorem ex_rng2 (a b : Ex) : evS W C (.rng2 a b) σ h = (ev W C a σ h).bind fun x h1 => (ev W C b σ h1).bind fun y h2 => match intV x, intV y with
    | some i, some j => if okRng i && okRng j then .ok (.data (rangeL i (j - i).toNat)) h2 else .no
    | _, _ => .no := by simp only [evS] <;> rfl
@[simp] theorem ex_zip (a b : Ex) : evS W C (.zip a b) σ h = (ev W C a σ h).bind fun x h1 => (ev W C b σ h1).bind fun y h2 => match x, y with
    | .d (.list xs), .d (.list ys) => .ok (.data ((xs.zip ys).map fun p => .d (.tuple [p.1, p.2]))) h2
    | _, _ => .no := by simp only [evS] <;> rfl
@[simp] theorem x_set (i : Nat) (e : Ex) : ex W C (.set i e) σ h = (ev W C e σ h).thn σ fun v h1 => .ok (.nx (σ.set i (some v))) h1 := by simp only [ex] <;> rfl
@[simp] theorem x_asg (t : Tgt) (e : Ex) : ex W C (.asg t e) σ h = (ev W C e σ h).thn σ fun v h1 => match bindT h1 t v σ with
    | some σ' => .ok (.nx σ') h1
    | none => .no := by simp only [ex] <;> rfl
@[simp] theorem x_par (i j : Nat) (a b : Ex) : ex W C (.par i j a b) σ h = (ev W C a σ h).thn σ fun v h1 => (ev W C b σ h1).thn σ fun w h2 => .ok (.nx ((σ.set i (some v)).set j (some w))) h2 := by simp only [ex] <;> rfl
@[simp] theorem x_six (o i e : Ex) : ex W C (.six o i e) σ h = (ev W C e σ h).thn σ fun v h1 => (ev W C o σ h1).thn σ fun x h2 => (ev W C i σ h2).thn σ fun y h3 => (setV x y v h3).thn σ fun _ h4 => .ok (.nx σ) h4 := by simp only [ex] <;> rfl
@[simp] theorem x_exp (e : Ex) : ex W C (.exp e) σ h = (ev W C e σ h).thn σ fun _ h1 => .ok (.nx σ) h1 := by simp only [ex] <;> rfl
@[simp] theorem x_iff (c : Ex) (a b : List St) : ex W C (.iff c a b) σ h = (cnd W C c σ h).thn σ fun k h2 => if k then exs W C a σ h2 else exs W C b σ h2 := by simp only [ex] <;> rfl
@[simp] theorem x_for (t : Tgt) (s : Sx) (b : List St) : ex W C (.for_ t s b) σ h = (evS W C s σ h).thn σ fun sv h1 => match sv with
    | .data vs => forL (turnV t (bdy W C b)) vs σ h1
    | .obj n => forO (turnV t (bdy W C b)) n W 0 σ h1 := by simp only [ex] <;> rfl
@[simp] theorem x_whl (c : Ex) (b : List St) : ex W C (.whl c b) σ h = whlN (cnd W C c) (bdy W C b) W σ h := by simp only [ex] <;> rfl
@[simp] theorem x_ret (e : Ex) : ex W C (.ret e) σ h = (ev W C e σ h).thn σ fun v h1 => .ok (.rt v) h1 := by simp only [ex] <;> rfl
@[simp] theorem x_retN : ex W C .retN σ h = .ok (.rt (.d .none)) h := by simp only [ex] <;> rfl
@[simp] theorem x_brk : ex W C .brk σ h = .ok (.bk σ) h := by simp only [ex] <;> rfl
@[simp] theorem x_cnt : ex W C .cnt σ h = .ok (.ct σ) h := by simp only [ex] <;> rfl
@[simp] theorem x_pas : ex W C .pas σ h = .ok (.nx σ) h := by simp only [ex] <;> rfl
@[simp] theorem x_rse (c : Nat) : ex W C (.rse c) σ h = .er ⟨c, none⟩ σ h := by simp only [ex] <;> rfl
@[simp] theorem xs_nil : exs W C [] σ h = .ok (.nx σ) h := by simp only [exs] <;> rfl
@[simp] theorem xs_cons (s : St) (ss : List St) : exs W C (s :: ss) σ h = (ex W C s σ h).thn fun σ' h1 => exs W C ss σ' h1 := by simp only [exs] <;> rfl
@[simp] theorem thn_rt (v : Val) (h : Hq) (f : Sg → Hq → RF) : (RF.ok (.rt v) h).thn f = .ok (.rt v) h := rfl
@[simp] theorem thn_bk (f : Sg → Hq → RF) : (RF.ok (.bk σ) h).thn f = .ok (.bk σ) h := rfl
@[simp] theorem thn_ct (f : Sg → Hq → RF) : (RF.ok (.ct σ) h).thn f = .ok (.ct σ) h := rfl
@[simp] theorem thn_er (e : Exc) (f : Sg → Hq → RF) : (RF.er e σ h).thn f = .er e σ h := rfl
@[simp] theorem turn_rt (v : Val) (h : Hq) (f : Sg → Hq → RF) : (RF.ok (.rt v) h).turn f = .ok (.rt v) h := rfl
@[simp] theorem turn_er (e : Exc) (f : Sg → Hq → RF) : (RF.er e σ h).turn f = .er e σ h := rfl
@[simp] theorem forL_nil (f : Val → Sg → Hq → RF) : forL f [] σ h = .ok (.nx σ) h := rfl
theorem forL_cons (f : Val → Sg → Hq → RF) (v : Val) (vs : List Val) : forL f (v :: vs) σ h = (f v σ h).turn fun σ' h1 => forL f vs σ' h1 := rfl
@[simp] theorem cmpL_nil (f : Val → Hq → R (List Val)) : cmpL f [] h = .ok [] h := rfl
theorem cmpL_cons (f : Val → Hq → R (List Val)) (v : Val) (vs : List Val) : cmpL f (v :: vs) h = (f v h).bind fun ws h1 => (cmpL f vs h1).bind fun us h2 => .ok (ws ++ us) h2 := rfl
@[simp] theorem bindT_nm (i : Nat) (v : Val) : bindT h (.nm i) v σ = some (σ.set i (some v)) := rfl
/-- a call by the table -/
@[simp] theorem ev_call (f : Nat) (xs : List Ex) (σ : Sg) (h : Hq) : ev W (orcs T W (j + 1)) (.call f xs) σ h = (evs W (orcs T W (j + 1)) xs σ h).bind fun vs h1 => match T[f]? with
    | some fn => callR W (orcs T W j) fn vs h1
    | none => .no := by
  have e2 : orcs T W (j + 1) = (fun f vs h => match T[f]? with
    | some fn => callR W (orcs T W j) fn vs h
    | none => .no) :: orcs T W j := rfl
  rw [e2]
  simp only [ev]
/-- a pure def over data -/
theorem call_p {fn : Fn} {ds : List D} {x : D} {v : Val} {h1 h2 : Hq} (hp : fn.pure = true) (hl : ds.length = fn.ps) (e : run W C fn (ds.map .d) [] = .ok v h1) (e2 : toD v h1 = .ok x h2) : callR W C fn (ds.map .d) h = .ok (.d x) h := by
  have ha : allDat (ds.map Val.d) = true := by
    clear e hl
    induction ds with
    | nil => rfl
    | cons d ds ih => exact ih
  unfold callR
  rw [if_pos (by rw [List.length_map]; exact hl), if_pos hp, pks_map]
  simp only [e, e2, ha, Bool.or_true, if_true]
theorem call_pd {fn : Fn} {ds : List D} {x : D} {h1 : Hq} (hp : fn.pure = true) (hl : ds.length = fn.ps) (e : run W C fn (ds.map .d) [] = .ok (.d x) h1) : callR W C fn (ds.map .d) h = .ok (.d x) h := call_p hp hl e rfl
/-- a def over this run's objects -/
theorem call_s {fn : Fn} {vs : List Val} {x : D} {v : Val} {h1 h2 : Hq} (hp : fn.pure = false) (hl : vs.length = fn.ps) (e : run W C fn vs h = .ok v h1) (e2 : toD v h1 = .ok x h2) (hc : closed h.length (h2.take h.length) = true) : callR W C fn vs h = .ok (.d x) (h2.take h.length) := by
  unfold callR
  rw [if_pos hl, if_neg (by rw [hp]; decide)]
  simp only [e, e2, hc, if_true]
end

/-! ### how long a text is -/
mutual
def sz : D → Nat
  | .none => 4
  | .bool _ => 5
  | .int _ => 2000
  | .str x => (reprText x).length
  | .list xs => 2 + szAll xs
  | .tuple xs => 4 + szAll xs
  | .dict _ => 0
def szAll : List D → Nat
  | [] => 0
  | x :: xs => sz x + 2 + szAll xs
end
theorem textFrom_le : ∀ (ts : List Str) (k : Nat) (acc : Str) (m : Nat), (ts.map fun t => t.length + 2).sum ≤ m → (textFrom k acc ts).length ≤ acc.length + m
  | [], k, acc, m, _ => by show acc.length ≤ _; omega
  | t :: r, k, acc, m, h => by
    simp only [List.map_cons, List.sum_cons] at h
    have e : (acc ++ (if k > 0 then ", " else "" : String) ++ t).length = acc.length + (if k > 0 then 2 else 0) + t.length := by
      rw [strLen_append, strLen_append]
      congr 2
      split <;> rfl
    have := textFrom_le r (k + 1) (acc ++ (if k > 0 then ", " else "" : String) ++ t) (m - (t.length + 2)) (by omega)
    show (textFrom (k + 1) (acc ++ (if k > 0 then ", " else "" : String) ++ t) r).length ≤ _
    have e2 : (if k > 0 then 2 else 0 : Nat) ≤ 2 := by split <;> omega
    generalize (textFrom (k + 1) (acc ++ (if k > 0 then ", " else "" : String) ++ t) r).length = z at this ⊢
    omega
theorem piled_is (ts : List Str) : piled ts = (ts.map fun t => t.length + 2).sum := by
  induction ts with
  | nil => rfl
  | cons t r ih => simp only [piled, List.map_cons, List.sum_cons] at ih ⊢; try omega
mutual
theorem shown_le : ∀ x : D, x.showable = true → x.hasDict = false → x.shown.length ≤ sz x
  | .none, _, _ => by decide
  | .bool b, _, _ => by cases b <;> decide
  | .int i, h, _ => by
    have h : i.natAbs.log2 < 1920 := of_decide_eq_true h
    show (Str.ofString (toString i)).length ≤ 2000
    have e := int_text_length_le (k := 1920) (by decide) h
    rw [ofString_length]
    omega
  | .str x, _, _ => Nat.le_refl _
  | .list xs, h, d => by
    have := shownAll_le xs h d
    show (listText (PyData.shownAll xs)).length ≤ 2 + szAll xs
    unfold listText
    rw [strLen_append]
    have e := textFrom_le (PyData.shownAll xs) 0 "[" _ this
    have e1 : (("[" : String) : Str).length = 1 := rfl
    have e2 : (("]" : String) : Str).length = 1 := rfl
    omega
  | .tuple xs, h, d => by
    have := shownAll_le xs h d
    show (tupleText (PyData.shownAll xs)).length ≤ 4 + szAll xs
    unfold tupleText
    rw [strLen_append, strLen_append]
    have e1 : (("(" : String) : Str).length = 1 := rfl
    have e3 : ((if (PyData.shownAll xs).length == 1 then ",)" else ")" : String) : Str).length ≤ 2 := by split <;> decide
    have e4 : (Str.join ", " (PyData.shownAll xs)).length ≤ (List.map (fun t => t.length + 2) (PyData.shownAll xs)).sum := by
      by_cases hn : PyData.shownAll xs = []
      · rw [hn]; decide
      · have := join_length_add _ hn
        rw [piled_is] at this
        omega
    omega
  | .dict _, _, d => by cases d
theorem shownAll_le : ∀ xs : List D, PyData.showableAll xs = true → PyData.hasDictAll xs = false → ((PyData.shownAll xs).map fun t => t.length + 2).sum ≤ szAll xs
  | [], _, _ => Nat.le_refl _
  | x :: xs, h, d => by
    simp only [PyData.showableAll, Bool.and_eq_true] at h
    simp only [PyData.hasDictAll, Bool.or_eq_false_iff] at d
    have h1 := shown_le x h.1 d.1
    have h2 := shownAll_le xs h.2 d.2
    simp only [PyData.shownAll, List.map_cons, List.sum_cons, szAll]
    omega
end
/-- what repr([x]) may be asked of -/
structure OkR (x : D) : Prop where
  sh : x.showable = true
  nd : x.hasDict = false
  dp : x.depth ≤ 50
  sz : sz x ≤ 16000000
theorem repr_1 {x : D} (o : OkR x) : prmD .repr [.list [x]] = some (.str (PyData.list [x]).shown) := by
  have h1 : (PyData.list [x]).showable = true := by
    show (x.showable && true) = true
    rw [o.sh]; rfl
  have h2 : (PyData.list [x]).hasDict = false := by
    show (x.hasDict || false) = false
    rw [o.nd]; rfl
  have h3 : (PyData.list [x]).depth ≤ 60 := by
    show max x.depth 0 + 1 ≤ 60
    have := o.dp
    omega
  have h4 : fits (PyData.list [x]).shown.length = true := by
    have := shown_le _ h1 h2
    have e : sz (.list [x]) = 2 + (sz x + 2 + 0) := rfl
    have := o.sz
    exact decide_eq_true (by omega)
  show (if (PyData.list [x]).showable && !(PyData.list [x]).hasDict && decide ((PyData.list [x]).depth ≤ 60) && fits (PyData.list [x]).shown.length then _ else _) = _
  rw [h1, h2, decide_eq_true h3, h4]
  rfl
/-- the two are shown alike -/
def sameFn : Fn := ⟨2, 2, true, [.ret (.cmp .eq (.prm .repr [(.ofL (.dsp [(.var 0)]))]) (.prm .repr [(.ofL (.dsp [(.var 1)]))]))]⟩
theorem same_ok {W : Nat} {C : List Orc} {x : D} {h : Hq} (o : OkR x) : callR W C sameFn [.d x, .d x] h = .ok (.d (.bool true)) h := by
  refine call_pd (ds := [x, x]) rfl rfl (h1 := []) ?_
  simp [Ip.run, sameFn, fits, repr_1 o]
end Ip
/-! ### sizes, loops -/
namespace Ip
open PySem
def Sm (n : Nat) (x : Int) : Prop := x.natAbs < 2 ^ n
theorem Sm.mono {n m : Nat} {x : Int} (h : Sm n x) (hm : n ≤ m) : Sm m x := Nat.lt_of_lt_of_le h (Nat.pow_le_pow_right (by decide) hm)
theorem Sm.mul {n m : Nat} {x y : Int} (h : Sm n x) (k : Sm m y) : Sm (n + m) (x * y) := by
  unfold Sm at *
  rw [Int.natAbs_mul, Nat.pow_add]
  exact Nat.mul_lt_mul'' h k
theorem Sm.add {n : Nat} {x y : Int} (h : Sm n x) (k : Sm n y) : Sm (n + 1) (x + y) := by
  unfold Sm at *
  have := Int.natAbs_add_le x y
  rw [Nat.pow_succ]
  omega
theorem Sm.neg {n : Nat} {x : Int} (h : Sm n x) : Sm n (-x) := by unfold Sm at *; rw [Int.natAbs_neg]; exact h
theorem Sm.log {n : Nat} {x : Int} (h : Sm n x) : x.natAbs.log2 ≤ n := by
  by_cases h0 : x.natAbs = 0
  · rw [h0]; exact Nat.zero_le _
  · exact Nat.le_of_lt ((Nat.log2_lt h0).mpr h)
theorem Sm.le {n : Nat} {x y : Int} (h : Sm n x) (k : y.natAbs ≤ x.natAbs) : Sm n y := Nat.lt_of_le_of_lt k h
theorem okMul_sm {n m : Nat} {x y : Int} (h : Sm n x) (k : Sm m y) (hn : n + m < 900000) : okMul x y = true := by
  have := h.log
  have := k.log
  exact decide_eq_true (by omega)
theorem okDiv_sm {n : Nat} {x : Int} (h : Sm n x) (h0 : x ≠ 0) (hn : n < 8000) : okDiv x = true := by
  have := h.log
  unfold okDiv
  rw [decide_eq_true h0, decide_eq_true (by omega : x.natAbs.log2 < 8000)]
  rfl
theorem OkR.int {n : Nat} {x : Int} (h : Sm n x) (hn : n < 1920) : OkR (.int x) := by
  have := h.log
  exact ⟨decide_eq_true (by omega : x.natAbs.log2 < 1920), rfl, Nat.zero_le _, (by show 2000 ≤ 16000000; decide)⟩
/-- a walk that keeps P; a turn adds one -/
theorem forL_cnt {N : Nat} {f : Val → Sg → Hq → RF} {P : Nat → Sg → Hq → Prop} (mono : ∀ n σ h, P n σ h → P (n + 1) σ h) : ∀ (vs : List Val) (n : Nat) (σ : Sg) (h : Hq),
    (∀ v ∈ vs, ∀ n σ h, n < N → P n σ h → ∃ σ' h', P (n + 1) σ' h' ∧ (f v σ h = .ok (.nx σ') h' ∨ f v σ h = .ok (.ct σ') h' ∨ f v σ h = .ok (.bk σ') h')) → n + vs.length ≤ N → P n σ h → ∃ σ' h', P (n + vs.length) σ' h' ∧ forL f vs σ h = .ok (.nx σ') h'
  | [], n, σ, h, _, _, p => ⟨σ, h, p, rfl⟩
  | v :: vs, n, σ, h, st, hN, p => by
    rw [List.length_cons] at hN
    obtain ⟨σ1, h1, p1, e⟩ := st v List.mem_cons_self n σ h (by omega) p
    have up : ∀ k, P (n + 1 + k) σ1 h1 := fun k => by
      induction k with
      | zero => exact p1
      | succ k ih => exact mono _ _ _ ih
    obtain ⟨σ2, h2, p2, e2⟩ := forL_cnt mono vs (n + 1) σ1 h1 (fun v hv => st v (List.mem_cons_of_mem _ hv)) (by omega) p1
    have el : n + 1 + vs.length = n + (v :: vs).length := by rw [List.length_cons]; omega
    rw [forL_cons]
    rcases e with e | e | e
    · rw [e]; exact ⟨σ2, h2, el ▸ p2, e2⟩
    · rw [e]; exact ⟨σ2, h2, el ▸ p2, e2⟩
    · rw [e]; exact ⟨σ1, h1, el ▸ up vs.length, rfl⟩
/-- a comprehension: each item keeps P and gives one value of kind K -/
theorem cmpL_cnt {N : Nat} {f : Val → Hq → R (List Val)} {P : Nat → Hq → Prop} {K : Val → Prop} : ∀ (vs : List Val) (n : Nat) (h : Hq),
    (∀ v ∈ vs, ∀ n h, n < N → P n h → ∃ x h', P (n + 1) h' ∧ K x ∧ f v h = .ok [x] h') → n + vs.length ≤ N → P n h → ∃ xs h', P (n + vs.length) h' ∧ xs.length = vs.length ∧ (∀ x ∈ xs, K x) ∧ cmpL f vs h = .ok xs h'
  | [], n, h, _, _, p => ⟨[], h, p, rfl, fun x hx => (by cases hx), rfl⟩
  | v :: vs, n, h, st, hN, p => by
    rw [List.length_cons] at hN
    obtain ⟨x, h1, p1, k1, e⟩ := st v List.mem_cons_self n h (by omega) p
    obtain ⟨xs, h2, p2, l2, k2, e2⟩ := cmpL_cnt vs (n + 1) h1 (fun v hv => st v (List.mem_cons_of_mem _ hv)) (by omega) p1
    have el : n + 1 + vs.length = n + (v :: vs).length := by rw [List.length_cons]; omega
    refine ⟨x :: xs, h2, el ▸ p2, by rw [List.length_cons, List.length_cons, l2], fun y hy => ?_, ?_⟩
    · rcases List.mem_cons.mp hy with rfl | hy
      · exact k1
      · exact k2 y hy
    · rw [cmpL_cons, e]
      simp only [R.bind_ok, e2, List.cons_append, List.nil_append]
/-- a comprehension whose items do not touch the heap -/
theorem cmpL_map {f : Val → Hq → R (List Val)} {g : Val → Val} {h : Hq} : ∀ (vs : List Val), (∀ v ∈ vs, f v h = .ok [g v] h) → cmpL f vs h = .ok (vs.map g) h
  | [], _ => rfl
  | v :: vs, st => by
    rw [cmpL_cons, st v List.mem_cons_self]
    simp only [R.bind_ok, cmpL_map vs fun v hv => st v (List.mem_cons_of_mem _ hv), List.cons_append, List.nil_append, List.map_cons]
theorem rangeL_len : ∀ (n : Nat) (i : Int), (rangeL i n).length = n
  | 0, _ => rfl
  | n + 1, i => by unfold rangeL; rw [List.length_cons, rangeL_len n]
theorem rangeL_mem : ∀ {n : Nat} {i : Int} {v : Val}, v ∈ rangeL i n → ∃ k : Int, v = .d (.int k) ∧ i ≤ k ∧ k < i + n
  | 0, _, _, h => by cases h
  | n + 1, i, v, h => by
    unfold rangeL at h
    rcases List.mem_cons.mp h with rfl | h
    · exact ⟨i, rfl, Int.le_refl _, by omega⟩
    · obtain ⟨k, e, h1, h2⟩ := rangeL_mem h
      exact ⟨k, e, by omega, by omega⟩
end Ip
namespace Ip
open PySem
/-- a walk that is a fold -/
theorem forL_fold {α β : Type} {N : Nat} {f : Val → Sg → Hq → RF} {h : Hq} (val : α → Val) (st : β → Option Val → Sg) (g : β → α → β) (P : Nat → β → Prop) : ∀ (as : List α) (n : Nat) (b : β) (k : Option Val),
    (∀ a ∈ as, ∀ n b k, n < N → P n b → P (n + 1) (g b a) ∧ f (val a) (st b k) h = .ok (.nx (st (g b a) (some (val a)))) h) → n + as.length ≤ N → P n b → ∃ k', forL f (as.map val) (st b k) h = .ok (.nx (st (as.foldl g b) k')) h ∧ P (n + as.length) (as.foldl g b)
  | [], n, b, k, _, _, p => ⟨k, rfl, p⟩
  | a :: as, n, b, k, s, hN, p => by
    rw [List.length_cons] at hN
    obtain ⟨p1, e1⟩ := s a List.mem_cons_self n b k (by omega) p
    obtain ⟨k', e2, p2⟩ := forL_fold val st g P as (n + 1) (g b a) (some (val a)) (fun x hx => s x (List.mem_cons_of_mem _ hx)) (by omega) p1
    refine ⟨k', ?_, ?_⟩
    · rw [List.map_cons, forL_cons, e1]
      exact e2
    · have el : n + 1 + as.length = n + (a :: as).length := by rw [List.length_cons]; omega
      exact el ▸ p2
@[simp] theorem srcV_l (xs : List D) (h : Hq) : srcV (.d (.list xs)) h = .ok (.data (xs.map .d)) h := rfl
@[simp] theorem srcV_t (xs : List D) (h : Hq) : srcV (.d (.tuple xs)) h = .ok (.data (xs.map .d)) h := rfl
end Ip
namespace Ip
open PySem
theorem cutD_map {α β : Type} (f : α → β) (xs : List α) (l u : Option Int) : cutD (xs.map f) l u = (cutD xs l u).map f := by
  unfold cutD
  rw [List.length_map, ← List.map_drop, ← List.map_take]
@[simp] theorem slcV_l (xs : List D) (l u : Option Int) (h : Hq) : slcV (.d (.list xs)) l u h = .ok (.d (.list (cutD xs l u))) h := by
  show ((toDs (cutD (xs.map Val.d) l u) h).bind fun ds h1 => R.ok (Val.d (.list ds)) h1) = _
  rw [cutD_map, toDs_map]; rfl
@[simp] theorem cutD_1 {α : Type} (x : α) (xs : List α) : cutD (x :: xs) (some 1) none = xs := by
  unfold cutD cutIx
  have : min (1 : Int).toNat (x :: xs).length = 1 := by rw [List.length_cons]; show min 1 _ = 1; omega
  simp only [show ¬ ((1 : Int) < 0) by decide, if_false, this]
  simp
end Ip
namespace Ip
open PySem
@[simp] theorem toDs_comp {α : Type} (f : α → D) (xs : List α) (h : Hq) : toDs (xs.map (Val.d ∘ f)) h = .ok (xs.map f) h := by
  rw [← List.map_map, toDs_map]
@[simp] theorem toDs_map' (xs : List D) (h : Hq) : toDs (xs.map .d) h = .ok xs h := toDs_map xs
theorem fits_le {n : Nat} (h : n ≤ 16777216) : fits n = true := decide_eq_true h
/-- a number's text -/
def tx (i : Int) : Str := toString i
@[simp] theorem partS_i (i : Int) : partS (.d (.int i)) = if i.natAbs.log2 < 1920 then some (tx i) else none := rfl
@[simp] theorem partS_s (s : Str) : partS (.d (.str s)) = if fits s.length then some s else none := rfl
@[simp] theorem prm_str (i : Int) : prmD .str [.int i] = if i.natAbs.log2 < 1920 then some (.str (tx i)) else none := rfl
@[simp] theorem binD_cat (x y : Str) : binD .add (.str x) (.str y) = if fits (x.length + y.length) then some (.str (x ++ y)) else none := rfl
@[simp] theorem binD_pow (i k : Int) : binD .pow (.int i) (.int k) = if okPow i k then some (.int (i ^ k.toNat)) else none := rfl
theorem text_le {n : Nat} {i : Int} (h : Sm n i) (hn : n < 1920) : (tx i).length ≤ 2000 := by
  have e := int_text_length_le (k := 1920) (by decide) (show i.natAbs.log2 < 1920 by have := h.log; omega)
  show (Str.ofString (toString i)).length ≤ 2000
  rw [ofString_length]
  omega
end Ip
namespace Ip
open PySem
theorem pk_d (h : Hq) (n : Nat) (x : D) : pk h n (.d x) = some x := by cases n <;> rfl
theorem allO_map (h : Hq) (n : Nat) : ∀ xs : List D, allO (pk h n) (xs.map .d) = some xs
  | [] => rfl
  | x :: xs => by
    show (match pk h n (.d x), allO (pk h n) (xs.map .d) with | some a, some b => some (a :: b) | _, _ => none) = _
    rw [pk_d, allO_map h n xs]
/-- a list object of data -/
def obj (xs : List D) : IO := .lst (xs.map .d)
theorem peek_obj {h : Hq} {n : Nat} {xs : List D} (e : h[n]? = some (obj xs)) : peek h (.ref n) = some (.list xs) := by
  unfold peek pk
  simp only [e, obj, allO_map, Option.map_some]
theorem prmV_obj {h : Hq} {n : Nat} {xs : List D} (p : Prm) (e : h[n]? = some (obj xs)) : prmV p [.ref n] h = match prmD p [.list xs] with
    | some c => .ok (.d c) h
    | none => .no := by
  have e2 : pks h 3 [.ref n] = some [.list xs] := by
    show (match peek h (.ref n), some ([] : List D) with | some a, some b => some (a :: b) | _, _ => none) = _
    rw [peek_obj e]
  unfold prmV
  simp only [e2]
  try rfl
theorem appV_obj {h : Hq} {n : Nat} {xs : List D} (x : D) (e : h[n]? = some (obj xs)) (hl : xs.length < 16777216) : appV (.ref n) (.d x) h = .ok (.d .none) (h.set n (obj (xs ++ [x]))) := by
  unfold appV
  simp only [e, obj, List.length_map, hl, if_true, List.map_append, List.map_cons, List.map_nil]
theorem lstV_obj {h : Hq} {n : Nat} {xs : List D} (e : h[n]? = some (obj xs)) : lstV (.ref n) h = .ok () h := by
  unfold lstV
  simp only [e, obj]
theorem toD_obj {h : Hq} {n : Nat} {xs : List D} (e : h[n]? = some (obj xs)) : toD (.ref n) h = .ok (.list xs) (h.set n (.dead (.list xs))) := by
  unfold toD
  simp only [e, obj, dats_map]
end Ip
namespace Ip
open PySem
theorem okRng_of {i : Int} (h1 : 0 ≤ i) (h2 : i < 1000000000) : okRng i = true := by
  have h : Sm 30 i := by unfold Sm; omega
  have := h.log
  exact decide_eq_true (by omega)
end Ip

set_option linter.all false
set_option Elab.async false
set_option autoImplicit false
set_option maxRecDepth 100000
namespace K01
open PySem L2 PyProof.Rows Ip
/-! ### the text, as the evaluator has it -/
def topS (i : Nat) : Stmt := PySem.Challenge.pw_cellshapes_k01_ratios.main.body.getD i (.Pass ⟨0, 0, 0, 0⟩)
/-- divisor -/
def b_divisor : List Ip.St :=
  [.par 0 1 (.prm .abs [(.var 0)]) (.prm .abs [(.var 1)]),
   .whl (.cmp .gt (.var 1) (.lit (.int 0)))
     [.par 0 1 (.var 1) (.bin .mod (.var 0) (.var 1))],
   .ret (.var 0)]
def f_divisor : Fn := ⟨2, 2, true, b_divisor⟩
/-- ratio -/
def b_ratio : List Ip.St :=
  [.iff (.cmp .eq (.var 1) (.lit (.int 0)))
     [.nev]
     [],
   .set 2 (.call 0 [(.var 0), (.var 1)]),
   .iff (.cmp .lt (.var 1) (.lit (.int 0)))
     [.set 2 (.neg (.var 2))]
     [],
   .ret (.tup [(.bin .fdiv (.var 0) (.var 2)), (.bin .fdiv (.var 1) (.var 2))])]
def f_ratio : Fn := ⟨2, 3, true, b_ratio⟩
/-- is_ratio -/
def b_is_ratio : List Ip.St :=
  [.ret (.and_ (.cmp .eq (.prm .len [(.var 0)]) (.lit (.int 2))) (.and_ (.cmp .ge (.ix (.var 0) (.lit (.int 1))) (.lit (.int 1))) (.cmp .eq (.call 0 [(.ix (.var 0) (.lit (.int 0))), (.ix (.var 0) (.lit (.int 1)))]) (.lit (.int 1)))))]
def f_is_ratio : Fn := ⟨1, 1, true, b_is_ratio⟩
/-- added -/
def b_added : List Ip.St :=
  [.ret (.call 1 [(.bin .add (.bin .mul (.ix (.var 0) (.lit (.int 0))) (.ix (.var 1) (.lit (.int 1)))) (.bin .mul (.ix (.var 1) (.lit (.int 0))) (.ix (.var 0) (.lit (.int 1))))), (.bin .mul (.ix (.var 0) (.lit (.int 1))) (.ix (.var 1) (.lit (.int 1))))])]
def f_added : Fn := ⟨2, 2, true, b_added⟩
/-- negative -/
def b_negative : List Ip.St :=
  [.ret (.tup [(.neg (.ix (.var 0) (.lit (.int 0)))), (.ix (.var 0) (.lit (.int 1)))])]
def f_negative : Fn := ⟨1, 1, true, b_negative⟩
/-- times -/
def b_times : List Ip.St :=
  [.ret (.call 1 [(.bin .mul (.ix (.var 0) (.lit (.int 0))) (.ix (.var 1) (.lit (.int 0)))), (.bin .mul (.ix (.var 0) (.lit (.int 1))) (.ix (.var 1) (.lit (.int 1))))])]
def f_times : Fn := ⟨2, 2, true, b_times⟩
/-- over -/
def b_over : List Ip.St :=
  [.ret (.call 1 [(.bin .mul (.ix (.var 0) (.lit (.int 0))) (.ix (.var 1) (.lit (.int 1)))), (.bin .mul (.ix (.var 0) (.lit (.int 1))) (.ix (.var 1) (.lit (.int 0))))])]
def f_over : Fn := ⟨2, 2, true, b_over⟩
/-- less -/
def b_less : List Ip.St :=
  [.ret (.cmp .lt (.bin .mul (.ix (.var 0) (.lit (.int 0))) (.ix (.var 1) (.lit (.int 1)))) (.bin .mul (.ix (.var 1) (.lit (.int 0))) (.ix (.var 0) (.lit (.int 1)))))]
def f_less : Fn := ⟨2, 2, true, b_less⟩
/-- greatest -/
def b_greatest : List Ip.St :=
  [.set 1 (.ix (.var 0) (.lit (.int 0))),
   .for_ (.nm 2) (.val (.slc (.var 0) (some (.lit (.int 1))) none))
     [.set 1 (.ife (.call 7 [(.var 1), (.var 2)]) (.var 2) (.var 1))],
   .ret (.var 1)]
def f_greatest : Fn := ⟨1, 3, true, b_greatest⟩
/-- summed -/
def b_summed : List Ip.St :=
  [.set 1 (.tup [(.lit (.int 0)), (.lit (.int 1))]),
   .for_ (.nm 2) (.val (.var 0))
     [.set 1 (.call 3 [(.var 1), (.var 2)])],
   .ret (.var 1)]
def f_summed : Fn := ⟨1, 3, true, b_summed⟩
/-- weighed -/
def b_weighed : List Ip.St :=
  [.ret (.call 9 [(.ofL (.cmp [2, 3] (.tp [2, 3]) (.zip (.var 0) (.var 1)) [] (.call 5 [(.var 2), (.var 3)])))])]
def f_weighed : Fn := ⟨2, 4, true, b_weighed⟩
/-- ratio_text -/
def b_ratio_text : List Ip.St :=
  [.ret (.ife (.cmp .eq (.ix (.var 0) (.lit (.int 1))) (.lit (.int 1))) (.prm .str [(.ix (.var 0) (.lit (.int 0)))]) (.fst [(.fmt (.ix (.var 0) (.lit (.int 0)))), (.lit (.str "/")), (.fmt (.ix (.var 0) (.lit (.int 1))))]))]
def f_ratio_text : Fn := ⟨1, 1, true, b_ratio_text⟩
/-- _law_same -/
def b__law_same : List Ip.St :=
  [.ret (.cmp .eq (.prm .repr [(.ofL (.dsp [(.var 0)]))]) (.prm .repr [(.ofL (.dsp [(.var 1)]))]))]
def f__law_same : Fn := ⟨2, 2, true, b__law_same⟩
/-- _law_stream -/
def b__law_stream : List Ip.St :=
  [.set 1 (.new (.dsp [])),
   .for_ (.nm 2) (.val (.slc (.var 0) none (some (.lit (.int 63)))))
     [.set 3 (.prm .abs [(.prm .int [(.var 2)])]),
      .iff (.cmp .ge (.var 3) (.bin .pow (.lit (.int 10)) (.lit (.int 18))))
        [.for_ (.nm 4) (.rng (.lit (.int 60)))
           [.exp (.app (.var 1) (.bin .mod (.prm .int [(.var 3)]) (.lit (.int 1009)))),
            .set 3 (.bin .fdiv (.var 3) (.lit (.int 1009))),
            .iff (.cmp .eq (.var 3) (.lit (.int 0)))
              [.brk]
              []]]
        [.set 5 (.bin .mod (.prm .int [(.var 3)]) (.lit (.int 2147483647))),
         .for_ (.nm 4) (.rng (.lit (.int 10)))
           [.set 5 (.bin .mod (.prm .int [(.bin .add (.bin .add (.bin .mul (.var 5) (.lit (.int 48271))) (.bin .mul (.lit (.int 7)) (.var 4))) (.lit (.int 11)))]) (.lit (.int 2147483647))),
            .exp (.app (.var 1) (.bin .mod (.bin .mod (.prm .int [(.bin .add (.bin .mul (.var 5) (.lit (.int 69621))) (.var 4))]) (.lit (.int 2147483629))) (.lit (.int 1009))))]]],
   .iff (.cmp .eq (.prm .len [(.var 1)]) (.lit (.int 0)))
     [.exp (.app (.var 1) (.lit (.int 0)))]
     [],
   .ret (.var 1)]
def f__law_stream : Fn := ⟨1, 6, true, b__law_stream⟩
/-- _law_next -/
def b__law_next : List Ip.St :=
  [.six (.var 0) (.lit (.int 1)) (.bin .add (.ix (.var 0) (.lit (.int 1))) (.lit (.int 1))),
   .set 2 (.bin .fdiv (.ix (.var 0) (.lit (.int 1))) (.prm .len [(.ix (.var 0) (.lit (.int 0)))])),
   .ret (.bin .mod (.prm .int [(.bin .add (.bin .add (.ix (.ix (.var 0) (.lit (.int 0))) (.bin .mod (.ix (.var 0) (.lit (.int 1))) (.prm .len [(.ix (.var 0) (.lit (.int 0)))]))) (.bin .mul (.var 2) (.lit (.int 389)))) (.bin .mul (.bin .mul (.ix (.var 0) (.lit (.int 1))) (.var 2)) (.lit (.int 17))))]) (.var 1))]
def f__law_next : Fn := ⟨2, 3, false, b__law_next⟩
/-- _law_divisor -/
def b__law_divisor : List Ip.St :=
  [.set 0 (.prm .max2 [(.var 0), (.bin .sub (.lit (.int 0)) (.var 0))]),
   .set 1 (.prm .max2 [(.var 1), (.bin .sub (.lit (.int 0)) (.var 1))]),
   .whl (.cmp .gt (.var 1) (.lit (.int 0)))
     [.par 0 1 (.var 1) (.bin .mod (.prm .int [(.var 0)]) (.var 1))],
   .ret (.var 0)]
def f__law_divisor : Fn := ⟨2, 2, true, b__law_divisor⟩
/-- _law_ratio -/
def b__law_ratio : List Ip.St :=
  [.set 2 (.call 15 [(.var 0), (.var 1)]),
   .iff (.cmp .lt (.var 1) (.lit (.int 0)))
     [.set 2 (.bin .sub (.lit (.int 0)) (.var 2))]
     [],
   .ret (.tup [(.bin .fdiv (.var 0) (.var 2)), (.bin .fdiv (.var 1) (.var 2))])]
def f__law_ratio : Fn := ⟨2, 3, true, b__law_ratio⟩
/-- _law_plus -/
def b__law_plus : List Ip.St :=
  [.ret (.call 16 [(.bin .add (.bin .mul (.ix (.var 0) (.lit (.int 0))) (.ix (.var 1) (.lit (.int 1)))) (.bin .mul (.ix (.var 1) (.lit (.int 0))) (.ix (.var 0) (.lit (.int 1))))), (.bin .mul (.ix (.var 0) (.lit (.int 1))) (.ix (.var 1) (.lit (.int 1))))])]
def f__law_plus : Fn := ⟨2, 2, true, b__law_plus⟩
/-- _law_sum -/
def b__law_sum : List Ip.St :=
  [.set 1 (.tup [(.lit (.int 0)), (.lit (.int 1))]),
   .for_ (.nm 2) (.val (.var 0))
     [.set 1 (.call 17 [(.var 1), (.var 2)])],
   .ret (.var 1)]
def f__law_sum : Fn := ⟨1, 3, true, b__law_sum⟩
/-- _law_less -/
def b__law_less : List Ip.St :=
  [.ret (.cmp .lt (.bin .mul (.ix (.var 0) (.lit (.int 0))) (.ix (.var 1) (.lit (.int 1)))) (.bin .mul (.ix (.var 1) (.lit (.int 0))) (.ix (.var 0) (.lit (.int 1)))))]
def f__law_less : Fn := ⟨2, 2, true, b__law_less⟩
/-- _law_drawn -/
def b__law_drawn : List Ip.St :=
  [.set 1 (.bin .sub (.call 14 [(.var 0), (.lit (.int 400))]) (.lit (.int 200))),
   .ret (.call 16 [(.bin .mul (.var 1) (.ix (.ofL (.dsp [(.lit (.int 1)), (.bin .pow (.lit (.int 10)) (.lit (.int 6)))])) (.prm .int [(.cmp .eq (.call 14 [(.var 0), (.lit (.int 5))]) (.lit (.int 0)))]))), (.bin .add (.lit (.int 1)) (.call 14 [(.var 0), (.lit (.int 60))]))])]
def f__law_drawn : Fn := ⟨1, 2, false, b__law_drawn⟩
/-- law -/
def b_law : List Ip.St :=
  [.set 1 (.new (.dsp [(.call 13 [(.var 0)]), (.lit (.int 0))])),
   .for_ (.nm 2) (.rng (.lit (.int 12)))
     [.set 3 (.bin .sub (.call 14 [(.var 1), (.lit (.int 900))]) (.lit (.int 450))),
      .set 4 (.ix (.ofL (.dsp [(.bin .add (.lit (.int 1)) (.call 14 [(.var 1), (.lit (.int 80))])), (.bin .sub (.bin .sub (.lit (.int 0)) (.lit (.int 1))) (.call 14 [(.var 1), (.lit (.int 80))]))])) (.call 14 [(.var 1), (.lit (.int 2))])),
      .set 5 (.call 20 [(.var 1)]),
      .set 6 (.call 20 [(.var 1)]),
      .set 7 (.ofL (.cmp [12] (.nm 12) (.rng (.bin .add (.lit (.int 1)) (.call 14 [(.var 1), (.lit (.int 5))]))) [] (.call 20 [(.var 1)]))),
      .set 8 (.ofL (.cmp [14] (.nm 14) (.val (.var 7)) [] (.call 20 [(.var 1)]))),
      .iff (.not_ (.call 12 [(.ofL (.dsp [(.call 1 [(.var 3), (.var 4)]), (.call 2 [(.var 5)]), (.call 2 [(.tup [(.bin .mul (.lit (.int 2)) (.ix (.var 5) (.lit (.int 0)))), (.bin .mul (.lit (.int 2)) (.ix (.var 5) (.lit (.int 1))))])]), (.call 2 [(.tup [(.lit (.int 1)), (.lit (.int 0))])]), (.call 2 [(.tup [(.lit (.int 3)), (.neg (.lit (.int 1)))])])])), (.ofL (.dsp [(.call 16 [(.var 3), (.var 4)]), (.lit (.bool true)), (.lit (.bool false)), (.lit (.bool false)), (.lit (.bool false))]))]))
        [.ret (.lit (.bool false))]
        [],
      .set 9 (.ofL (.dsp [(.call 17 [(.var 5), (.var 6)]), (.tup [(.bin .sub (.lit (.int 0)) (.ix (.var 5) (.lit (.int 0)))), (.ix (.var 5) (.lit (.int 1)))]), (.call 16 [(.bin .mul (.ix (.var 5) (.lit (.int 0))) (.ix (.var 6) (.lit (.int 0)))), (.bin .mul (.ix (.var 5) (.lit (.int 1))) (.ix (.var 6) (.lit (.int 1))))]), (.call 19 [(.var 5), (.var 6)])])),
      .iff (.not_ (.call 12 [(.ofL (.dsp [(.call 3 [(.var 5), (.var 6)]), (.call 4 [(.var 5)]), (.call 5 [(.var 5), (.var 6)]), (.call 7 [(.var 5), (.var 6)])])), (.var 9)]))
        [.ret (.lit (.bool false))]
        [],
      .iff (.and_ (.cmp .ne (.ix (.var 6) (.lit (.int 0))) (.lit (.int 0))) (.not_ (.call 12 [(.call 6 [(.var 5), (.var 6)]), (.call 16 [(.bin .mul (.ix (.var 5) (.lit (.int 0))) (.ix (.var 6) (.lit (.int 1)))), (.bin .mul (.ix (.var 5) (.lit (.int 1))) (.ix (.var 6) (.lit (.int 0))))])])))
        [.ret (.lit (.bool false))]
        [],
      .set 10 (.ix (.var 7) (.lit (.int 0))),
      .set 11 (.tup [(.lit (.int 0)), (.lit (.int 1))]),
      .for_ (.nm 12) (.rng (.prm .len [(.var 7)]))
        [.set 10 (.ix (.ofL (.dsp [(.var 10), (.ix (.var 7) (.var 12))])) (.prm .int [(.call 19 [(.var 10), (.ix (.var 7) (.var 12))])])),
         .set 11 (.call 17 [(.var 11), (.call 16 [(.bin .mul (.ix (.ix (.var 7) (.var 12)) (.lit (.int 0))) (.ix (.ix (.var 8) (.var 12)) (.lit (.int 0)))), (.bin .mul (.ix (.ix (.var 7) (.var 12)) (.lit (.int 1))) (.ix (.ix (.var 8) (.var 12)) (.lit (.int 1))))])])],
      .iff (.not_ (.call 12 [(.ofL (.dsp [(.call 8 [(.var 7)]), (.call 9 [(.var 7)]), (.call 10 [(.var 7), (.var 8)])])), (.ofL (.dsp [(.var 10), (.call 18 [(.var 7)]), (.var 11)]))]))
        [.ret (.lit (.bool false))]
        [],
      .set 13 (.prm .str [(.ix (.var 5) (.lit (.int 0)))]),
      .iff (.cmp .ne (.ix (.var 5) (.lit (.int 1))) (.lit (.int 1)))
        [.set 13 (.bin .add (.bin .add (.var 13) (.lit (.str "/"))) (.prm .str [(.ix (.var 5) (.lit (.int 1)))]))]
        [],
      .iff (.not_ (.call 12 [(.call 11 [(.var 5)]), (.var 13)]))
        [.ret (.lit (.bool false))]
        []],
   .ret (.lit (.bool true))]
def f_law : Fn := ⟨1, 15, true, b_law⟩
def r_divisor : Row := ⟨"divisor", f_divisor, topS 8, ["first", "second"], ["first", "second"]⟩
def r_ratio : Row := ⟨"ratio", f_ratio, topS 9, ["top", "below", "common"], ["top", "below"]⟩
def r_is_ratio : Row := ⟨"is_ratio", f_is_ratio, topS 10, ["value"], ["value"]⟩
def r_added : Row := ⟨"added", f_added, topS 11, ["first", "second"], ["first", "second"]⟩
def r_negative : Row := ⟨"negative", f_negative, topS 12, ["value"], ["value"]⟩
def r_times : Row := ⟨"times", f_times, topS 13, ["first", "second"], ["first", "second"]⟩
def r_over : Row := ⟨"over", f_over, topS 14, ["first", "second"], ["first", "second"]⟩
def r_less : Row := ⟨"less", f_less, topS 15, ["first", "second"], ["first", "second"]⟩
def r_greatest : Row := ⟨"greatest", f_greatest, topS 16, ["values", "best", "value"], ["values"]⟩
def r_summed : Row := ⟨"summed", f_summed, topS 17, ["values", "total", "value"], ["values"]⟩
def r_weighed : Row := ⟨"weighed", f_weighed, topS 18, ["values", "others", "value", "other"], ["values", "others"]⟩
def r_ratio_text : Row := ⟨"ratio_text", f_ratio_text, topS 19, ["value"], ["value"]⟩
def r__law_same : Row := ⟨"_law_same", f__law_same, topS 21, ["told", "due"], ["told", "due"]⟩
def r__law_stream : Row := ⟨"_law_stream", f__law_stream, topS 22, ["script", "numbers", "cell", "rest", "k", "stirred"], ["script"]⟩
def r__law_next : Row := ⟨"_law_next", f__law_next, topS 23, ["state", "many", "turn"], ["state", "many"]⟩
def r__law_divisor : Row := ⟨"_law_divisor", f__law_divisor, topS 25, ["first", "second"], ["first", "second"]⟩
def r__law_ratio : Row := ⟨"_law_ratio", f__law_ratio, topS 26, ["top", "below", "common"], ["top", "below"]⟩
def r__law_plus : Row := ⟨"_law_plus", f__law_plus, topS 27, ["first", "second"], ["first", "second"]⟩
def r__law_sum : Row := ⟨"_law_sum", f__law_sum, topS 28, ["values", "total", "value"], ["values"]⟩
def r__law_less : Row := ⟨"_law_less", f__law_less, topS 29, ["first", "second"], ["first", "second"]⟩
def r__law_drawn : Row := ⟨"_law_drawn", f__law_drawn, topS 31, ["state", "top"], ["state"]⟩
def r_law : Row := ⟨"law", f_law, topS 32, ["script", "state", "turn", "top", "below", "one", "other", "rows", "more", "due", "best", "total", "k", "text", "row"], ["script"]⟩
def rows : List Row := [r_divisor, r_ratio, r_is_ratio, r_added, r_negative, r_times, r_over, r_less, r_greatest, r_summed, r_weighed, r_ratio_text, r__law_same, r__law_stream, r__law_next, r__law_divisor, r__law_ratio, r__law_plus, r__law_sum, r__law_less, r__law_drawn, r_law]
def defs : List (Str × Nat) := [("divisor", 0), ("ratio", 1), ("is_ratio", 2), ("added", 3), ("negative", 4), ("times", 5), ("over", 6), ("less", 7), ("greatest", 8), ("summed", 9), ("weighed", 10), ("ratio_text", 11), ("_law_same", 12), ("_law_stream", 13), ("_law_next", 14), ("_law_divisor", 15), ("_law_ratio", 16), ("_law_plus", 17), ("_law_sum", 18), ("_law_less", 19), ("_law_drawn", 20), ("law", 21)]
def cls : List (Str × Nat) := []
theorem rows_ok : ∀ r ∈ rows, rowOk 60 60 defs cls r = true := by
  have h : rows.all (rowOk 60 60 defs cls) = true := by decide +kernel
  exact List.all_eq_true.mp h
theorem defs_ok : defsOk rows defs = true := by decide +kernel
end K01

set_option linter.all false
set_option Elab.async false
set_option autoImplicit false
set_option maxRecDepth 100000
namespace K01
open PySem Ip

section
variable {F j : Nat} {C : List Orc} {h : Hq}
@[simp] theorem t_0 : (fnsOf rows)[0]? = some f_divisor := rfl
@[simp] theorem t_1 : (fnsOf rows)[1]? = some f_ratio := rfl
@[simp] theorem t_2 : (fnsOf rows)[2]? = some f_is_ratio := rfl
@[simp] theorem t_3 : (fnsOf rows)[3]? = some f_added := rfl
@[simp] theorem t_4 : (fnsOf rows)[4]? = some f_negative := rfl
@[simp] theorem t_5 : (fnsOf rows)[5]? = some f_times := rfl
@[simp] theorem t_6 : (fnsOf rows)[6]? = some f_over := rfl
@[simp] theorem t_7 : (fnsOf rows)[7]? = some f_less := rfl
@[simp] theorem t_8 : (fnsOf rows)[8]? = some f_greatest := rfl
@[simp] theorem t_9 : (fnsOf rows)[9]? = some f_summed := rfl
@[simp] theorem t_10 : (fnsOf rows)[10]? = some f_weighed := rfl
@[simp] theorem t_11 : (fnsOf rows)[11]? = some f_ratio_text := rfl
@[simp] theorem t_12 : (fnsOf rows)[12]? = some sameFn := rfl
@[simp] theorem t_13 : (fnsOf rows)[13]? = some f__law_stream := rfl
@[simp] theorem t_14 : (fnsOf rows)[14]? = some f__law_next := rfl
@[simp] theorem t_15 : (fnsOf rows)[15]? = some f__law_divisor := rfl
@[simp] theorem t_16 : (fnsOf rows)[16]? = some f__law_ratio := rfl
@[simp] theorem t_17 : (fnsOf rows)[17]? = some f__law_plus := rfl
@[simp] theorem t_18 : (fnsOf rows)[18]? = some f__law_sum := rfl
@[simp] theorem t_19 : (fnsOf rows)[19]? = some f__law_less := rfl
@[simp] theorem t_20 : (fnsOf rows)[20]? = some f__law_drawn := rfl

/-! ### divisors -/
theorem gcd_step (a b : Int) (ha : 0 ≤ a) (hb : 0 < b) : Int.gcd b (a.fmod b) = Int.gcd a b := by
  obtain ⟨n, rfl⟩ := Int.eq_ofNat_of_zero_le ha
  obtain ⟨m, rfl⟩ := Int.eq_ofNat_of_zero_le (Int.le_of_lt hb)
  rw [Int.fmod_eq_emod_of_nonneg _ (Int.le_of_lt hb), ← Int.natCast_emod]
  show Nat.gcd m (n % m) = Nat.gcd n m
  rw [Nat.gcd_comm m, ← Nat.gcd_rec m n, Nat.gcd_comm]
def gl : Int → Int → Int := fun a b => (Int.gcd a b : Nat)
abbrev I (a : Int) : Option Val := some (.d (.int a))
theorem whl_gcd {c : Sg → Hq → R Bool} {f : Sg → Hq → RF} (hc : ∀ a b h, c [I a, I b] h = .ok (decide (0 < b)) h) (hf : ∀ a b h, 0 < b → f [I a, I b] h = .ok (.nx [I b, I (a.fmod b)]) h) :
    ∀ (w : Nat) (a b : Int), 0 ≤ a → 0 ≤ b → b.toNat < w → whlN c f w [I a, I b] h = .ok (.nx [I (gl a b), I 0]) h
  | 0, a, b, _, _, hw => by omega
  | w + 1, a, b, ha, hb, hw => by
    unfold whlN
    rw [hc]
    by_cases h0 : 0 < b
    · have n0 : ¬ b = 0 := by omega
      have m0 : 0 ≤ a.fmod b := by rw [Int.fmod_eq_emod_of_nonneg _ hb]; exact Int.emod_nonneg _ n0
      have m1 : a.fmod b < b := by rw [Int.fmod_eq_emod_of_nonneg _ hb]; exact Int.emod_lt_of_pos _ h0
      have ih := whl_gcd hc hf w b (a.fmod b) hb m0 (by omega)
      simp only [R.thn_ok, decide_eq_true h0, if_true, hf a b h h0, RF.turn_nx, ih]
      simp [gl, gcd_step a b ha h0]
    · have b0 : b = 0 := by omega
      subst b0
      simp [gl]
      omega
theorem gl_abs (a b : Int) : gl (if a < 0 then -a else a) (if b < 0 then -b else b) = gl a b := by
  unfold gl
  split <;> split <;> simp
theorem gl_max (a b : Int) : gl (if 0 - a > a then 0 - a else a) (if 0 - b > b then 0 - b else b) = gl a b := by
  unfold gl
  split <;> split <;> simp
theorem run_divisor (a b : Int) (hF : b.natAbs < F) : Ip.run F C f_divisor [.d (.int a), .d (.int b)] [] = .ok (.d (.int (gl a b))) [] := by
  have e := fun h => whl_gcd (h := h) (c := cnd F C (.cmp .gt (.var 1) (.lit (.int 0)))) (f := bdy F C [.par 0 1 (.var 1) (.bin .mod (.var 0) (.var 1))]) (fun a b h => by simp [cnd, tst]) (fun a b h hb => by
    have n0 : ¬ b = 0 := by omega
    simp [bdy, n0]) F (if a < 0 then -a else a) (if b < 0 then -b else b) (by split <;> omega) (by split <;> omega) (by split <;> omega)
  rw [gl_abs] at e
  simp [Ip.run, f_divisor, b_divisor, e]
theorem c_divisor (a b : Int) (hF : b.natAbs < F) : callR F C f_divisor [.d (.int a), .d (.int b)] h = .ok (.d (.int (gl a b))) h :=
  call_pd (ds := [.int a, .int b]) rfl rfl (run_divisor a b hF)
theorem run_ldivisor (a b : Int) (hF : b.natAbs < F) : Ip.run F C f__law_divisor [.d (.int a), .d (.int b)] [] = .ok (.d (.int (gl a b))) [] := by
  have e := fun h => whl_gcd (h := h) (c := cnd F C (.cmp .gt (.var 1) (.lit (.int 0)))) (f := bdy F C [.par 0 1 (.var 1) (.bin .mod (.prm .int [(.var 0)]) (.var 1))]) (fun a b h => by simp [cnd, tst]) (fun a b h hb => by
    have n0 : ¬ b = 0 := by omega
    simp [bdy, n0]) F (if 0 - a > a then 0 - a else a) (if 0 - b > b then 0 - b else b) (by split <;> omega) (by split <;> omega) (by split <;> omega)
  rw [gl_max] at e
  simp only [Int.zero_sub] at e
  simp [Ip.run, f__law_divisor, b__law_divisor, e]
theorem c_ldivisor (a b : Int) (hF : b.natAbs < F) : callR F C f__law_divisor [.d (.int a), .d (.int b)] h = .ok (.d (.int (gl a b))) h :=
  call_pd (ds := [.int a, .int b]) rfl rfl (run_ldivisor a b hF)

/-! ### ratios -/
abbrev Ra := Int × Int
def pr (r : Ra) : D := .tuple [.int r.1, .int r.2]
def gr (t b : Int) : Ra := (t.fdiv (if b < 0 then -(gl t b) else gl t b), b.fdiv (if b < 0 then -(gl t b) else gl t b))
/-- a ratio in its least form, of size n -/
structure Rt (n : Nat) (r : Ra) : Prop where
  s1 : Sm n r.1
  s2 : Sm n r.2
  pos : 1 ≤ r.2
  cop : gl r.1 r.2 = 1
theorem gl_pos {t b : Int} (hb : b ≠ 0) : 0 < gl t b := by
  have : 0 < Int.gcd t b := Nat.gcd_pos_of_pos_right _ (by omega)
  unfold gl; omega
theorem gl_le {t b : Int} (hb : b ≠ 0) : (gl t b).natAbs ≤ b.natAbs := by
  have : Int.gcd t b ≤ b.natAbs := Nat.le_of_dvd (by omega) (Nat.gcd_dvd_right _ _)
  unfold gl; simpa using this
theorem gr_rt {n : Nat} {t b : Int} (hb : b ≠ 0) (h1 : Sm n t) (h2 : Sm n b) : Rt n (gr t b) := by
  have g0 := gl_pos (t := t) hb
  obtain ⟨t', ht⟩ : gl t b ∣ t := Int.gcd_dvd_left ..
  obtain ⟨b', hb'⟩ : gl t b ∣ b := Int.gcd_dvd_right ..
  have hc : Int.gcd t' b' = 1 := by
    have e : Int.gcd t b = Int.gcd t b * Int.gcd t' b' := by
      have : Int.gcd (gl t b * t') (gl t b * b') = (gl t b).natAbs * Int.gcd t' b' := Int.gcd_mul_left ..
      rw [← ht, ← hb'] at this
      simpa [gl] using this
    have p : 0 < Int.gcd t b := by unfold gl at g0; omega
    exact Nat.eq_of_mul_eq_mul_left p (by rw [← e, Nat.mul_one])
  have hle : ∀ {x y : Int}, x = gl t b * y → y.natAbs ≤ x.natAbs := fun {x y} e => by
    rw [e, Int.natAbs_mul]
    exact Nat.le_mul_of_pos_left _ (by omega)
  generalize hg : gl t b = g at *
  unfold gr
  rw [hg]
  by_cases hn : b < 0
  · simp only [hn, if_true]
    have e1 : t.fdiv (-g) = -t' := by rw [ht, show g * t' = (-g) * (-t') by rw [Int.neg_mul_neg]]; exact Int.mul_fdiv_cancel_left _ (by omega)
    have e2 : b.fdiv (-g) = -b' := by rw [hb', show g * b' = (-g) * (-b') by rw [Int.neg_mul_neg]]; exact Int.mul_fdiv_cancel_left _ (by omega)
    rw [e1, e2]
    refine ⟨(h1.le (hle ht)).neg, (h2.le (hle hb')).neg, ?_, ?_⟩
    · have : b' < 0 := by
        rcases Int.lt_or_le b' 0 with q | q
        · exact q
        · have := Int.mul_nonneg (Int.le_of_lt g0) q
          omega
      show 1 ≤ -b'
      omega
    · unfold gl; simp [hc]
  · simp only [hn, if_false]
    have e1 : t.fdiv g = t' := by rw [ht]; exact Int.mul_fdiv_cancel_left _ (by omega)
    have e2 : b.fdiv g = b' := by rw [hb']; exact Int.mul_fdiv_cancel_left _ (by omega)
    rw [e1, e2]
    refine ⟨h1.le (hle ht), h2.le (hle hb'), ?_, by unfold gl; simp [hc]⟩
    show 1 ≤ b'
    rcases Int.lt_or_le 0 b' with q | q
    · omega
    · have := Int.mul_nonpos_of_nonneg_of_nonpos (Int.le_of_lt g0) q
      omega
theorem lt_F (hF : 2 ^ 400 ≤ F) {n : Nat} {x : Int} (h : Sm n x) (hn : n ≤ 400) : x.natAbs < F := Nat.lt_of_lt_of_le (h.mono hn) hF
theorem c_ratio (hF : 2 ^ 400 ≤ F) {n : Nat} {t b : Int} (hb : b ≠ 0) (h1 : Sm n t) (h2 : Sm n b) (hn : n ≤ 400) : callR F (orcs (fnsOf rows) F (j + 1)) f_ratio [.d (.int t), .d (.int b)] h = .ok (.d (pr (gr t b))) h := by
  refine call_pd (ds := [.int t, .int b]) rfl rfl (h1 := []) ?_
  have g0 := gl_pos (t := t) hb
  have g1 : Sm n (gl t b) := h2.le (gl_le hb)
  have d1 := okDiv_sm g1 (by omega) (by omega)
  have d2 := okDiv_sm g1.neg (by omega) (by omega)
  have c := fun h => c_divisor (F := F) (C := orcs (fnsOf rows) F j) (h := h) t b (lt_F hF h2 hn)
  by_cases hl : b < 0
  · simp [Ip.run, f_ratio, b_ratio, cnd, tst, hb, c, hl, d1, d2, pr, gr]
  · simp [Ip.run, f_ratio, b_ratio, cnd, tst, hb, c, hl, d1, d2, pr, gr]
theorem c_lratio (hF : 2 ^ 400 ≤ F) {n : Nat} {t b : Int} (hb : b ≠ 0) (h1 : Sm n t) (h2 : Sm n b) (hn : n ≤ 400) : callR F (orcs (fnsOf rows) F (j + 1)) f__law_ratio [.d (.int t), .d (.int b)] h = .ok (.d (pr (gr t b))) h := by
  refine call_pd (ds := [.int t, .int b]) rfl rfl (h1 := []) ?_
  have g0 := gl_pos (t := t) hb
  have g1 : Sm n (gl t b) := h2.le (gl_le hb)
  have d1 := okDiv_sm g1 (by omega) (by omega)
  have d2 := okDiv_sm g1.neg (by omega) (by omega)
  have c := fun h => c_ldivisor (F := F) (C := orcs (fnsOf rows) F j) (h := h) t b (lt_F hF h2 hn)
  by_cases hl : b < 0
  · simp [Ip.run, f__law_ratio, b__law_ratio, cnd, tst, hb, c, hl, d1, d2, pr, gr]
  · simp [Ip.run, f__law_ratio, b__law_ratio, cnd, tst, hb, c, hl, d1, d2, pr, gr]
end
end K01

set_option linter.all false
set_option Elab.async false
set_option autoImplicit false
set_option maxRecDepth 100000
namespace K01
open PySem Ip
section
variable {F j : Nat} {C : List Orc} {h : Hq}
abbrev O (F j : Nat) : List Orc := orcs (fnsOf rows) F j
def addR (a b : Ra) : Ra := gr (a.1 * b.2 + b.1 * a.2) (a.2 * b.2)
def mulR (a b : Ra) : Ra := gr (a.1 * b.1) (a.2 * b.2)
def ltR (a b : Ra) : Bool := decide (a.1 * b.2 < b.1 * a.2)
def mxR (b v : Ra) : Ra := if ltR b v then v else b
def sumR (rs : List Ra) : Ra := rs.foldl addR (0, 1)
theorem Rt.mono {n m : Nat} {r : Ra} (h : Rt n r) (k : n ≤ m) : Rt m r := ⟨h.s1.mono k, h.s2.mono k, h.pos, h.cop⟩
theorem mul_ne {a b : Int} (ha : 1 ≤ a) (hb : 1 ≤ b) : a * b ≠ 0 := by
  have := Int.mul_pos (show 0 < a by omega) (show 0 < b by omega)
  omega
theorem add_rt {n m : Nat} {a b : Ra} (ha : Rt n a) (hb : Rt m b) : Rt (n + m + 1) (addR a b) :=
  gr_rt (mul_ne ha.pos hb.pos) (Sm.add (ha.s1.mul hb.s2) (by have := hb.s1.mul ha.s2; rw [Nat.add_comm] at this; exact this)) ((ha.s2.mul hb.s2).mono (by omega))
theorem mul_rt {n m : Nat} {a b : Ra} (ha : Rt n a) (hb : Rt m b) : Rt (n + m) (mulR a b) := gr_rt (mul_ne ha.pos hb.pos) (ha.s1.mul hb.s1) (ha.s2.mul hb.s2)
/-- the four products are done -/
structure Mu (a b : Ra) : Prop where
  m11 : okMul a.1 b.1 = true
  m12 : okMul a.1 b.2 = true
  m21 : okMul a.2 b.1 = true
  m22 : okMul a.2 b.2 = true
theorem mu_of {n m : Nat} {a b : Ra} (ha : Rt n a) (hb : Rt m b) (h : n + m < 900000) : Mu a b := ⟨okMul_sm ha.s1 hb.s1 h, okMul_sm ha.s1 hb.s2 h, okMul_sm ha.s2 hb.s1 h, okMul_sm ha.s2 hb.s2 h⟩
theorem c_is_ratio (hF : 2 ^ 400 ≤ F) {n : Nat} {a b : Int} (h2 : Sm n b) (hn : n ≤ 400) : callR F (O F (j + 1)) f_is_ratio [.d (.tuple [.int a, .int b])] h = .ok (.d (.bool (decide (1 ≤ b) && decide (gl a b = 1)))) h := by
  refine call_pd (ds := [.tuple [.int a, .int b]]) rfl rfl (h1 := []) ?_
  have c := fun h => c_divisor (F := F) (C := O F j) (h := h) a b (lt_F hF h2 hn)
  by_cases hb : 1 ≤ b
  · simp [Ip.run, f_is_ratio, b_is_ratio, c, hb]
  · simp [Ip.run, f_is_ratio, b_is_ratio, c, hb]
theorem c_added (hF : 2 ^ 400 ≤ F) {n m : Nat} {a b : Ra} (ha : Rt n a) (hb : Rt m b) (hn : n + m + 1 ≤ 400) : callR F (O F (j + 2)) f_added [.d (pr a), .d (pr b)] h = .ok (.d (pr (addR a b))) h := by
  refine call_pd (ds := [pr a, pr b]) rfl rfl (h1 := []) ?_
  have c := fun h => c_ratio (F := F) (j := j) (h := h) hF (mul_ne ha.pos hb.pos) (Sm.add (ha.s1.mul hb.s2) (by have := hb.s1.mul ha.s2; rw [Nat.add_comm] at this; exact this)) ((ha.s2.mul hb.s2).mono (by omega)) hn
  have m := mu_of ha hb (by omega)
  have m' := mu_of hb ha (by omega)
  simp [Ip.run, f_added, b_added, pr, m.m12, m'.m12, m.m22, c, addR]
theorem c_plus (hF : 2 ^ 400 ≤ F) {n m : Nat} {a b : Ra} (ha : Rt n a) (hb : Rt m b) (hn : n + m + 1 ≤ 400) : callR F (O F (j + 2)) f__law_plus [.d (pr a), .d (pr b)] h = .ok (.d (pr (addR a b))) h := by
  refine call_pd (ds := [pr a, pr b]) rfl rfl (h1 := []) ?_
  have c := fun h => c_lratio (F := F) (j := j) (h := h) hF (mul_ne ha.pos hb.pos) (Sm.add (ha.s1.mul hb.s2) (by have := hb.s1.mul ha.s2; rw [Nat.add_comm] at this; exact this)) ((ha.s2.mul hb.s2).mono (by omega)) hn
  have m := mu_of ha hb (by omega)
  have m' := mu_of hb ha (by omega)
  simp [Ip.run, f__law_plus, b__law_plus, pr, m.m12, m'.m12, m.m22, c, addR]
theorem c_negative {a : Ra} : callR F C f_negative [.d (pr a)] h = .ok (.d (pr (-a.1, a.2))) h := by
  refine call_pd (ds := [pr a]) rfl rfl (h1 := []) ?_
  simp [Ip.run, f_negative, b_negative, pr]
theorem c_times (hF : 2 ^ 400 ≤ F) {n m : Nat} {a b : Ra} (ha : Rt n a) (hb : Rt m b) (hn : n + m ≤ 400) : callR F (O F (j + 2)) f_times [.d (pr a), .d (pr b)] h = .ok (.d (pr (mulR a b))) h := by
  refine call_pd (ds := [pr a, pr b]) rfl rfl (h1 := []) ?_
  have c := fun h => c_ratio (F := F) (j := j) (h := h) hF (mul_ne ha.pos hb.pos) (ha.s1.mul hb.s1) (ha.s2.mul hb.s2) hn
  have m := mu_of ha hb (by omega)
  simp [Ip.run, f_times, b_times, pr, m.m11, m.m22, c, mulR]
theorem c_over (hF : 2 ^ 400 ≤ F) {n m : Nat} {a b : Ra} (ha : Rt n a) (hb : Rt m b) (h0 : b.1 ≠ 0) (hn : n + m ≤ 400) : callR F (O F (j + 2)) f_over [.d (pr a), .d (pr b)] h = .ok (.d (pr (gr (a.1 * b.2) (a.2 * b.1)))) h := by
  refine call_pd (ds := [pr a, pr b]) rfl rfl (h1 := []) ?_
  have c := fun h => c_ratio (F := F) (j := j) (h := h) hF (Int.mul_ne_zero (show a.2 ≠ 0 by have := ha.pos; omega) h0) (ha.s1.mul hb.s2) (ha.s2.mul hb.s1) hn
  have m := mu_of ha hb (by omega)
  simp [Ip.run, f_over, b_over, pr, m.m12, m.m21, c]
theorem c_less {n m : Nat} {a b : Ra} (ha : Rt n a) (hb : Rt m b) (hn : n + m ≤ 400) : callR F C f_less [.d (pr a), .d (pr b)] h = .ok (.d (.bool (ltR a b))) h := by
  refine call_pd (ds := [pr a, pr b]) rfl rfl (h1 := []) ?_
  have m := mu_of ha hb (by omega)
  have m' := mu_of hb ha (by omega)
  simp [Ip.run, f_less, b_less, pr, m.m12, m'.m12, ltR]
theorem c_lless {n m : Nat} {a b : Ra} (ha : Rt n a) (hb : Rt m b) (hn : n + m ≤ 400) : callR F C f__law_less [.d (pr a), .d (pr b)] h = .ok (.d (.bool (ltR a b))) h := c_less ha hb hn
/-- a list of ratios -/
def prs (rs : List Ra) : D := .list (rs.map pr)
def Rts (n : Nat) (rs : List Ra) : Prop := ∀ r ∈ rs, Rt n r
theorem mx_rt {n : Nat} {a b : Ra} (ha : Rt n a) (hb : Rt n b) : Rt n (mxR a b) := by
  unfold mxR
  split
  · exact hb
  · exact ha
theorem c_greatest {n : Nat} {r : Ra} {rs : List Ra} (hr : Rts n (r :: rs)) (hn : n + n ≤ 400) (hl : rs.length < 100) : callR F (O F (j + 1)) f_greatest [.d (prs (r :: rs))] h = .ok (.d (pr (rs.foldl mxR r))) h := by
  refine call_pd (ds := [prs (r :: rs)]) rfl rfl (h1 := []) ?_
  obtain ⟨k', e, _⟩ := forL_fold (h := []) (f := turnV (.nm 2) (bdy F (O F (j + 1)) [.set 1 (.ife (.call 7 [(.var 1), (.var 2)]) (.var 2) (.var 1))])) (fun r : Ra => .d (pr r)) (fun b k => [some (.d (prs (r :: rs))), some (.d (pr b)), k]) mxR (fun _ b => Rt n b) rs 0 r none
    (fun a ha n b k _ hb => by
      have hra := hr a (List.mem_cons_of_mem _ ha)
      refine ⟨mx_rt hb hra, ?_⟩
      simp [turnV, bdy, tst, cnd, c_less hb hra hn]
      unfold mxR
      cases ltR b a <;> simp) (Nat.le_of_eq (Nat.zero_add _)) (hr r List.mem_cons_self)
  have e2 : (List.map (fun r : Ra => Val.d (pr r)) rs) = (rs.map pr).map .d := by rw [List.map_map]; rfl
  rw [e2] at e
  simp only [prs, List.map_cons] at e
  simp at e
  simp [Ip.run, f_greatest, b_greatest, prs, e]
/-- a fold by addition -/
theorem sum_step {f : Val → Sg → Hq → RF} {a0 : Option Val} {m : Nat} {rs : List Ra} {b : Ra} (hm : m ≤ 56) (hl : rs.length ≤ 5) (hr : Rts m rs)
    (hf : ∀ (a b : Ra) (n : Nat) (k : Option Val), Rt m a → Rt n b → n + m + 1 ≤ 400 → f (.d (pr a)) [a0, some (.d (pr b)), k] h = .ok (.nx [a0, some (.d (pr (addR b a))), some (.d (pr a))]) h) (hb : Rt 1 b) :
    ∃ k', forL f ((rs.map pr).map .d) [a0, some (.d (pr b)), none] h = .ok (.nx [a0, some (.d (pr (rs.foldl addR b))), k']) h ∧ Rt (1 + 57 * rs.length) (rs.foldl addR b) := by
  obtain ⟨k', e, p⟩ := forL_fold (h := h) (f := f) (fun r : Ra => .d (pr r)) (fun b k => [a0, some (.d (pr b)), k]) addR (fun n b => Rt (1 + 57 * n) b) rs 0 b none
    (fun a ha n b k hn hb => ⟨(add_rt hb (hr a ha)).mono (by omega), hf a b _ k (hr a ha) hb (by omega)⟩) (Nat.le_of_eq (Nat.zero_add _)) hb
  rw [List.map_map]
  rw [Nat.zero_add] at p
  exact ⟨k', e, p⟩
theorem rt01 : Rt 1 (0, 1) := ⟨by show 0 < 2; decide, by show 1 < 2; decide, by decide, by decide⟩
theorem sum_rt {m : Nat} (hm : m ≤ 56) {rs : List Ra} (hr : Rts m rs) : ∀ {n : Nat} {b : Ra}, Rt n b → Rt (n + 57 * rs.length) (rs.foldl addR b) := by
  induction rs with
  | nil => exact fun h => h.mono (by omega)
  | cons r rs ih =>
    intro n b hb
    exact (ih (fun x hx => hr x (List.mem_cons_of_mem _ hx)) (add_rt hb (hr r List.mem_cons_self))).mono (by rw [List.length_cons]; omega)
theorem c_summed (hF : 2 ^ 400 ≤ F) {m : Nat} (hm : m ≤ 56) {rs : List Ra} (hl : rs.length ≤ 5) (hr : Rts m rs) : callR F (O F (j + 3)) f_summed [.d (prs rs)] h = .ok (.d (pr (sumR rs))) h := by
  refine call_pd (ds := [prs rs]) rfl rfl (h1 := []) ?_
  obtain ⟨k', e, _⟩ := sum_step (h := []) (f := turnV (.nm 2) (bdy F (O F (j + 3)) [.set 1 (.call 3 [(.var 1), (.var 2)])])) (a0 := some (.d (prs rs))) hm hl hr
    (fun a b n k ha hb hn => by simp [turnV, bdy, c_added hF hb ha hn]) rt01
  have e1 : Val.d (.tuple [.int 0, .int 1]) = .d (pr (0, 1)) := rfl
  simp at e
  simp [Ip.run, f_summed, b_summed, e1, prs]
  simp only [prs] at e
  simp [e, sumR]
theorem c_lsum (hF : 2 ^ 400 ≤ F) {m : Nat} (hm : m ≤ 56) {rs : List Ra} (hl : rs.length ≤ 5) (hr : Rts m rs) : callR F (O F (j + 3)) f__law_sum [.d (prs rs)] h = .ok (.d (pr (sumR rs))) h := by
  refine call_pd (ds := [prs rs]) rfl rfl (h1 := []) ?_
  obtain ⟨k', e, _⟩ := sum_step (h := []) (f := turnV (.nm 2) (bdy F (O F (j + 3)) [.set 1 (.call 17 [(.var 1), (.var 2)])])) (a0 := some (.d (prs rs))) hm hl hr
    (fun a b n k ha hb hn => by simp [turnV, bdy, c_plus hF hb ha hn]) rt01
  have e1 : Val.d (.tuple [.int 0, .int 1]) = .d (pr (0, 1)) := rfl
  simp at e
  simp [Ip.run, f__law_sum, b__law_sum, e1, prs]
  simp only [prs] at e
  simp [e, sumR]
/-- products, pair by pair -/
def mulRs (xs ys : List Ra) : List Ra := (xs.zip ys).map fun p => mulR p.1 p.2
theorem mulRs_rt {n m : Nat} {xs ys : List Ra} (hx : Rts n xs) (hy : Rts m ys) : Rts (n + m) (mulRs xs ys) := fun r hr => by
  obtain ⟨p, hp, rfl⟩ := List.mem_map.mp hr
  exact mul_rt (hx _ (List.of_mem_zip hp).1) (hy _ (List.of_mem_zip hp).2)
theorem c_weighed (hF : 2 ^ 400 ≤ F) {xs ys : List Ra} (hl : xs.length ≤ 5) (hx : Rts 28 xs) (hy : Rts 28 ys) : callR F (O F (j + 4)) f_weighed [.d (prs xs), .d (prs ys)] h = .ok (.d (pr (sumR (mulRs xs ys)))) h := by
  refine call_pd (ds := [prs xs, prs ys]) rfl rfl (h1 := []) ?_
  have hz : (mulRs xs ys).length ≤ 5 := by unfold mulRs; rw [List.length_map, List.length_zip]; omega
  have c := c_summed (j := j) (h := []) hF (m := 56) (Nat.le_refl _) hz (mulRs_rt hx hy)
  have e0 : ((xs.map pr).zip (ys.map pr)).map (fun p => Val.d (.tuple [p.1, p.2])) = (xs.zip ys).map fun p => Val.d (.tuple [pr p.1, pr p.2]) := by
    rw [List.zip_map, List.map_map]; rfl
  have e : cmpL (itm F (O F (j + 4)) [2, 3] (.tp [2, 3]) [] (.call 5 [(.var 2), (.var 3)]) [some (.d (prs xs)), some (.d (prs ys)), none, none]) ((xs.zip ys).map fun p => Val.d (.tuple [pr p.1, pr p.2])) [] = .ok (((mulRs xs ys).map pr).map .d) [] := by
    have g : ∀ zs : List (Ra × Ra), (∀ p ∈ zs, Rt 28 p.1 ∧ Rt 28 p.2) → cmpL (itm F (O F (j + 4)) [2, 3] (.tp [2, 3]) [] (.call 5 [(.var 2), (.var 3)]) [some (.d (prs xs)), some (.d (prs ys)), none, none]) (zs.map fun p => Val.d (.tuple [pr p.1, pr p.2])) [] = .ok (((zs.map fun p => mulR p.1 p.2).map pr).map .d) [] := by
      intro zs
      induction zs with
      | nil => intro _; rfl
      | cons p zs ih =>
        intro hz
        obtain ⟨h1, h2⟩ := hz p List.mem_cons_self
        have c5 := c_times (j := j + 1) (h := []) hF h1 h2 (by decide)
        rw [List.map_cons, cmpL_cons]
        have e5 : itm F (O F (j + 4)) [2, 3] (.tp [2, 3]) [] (.call 5 [(.var 2), (.var 3)]) [some (.d (prs xs)), some (.d (prs ys)), none, none] (Val.d (.tuple [pr p.1, pr p.2])) [] = .ok [.d (pr (mulR p.1 p.2))] [] := by
          simp [itm, bindT, els, wipe, c5]
        rw [e5]
        simp only [R.bind_ok, ih fun q hq => hz q (List.mem_cons_of_mem _ hq)]
        rfl
    exact g _ fun p hp => ⟨hx _ (List.of_mem_zip hp).1, hy _ (List.of_mem_zip hp).2⟩
  have hf : fits (min xs.length ys.length) = true := decide_eq_true (by omega)
  simp only [prs] at e c
  simp [Ip.run, f_weighed, b_weighed, prs, e0, hf]
  simp at e
  simp [e, c, hf]
end
end K01

set_option linter.all false
set_option Elab.async false
set_option autoImplicit false
set_option maxRecDepth 100000
namespace K01
open PySem Ip
section
variable {F j : Nat} {C : List Orc} {h : Hq}
def txt (r : Ra) : Str := if r.2 = 1 then tx r.1 else Str.empty ++ tx r.1 ++ "/" ++ tx r.2
theorem c_text {n : Nat} {r : Ra} (hr : Rt n r) (hn : n < 1000) : callR F C f_ratio_text [.d (pr r)] h = .ok (.d (.str (txt r))) h := by
  refine call_pd (ds := [pr r]) rfl rfl (h1 := []) ?_
  have l1 := hr.s1.log
  have l2 := hr.s2.log
  have t1 := text_le hr.s1 (by omega)
  have t2 := text_le hr.s2 (by omega)
  have h1 : r.1.natAbs.log2 < 1920 := by omega
  have h2 : r.2.natAbs.log2 < 1920 := by omega
  by_cases e : r.2 = 1
  · simp [Ip.run, f_ratio_text, b_ratio_text, tst, pr, e, h1, txt]
  · have l0 : Str.empty.length = 0 := rfl
    have ls : (("/" : String) : Str).length = 1 := rfl
    have f1 : fits (Str.empty ++ tx r.1).length = true := fits_le (by rw [strLen_append]; omega)
    have f2 : fits (Str.empty ++ tx r.1 ++ "/").length = true := fits_le (by rw [strLen_append, strLen_append]; omega)
    have f3 : fits (Str.empty ++ tx r.1 ++ "/" ++ tx r.2).length = true := fits_le (by rw [strLen_append, strLen_append, strLen_append]; omega)
    simp [Ip.run, f_ratio_text, b_ratio_text, tst, pr, e, h1, h2, txt, f1, f2, f3]
/-- the state: the numbers, how many were taken -/
def stt (ns : List Int) (i : Int) : Hq := [.lst [.d (.list (ns.map .int)), .d (.int i)]]
/-- numbers to draw from -/
structure Nm (ns : List Int) : Prop where
  ne : ns ≠ []
  len : ns.length ≤ 4000
  sm : ∀ x ∈ ns, Sm 40 x
theorem nx_go {ns : List Int} (hn : Nm ns) {i m : Int} (hi : 0 ≤ i) (hi2 : i < 1000000) (hm : 0 < m) :
    ∃ v : Int, 0 ≤ v ∧ v < m ∧ callR F C f__law_next [.ref 0, .d (.int m)] (stt ns i) = .ok (.d (.int v)) (stt ns (i + 1)) := by
  have hl : 0 < ns.length := List.length_pos_iff.mpr hn.ne
  have hl0 : (ns.length : Int) ≠ 0 := by omega
  have k0 : 0 ≤ (i + 1).fmod ns.length := by rw [Int.fmod_eq_emod_of_nonneg _ (by omega)]; exact Int.emod_nonneg _ hl0
  have k1 : (i + 1).fmod ns.length < ns.length := by rw [Int.fmod_eq_emod_of_nonneg _ (by omega)]; exact Int.emod_lt_of_pos _ (by omega)
  obtain ⟨k, hk⟩ := Int.eq_ofNat_of_zero_le k0
  have hkl : k < ns.length := by omega
  have at1 : atD ((ns.map PyData.int).map Val.d) ((i + 1).fmod ns.length) = some (.d (.int ns[k])) := by
    rw [hk, atD_nat (by simpa using hkl)]
    simp
  have d1 : okDiv (ns.length : Int) = true := okDiv_sm (n := 20) (show (ns.length : Int).natAbs < 2 ^ 20 by have := hn.len; omega) hl0 (by decide)
  have q0 : 0 ≤ (i + 1).fdiv ns.length := by rw [Int.fdiv_eq_ediv_of_nonneg _ (by omega)]; exact Int.ediv_nonneg (by omega) (by omega)
  have q1 : (i + 1).fdiv ns.length ≤ i + 1 := by rw [Int.fdiv_eq_ediv_of_nonneg _ (by omega)]; exact Int.ediv_le_self _ (by omega)
  have sq : Sm 40 ((i + 1).fdiv ns.length) := by unfold Sm; omega
  have si : Sm 40 (i + 1) := by unfold Sm; omega
  have s389 : Sm 10 389 := (show (389 : Int).natAbs < 2 ^ 10 by decide)
  have s17 : Sm 10 17 := (show (17 : Int).natAbs < 2 ^ 10 by decide)
  have m1 := okMul_sm sq s389 (by decide)
  have m2 := okMul_sm si sq (by decide)
  have m3 := okMul_sm (si.mul sq) s17 (by decide)
  have hm0 : ¬ m = 0 := by omega
  refine ⟨((ns[k] + (i + 1).fdiv ns.length * 389 + (i + 1) * (i + 1).fdiv ns.length * 17)).fmod m, ?_, ?_, ?_⟩
  · rw [Int.fmod_eq_emod_of_nonneg _ (by omega)]; exact Int.emod_nonneg _ hm0
  · rw [Int.fmod_eq_emod_of_nonneg _ (by omega)]; exact Int.emod_lt_of_pos _ hm
  · have e : Ip.run F C f__law_next [.ref 0, .d (.int m)] (stt ns i) = .ok (.d (.int (((ns[k] + (i + 1).fdiv ns.length * 389 + (i + 1) * (i + 1).fdiv ns.length * 17)).fmod m))) (stt ns (i + 1)) := by
      have at2 := at1
      simp only [List.map_map] at at2
      simp [Ip.run, f__law_next, b__law_next, stt, ixV, els, setV, ixn, hl0, hn.ne, d1, m1, m2, m3, hm0, at2]
    have := call_s (W := F) (C := C) (fn := f__law_next) (vs := [.ref 0, .d (.int m)]) (h := stt ns i) rfl rfl e rfl rfl
    exact this
theorem okPow6 : okPow 10 6 = true := by decide +kernel
theorem sm_of {n : Nat} {x : Int} (a : -(2 ^ n : Nat) < x) (b : x < (2 ^ n : Nat)) : Sm n x := by unfold Sm; omega
theorem drawn_go (hF : 2 ^ 400 ≤ F) {ns : List Int} (hn : Nm ns) {i : Int} (hi : 0 ≤ i) (hi2 : i < 900000) :
    ∃ r : Ra, Rt 28 r ∧ callR F (O F (j + 2)) f__law_drawn [.ref 0] (stt ns i) = .ok (.d (pr r)) (stt ns (i + 3)) := by
  obtain ⟨v, v0, v1, e1⟩ := nx_go (F := F) (C := O F (j + 1)) hn hi (by omega) (show (0 : Int) < 400 by decide)
  obtain ⟨w, w0, w1, e2⟩ := nx_go (F := F) (C := O F (j + 1)) hn (i := i + 1) (by omega) (by omega) (show (0 : Int) < 5 by decide)
  obtain ⟨u, u0, u1, e3⟩ := nx_go (F := F) (C := O F (j + 1)) hn (i := i + 1 + 1) (by omega) (by omega) (show (0 : Int) < 60 by decide)
  have s1 : Sm 28 ((v - 200) * (if w = 0 then 1000000 else 1)) := by
    split
    · exact sm_of (by show (-(268435456 : Nat) : Int) < _; omega) (by show _ < ((268435456 : Nat) : Int); omega)
    · exact sm_of (by show (-(268435456 : Nat) : Int) < _; omega) (by show _ < ((268435456 : Nat) : Int); omega)
  have s2 : Sm 28 (1 + u) := sm_of (by show (-(268435456 : Nat) : Int) < _; omega) (by show _ < ((268435456 : Nat) : Int); omega)
  have nz : 1 + u ≠ 0 := by omega
  have c := c_lratio (F := F) (j := j) (h := stt ns (i + 1 + 1 + 1)) hF nz s1 s2 (by decide)
  refine ⟨_, gr_rt nz s1 s2, ?_⟩
  have a1 : okMul (v - 200) 1000000 = true := okMul_sm (n := 10) (m := 20) (sm_of (by show (-(1024 : Nat) : Int) < _; omega) (by show _ < ((1024 : Nat) : Int); omega)) (by show (1000000 : Int).natAbs < 2 ^ 20; decide) (by decide)
  have a2 : okMul (v - 200) 1 = true := okMul_sm (n := 10) (m := 20) (sm_of (by show (-(1024 : Nat) : Int) < _; omega) (by show _ < ((1024 : Nat) : Int); omega)) (by show (1 : Int).natAbs < 2 ^ 20; decide) (by decide)
  have ei : i + 1 + 1 + 1 = i + 3 := by omega
  have e : Ip.run F (O F (j + 2)) f__law_drawn [.ref 0] (stt ns i) = .ok (.d (pr (gr ((v - 200) * (if w = 0 then 1000000 else 1)) (1 + u)))) (stt ns (i + 3)) := by
    rw [← ei]
    by_cases hw : w = 0
    · simp only [hw, if_true] at c e2 ⊢
      simp [Ip.run, f__law_drawn, b__law_drawn, e1, e2, e3, okPow6, fits, a1, c]
    · simp only [hw, if_false, Int.mul_one] at c ⊢
      simp [Ip.run, f__law_drawn, b__law_drawn, e1, e2, e3, hw, okPow6, fits, a2, c]
  exact call_s (W := F) (C := O F (j + 2)) (fn := f__law_drawn) (vs := [.ref 0]) (h := stt ns i) rfl rfl e rfl rfl
end
end K01

set_option linter.all false
set_option Elab.async false
set_option autoImplicit false
set_option maxRecDepth 100000
namespace K01
open PySem Ip
section
variable {F j : Nat} {C : List Orc} {h : Hq}
/-- the numbers so far -/
abbrev hs (out : List Int) : Hq := [obj (out.map .int)]
theorem app_hs {out : List Int} {x : Int} (hl : out.length < 10000) : appV (.ref 0) (.d (.int x)) (hs out) = .ok (.d .none) (hs (out ++ [x])) := by
  have := appV_obj (h := hs out) (n := 0) (xs := out.map .int) (.int x) rfl (by rw [List.length_map]; omega)
  rw [this]
  simp
theorem lst_hs {out : List Int} : lstV (.ref 0) (hs out) = .ok () (hs out) := lstV_obj (h := hs out) (n := 0) rfl
def Ok9 (out : List Int) : Prop := ∀ x ∈ out, 0 ≤ x ∧ x < 1009
theorem Ok9.add {out : List Int} (h : Ok9 out) {x : Int} (a : 0 ≤ x) (b : x < 1009) : Ok9 (out ++ [x]) := fun y hy => by
  rcases List.mem_append.mp hy with q | q
  · exact h y q
  · rw [List.mem_singleton.mp q]; exact ⟨a, b⟩
theorem fm {a m : Int} (hm : 0 < m) : 0 ≤ a.fmod m ∧ a.fmod m < m := by
  rw [Int.fmod_eq_emod_of_nonneg _ (by omega)]
  exact ⟨Int.emod_nonneg _ (by omega), Int.emod_lt_of_pos _ hm⟩
def body1 : List Ip.St := [.exp (.app (.var 1) (.bin .mod (.prm .int [(.var 3)]) (.lit (.int 1009)))),
            .set 3 (.bin .fdiv (.var 3) (.lit (.int 1009))),
            .iff (.cmp .eq (.var 3) (.lit (.int 0)))
              [.brk]
              []]
def body2 : List Ip.St := [.set 5 (.bin .mod (.prm .int [(.bin .add (.bin .add (.bin .mul (.var 5) (.lit (.int 48271))) (.bin .mul (.lit (.int 7)) (.var 4))) (.lit (.int 11)))]) (.lit (.int 2147483647))),
            .exp (.app (.var 1) (.bin .mod (.bin .mod (.prm .int [(.bin .add (.bin .mul (.var 5) (.lit (.int 69621))) (.var 4))]) (.lit (.int 2147483629))) (.lit (.int 1009))))]
theorem loop1 {s0 c2 c4 c5 : Option Val} {r : Int} {out : List Int} (ho : Ok9 out) (hl : out.length < 9000) :
    ∃ σ' out', σ'.length = 6 ∧ (∃ c2 c3 c4 c5, σ' = [s0, some (.ref 0), c2, c3, c4, c5]) ∧ Ok9 out' ∧ out'.length ≤ out.length + 60 ∧ forL (turnV (.nm 4) (bdy F C body1)) (rangeL 0 60) [s0, some (.ref 0), c2, I r, c4, c5] (hs out) = .ok (.nx σ') (hs out') := by
  have key := forL_cnt (N := 60) (f := turnV (.nm 4) (bdy F C body1)) (P := fun n σ h => ∃ out' c2 r c4 c5, σ = [s0, some (.ref 0), c2, I r, c4, c5] ∧ h = hs out' ∧ Ok9 out' ∧ out'.length ≤ out.length + n)
    (fun n σ h ⟨o, a, b, c, d, e1, e2, e3, e4⟩ => ⟨o, a, b, c, d, e1, e2, e3, by omega⟩) (rangeL 0 60) 0 [s0, some (.ref 0), c2, I r, c4, c5] (hs out) (fun v hv n σ h hn hp => ?_) (by simp [rangeL_len]) ⟨out, c2, r, c4, c5, rfl, rfl, ho, Nat.le_refl _⟩
  · obtain ⟨σ', h', ⟨out', c2', r', c4', c5', rfl, rfl, p1, p2⟩, e⟩ := key
    rw [rangeL_len] at p2
    exact ⟨_, out', rfl, ⟨_, _, _, _, rfl⟩, p1, by omega, e⟩
  · obtain ⟨o, a, b, c, d, rfl, rfl, e3, e4⟩ := hp
    have f := fm (a := b) (show (0 : Int) < 1009 by decide)
    have d1 : okDiv 1009 = true := by decide +kernel
    refine ⟨[s0, some (.ref 0), a, I (b.fdiv 1009), some v, d], hs (o ++ [b.fmod 1009]), ⟨_, _, _, _, _, rfl, rfl, e3.add f.1 f.2, by rw [List.length_append]; simp; omega⟩, ?_⟩
    by_cases hz : b.fdiv 1009 = 0
    · right; right
      simp [turnV, bdy, body1, cnd, tst, lst_hs, app_hs (out := o) (by omega), d1, hz]
    · left
      simp [turnV, bdy, body1, cnd, tst, lst_hs, app_hs (out := o) (by omega), d1, hz]
theorem loop2 {s0 c2 c3 c4 : Option Val} {r : Int} {out : List Int} (hr : 0 ≤ r ∧ r < 2147483647) (ho : Ok9 out) (hl : out.length < 9000) :
    ∃ σ' out', σ'.length = 6 ∧ (∃ c2 c3 c4 c5, σ' = [s0, some (.ref 0), c2, c3, c4, c5]) ∧ Ok9 out' ∧ out'.length ≤ out.length + 60 ∧ forL (turnV (.nm 4) (bdy F C body2)) (rangeL 0 10) [s0, some (.ref 0), c2, c3, c4, I r] (hs out) = .ok (.nx σ') (hs out') := by
  have key := forL_cnt (N := 10) (f := turnV (.nm 4) (bdy F C body2)) (P := fun n σ h => ∃ out' c2 r c3 c4, σ = [s0, some (.ref 0), c2, c3, c4, I r] ∧ h = hs out' ∧ Ok9 out' ∧ out'.length ≤ out.length + n ∧ 0 ≤ r ∧ r < 2147483647)
    (fun n σ h ⟨o, a, b, c, d, e1, e2, e3, e4, e5⟩ => ⟨o, a, b, c, d, e1, e2, e3, by omega, e5⟩) (rangeL 0 10) 0 [s0, some (.ref 0), c2, c3, c4, I r] (hs out) (fun v hv n σ h hn hp => ?_) (by simp [rangeL_len]) ⟨out, c2, r, c3, c4, rfl, rfl, ho, Nat.le_refl _, hr⟩
  · obtain ⟨σ', h', ⟨out', c2', r', c3', c4', rfl, rfl, p1, p2, _⟩, e⟩ := key
    rw [rangeL_len] at p2
    exact ⟨_, out', rfl, ⟨_, _, _, _, rfl⟩, p1, by omega, e⟩
  · obtain ⟨o, a, b, c, d, rfl, rfl, e3, e4, e5⟩ := hp
    obtain ⟨k, rfl, k0, k1⟩ := rangeL_mem hv
    have sb : Sm 40 b := by unfold Sm; omega
    have s1 : Sm 40 48271 := by show (48271 : Int).natAbs < 2 ^ 40; decide
    have s2 : Sm 40 69621 := by show (69621 : Int).natAbs < 2 ^ 40; decide
    have s3 : Sm 40 7 := by show (7 : Int).natAbs < 2 ^ 40; decide
    have s4 : Sm 40 k := by unfold Sm; omega
    have f1 := fm (a := b * 48271 + 7 * k + 11) (show (0 : Int) < 2147483647 by decide)
    have s5 : Sm 40 ((b * 48271 + 7 * k + 11).fmod 2147483647) := by unfold Sm; omega
    have f2 := fm (a := ((b * 48271 + 7 * k + 11).fmod 2147483647 * 69621 + k).fmod 2147483629) (show (0 : Int) < 1009 by decide)
    have m1 := okMul_sm sb s1 (by decide)
    have m2 := okMul_sm s3 s4 (by decide)
    have m3 := okMul_sm s5 s2 (by decide)
    refine ⟨[s0, some (.ref 0), a, c, I k, I ((b * 48271 + 7 * k + 11).fmod 2147483647)], hs (o ++ [_]), ⟨_, _, _, _, _, rfl, rfl, e3.add f2.1 f2.2, by rw [List.length_append]; simp; omega, f1⟩, ?_⟩
    left
    simp [turnV, bdy, body2, lst_hs, app_hs (out := o) (show o.length < 10000 by omega), m1, m2, m3]
def body0 : List Ip.St := [.set 3 (.prm .abs [(.prm .int [(.var 2)])]),
      .iff (.cmp .ge (.var 3) (.bin .pow (.lit (.int 10)) (.lit (.int 18))))
        [.for_ (.nm 4) (.rng (.lit (.int 60))) body1]
        [.set 5 (.bin .mod (.prm .int [(.var 3)]) (.lit (.int 2147483647))),
         .for_ (.nm 4) (.rng (.lit (.int 10))) body2]]
theorem ok18 : okPow 10 18 = true := by decide +kernel
theorem turn0 {s0 c2 c3 c4 c5 : Option Val} {x : Int} {out : List Int} (ho : Ok9 out) (hl : out.length < 9000) :
    ∃ σ' out', (∃ c2 c3 c4 c5, σ' = [s0, some (.ref 0), c2, c3, c4, c5]) ∧ Ok9 out' ∧ out'.length ≤ out.length + 60 ∧ turnV (.nm 2) (bdy F C body0) (.d (.int x)) [s0, some (.ref 0), c2, c3, c4, c5] (hs out) = .ok (.nx σ') (hs out') := by
  have r60 : okRng 60 = true := by decide
  have r10 : okRng 10 = true := by decide
  by_cases hx : 1000000000000000000 ≤ (if x < 0 then -x else x)
  · obtain ⟨σ', out', _, s, a, b, e⟩ := loop1 (F := F) (C := C) (s0 := s0) (c2 := I x) (c4 := c4) (c5 := c5) (r := if x < 0 then -x else x) ho hl
    refine ⟨σ', out', s, a, b, ?_⟩
    simp [turnV, bdy, body0, cnd, tst, ok18, hx, r60, e]
  · have fr := fm (a := if x < 0 then -x else x) (show (0 : Int) < 2147483647 by decide)
    obtain ⟨σ', out', _, s, a, b, e⟩ := loop2 (F := F) (C := C) (s0 := s0) (c2 := I x) (c3 := I (if x < 0 then -x else x)) (c4 := c4) fr ho hl
    refine ⟨σ', out', s, a, b, ?_⟩
    simp [turnV, bdy, body0, cnd, tst, ok18, hx, r10, e]
theorem c_stream (ns : List Int) (hn : ns.length ≤ 63) : ∃ out : List Int, Nm out ∧ callR F C f__law_stream [.d (.list (ns.map .int))] h = .ok (.d (.list (out.map .int))) h := by
  have hcut : ∀ v ∈ (cutD (ns.map PyData.int) none (some 63)).map Val.d, ∃ x : Int, v = .d (.int x) := fun v hv => by
    obtain ⟨d, hd, rfl⟩ := List.mem_map.mp hv
    unfold cutD at hd
    obtain ⟨x, _, rfl⟩ := List.mem_map.mp (List.mem_of_mem_drop (List.mem_of_mem_take hd))
    exact ⟨x, rfl⟩
  have hlen : ((cutD (ns.map PyData.int) none (some 63)).map Val.d).length ≤ 63 := by
    rw [List.length_map]
    unfold cutD
    rw [List.length_take, List.length_drop, List.length_map]
    omega
  obtain ⟨σ', h', ⟨out, c2, c3, c4, c5, rfl, rfl, p1, p2⟩, e⟩ := forL_cnt (N := 63) (f := turnV (.nm 2) (bdy F C body0)) (P := fun n σ h => ∃ out c2 c3 c4 c5, σ = [some (.d (.list (ns.map .int))), some (.ref 0), c2, c3, c4, c5] ∧ h = hs out ∧ Ok9 out ∧ out.length ≤ 60 * n)
    (fun n σ h ⟨o, a, b, c, d, e1, e2, e3, e4⟩ => ⟨o, a, b, c, d, e1, e2, e3, by omega⟩) ((cutD (ns.map PyData.int) none (some 63)).map Val.d) 0 [some (.d (.list (ns.map .int))), some (.ref 0), none, none, none, none] (hs [])
    (fun v hv n σ h hn hp => by
      obtain ⟨o, a, b, c, d, rfl, rfl, e3, e4⟩ := hp
      obtain ⟨x, rfl⟩ := hcut v hv
      obtain ⟨σ', out', ⟨a', b', c', d', rfl⟩, q1, q2, e⟩ := turn0 (F := F) (C := C) (s0 := some (.d (.list (ns.map .int)))) (c2 := a) (c3 := b) (c4 := c) (c5 := d) (x := x) e3 (by omega)
      exact ⟨_, _, ⟨out', _, _, _, _, rfl, rfl, q1, by omega⟩, .inl e⟩) (by omega) ⟨[], none, none, none, none, rfl, rfl, fun x hx => (by cases hx), by simp⟩
  have p2' : out.length ≤ 60 * 63 := by omega
  have fin : ∃ out2 : List Int, Nm out2 ∧ Ip.run F C f__law_stream [.d (.list (ns.map .int))] [] = .ok (.ref 0) (hs out2) := by
    have hb : b__law_stream = [.set 1 (.new (.dsp [])), .for_ (.nm 2) (.val (.slc (.var 0) none (some (.lit (.int 63))))) body0, .iff (.cmp .eq (.prm .len [(.var 1)]) (.lit (.int 0))) [.exp (.app (.var 1) (.lit (.int 0)))] [], .ret (.var 1)] := rfl
    have hs0 : ([IO.lst []] : Hq) = hs [] := rfl
    have lenO := prmV_obj (h := hs out) (n := 0) .len rfl
    by_cases hz : out = []
    · subst hz
      refine ⟨[0], ⟨by simp, by simp, fun x hx => by simp at hx; subst hx; show (0 : Int).natAbs < 2 ^ 40; decide⟩, ?_⟩
      have ap := app_hs (out := []) (x := 0) (by decide)
      simp at ap lenO
      simp [Ip.run, f__law_stream, hb, fits, hs0, e, cnd, tst, lenO, ap, lst_hs]
    · have hl : 0 < out.length := List.length_pos_iff.mpr hz
      refine ⟨out, ⟨hz, by omega, fun x hx => by have := p1 x hx; unfold Sm; omega⟩, ?_⟩
      simp at lenO
      simp [Ip.run, f__law_stream, hb, fits, hs0, e, cnd, tst, lenO, hz]
  obtain ⟨out2, nm, er⟩ := fin
  exact ⟨out2, nm, call_p (ds := [.list (ns.map .int)]) rfl rfl er (toD_obj (h := hs out2) (n := 0) (xs := out2.map .int) rfl)⟩
end
end K01

set_option linter.all false
set_option Elab.async false
set_option autoImplicit false
set_option maxRecDepth 100000
namespace K01
open PySem Ip
def L0 : Ip.St := .set 3 (.bin .sub (.call 14 [(.var 1), (.lit (.int 900))]) (.lit (.int 450)))
def L1 : Ip.St := .set 4 (.ix (.ofL (.dsp [(.bin .add (.lit (.int 1)) (.call 14 [(.var 1), (.lit (.int 80))])), (.bin .sub (.bin .sub (.lit (.int 0)) (.lit (.int 1))) (.call 14 [(.var 1), (.lit (.int 80))]))])) (.call 14 [(.var 1), (.lit (.int 2))]))
def L2 : Ip.St := .set 5 (.call 20 [(.var 1)])
def L3 : Ip.St := .set 6 (.call 20 [(.var 1)])
def L4 : Ip.St := .set 7 (.ofL (.cmp [12] (.nm 12) (.rng (.bin .add (.lit (.int 1)) (.call 14 [(.var 1), (.lit (.int 5))]))) [] (.call 20 [(.var 1)])))
def L5 : Ip.St := .set 8 (.ofL (.cmp [14] (.nm 14) (.val (.var 7)) [] (.call 20 [(.var 1)])))
def L6 : Ip.St := .iff (.not_ (.call 12 [(.ofL (.dsp [(.call 1 [(.var 3), (.var 4)]), (.call 2 [(.var 5)]), (.call 2 [(.tup [(.bin .mul (.lit (.int 2)) (.ix (.var 5) (.lit (.int 0)))), (.bin .mul (.lit (.int 2)) (.ix (.var 5) (.lit (.int 1))))])]), (.call 2 [(.tup [(.lit (.int 1)), (.lit (.int 0))])]), (.call 2 [(.tup [(.lit (.int 3)), (.neg (.lit (.int 1)))])])])), (.ofL (.dsp [(.call 16 [(.var 3), (.var 4)]), (.lit (.bool true)), (.lit (.bool false)), (.lit (.bool false)), (.lit (.bool false))]))])) [.ret (.lit (.bool false))] []
def L7 : Ip.St := .set 9 (.ofL (.dsp [(.call 17 [(.var 5), (.var 6)]), (.tup [(.bin .sub (.lit (.int 0)) (.ix (.var 5) (.lit (.int 0)))), (.ix (.var 5) (.lit (.int 1)))]), (.call 16 [(.bin .mul (.ix (.var 5) (.lit (.int 0))) (.ix (.var 6) (.lit (.int 0)))), (.bin .mul (.ix (.var 5) (.lit (.int 1))) (.ix (.var 6) (.lit (.int 1))))]), (.call 19 [(.var 5), (.var 6)])]))
def L8 : Ip.St := .iff (.not_ (.call 12 [(.ofL (.dsp [(.call 3 [(.var 5), (.var 6)]), (.call 4 [(.var 5)]), (.call 5 [(.var 5), (.var 6)]), (.call 7 [(.var 5), (.var 6)])])), (.var 9)])) [.ret (.lit (.bool false))] []
def L9 : Ip.St := .iff (.and_ (.cmp .ne (.ix (.var 6) (.lit (.int 0))) (.lit (.int 0))) (.not_ (.call 12 [(.call 6 [(.var 5), (.var 6)]), (.call 16 [(.bin .mul (.ix (.var 5) (.lit (.int 0))) (.ix (.var 6) (.lit (.int 1)))), (.bin .mul (.ix (.var 5) (.lit (.int 1))) (.ix (.var 6) (.lit (.int 0))))])]))) [.ret (.lit (.bool false))] []
def L10 : Ip.St := .set 10 (.ix (.var 7) (.lit (.int 0)))
def L11 : Ip.St := .set 11 (.tup [(.lit (.int 0)), (.lit (.int 1))])
def L12 : Ip.St := .for_ (.nm 12) (.rng (.prm .len [(.var 7)])) [.set 10 (.ix (.ofL (.dsp [(.var 10), (.ix (.var 7) (.var 12))])) (.prm .int [(.call 19 [(.var 10), (.ix (.var 7) (.var 12))])])), .set 11 (.call 17 [(.var 11), (.call 16 [(.bin .mul (.ix (.ix (.var 7) (.var 12)) (.lit (.int 0))) (.ix (.ix (.var 8) (.var 12)) (.lit (.int 0)))), (.bin .mul (.ix (.ix (.var 7) (.var 12)) (.lit (.int 1))) (.ix (.ix (.var 8) (.var 12)) (.lit (.int 1))))])])]
def L13 : Ip.St := .iff (.not_ (.call 12 [(.ofL (.dsp [(.call 8 [(.var 7)]), (.call 9 [(.var 7)]), (.call 10 [(.var 7), (.var 8)])])), (.ofL (.dsp [(.var 10), (.call 18 [(.var 7)]), (.var 11)]))])) [.ret (.lit (.bool false))] []
def L14 : Ip.St := .set 13 (.prm .str [(.ix (.var 5) (.lit (.int 0)))])
def L15 : Ip.St := .iff (.cmp .ne (.ix (.var 5) (.lit (.int 1))) (.lit (.int 1))) [.set 13 (.bin .add (.bin .add (.var 13) (.lit (.str "/"))) (.prm .str [(.ix (.var 5) (.lit (.int 1)))]))] []
def L16 : Ip.St := .iff (.not_ (.call 12 [(.call 11 [(.var 5)]), (.var 13)])) [.ret (.lit (.bool false))] []
def bodyL : List Ip.St := [L0, L1, L2, L3, L4, L5, L6, L7, L8, L9, L10, L11, L12, L13, L14, L15, L16]
theorem b_is : b_law = [.set 1 (.new (.dsp [(.call 13 [(.var 0)]), (.lit (.int 0))])), .for_ (.nm 2) (.rng (.lit (.int 12))) bodyL, .ret (.lit (.bool true))] := rfl
section
variable {F : Nat} {ns : List Int} {i : Int}
abbrev RV (r : Ra) : Option Val := some (.d (pr r))
theorem st0 (hn : Nm ns) (hi : 0 ≤ i) (hi2 : i < 90000) {a0 c2 c3 c4 c5 c6 c7 c8 c9 c10 c11 c12 c13 c14 : Option Val} :
    ∃ t : Int, Sm 10 t ∧ ex F (O F 10) L0 [a0, some (.ref 0), c2, c3, c4, c5, c6, c7, c8, c9, c10, c11, c12, c13, c14] (stt ns i) = .ok (.nx [a0, some (.ref 0), c2, I t, c4, c5, c6, c7, c8, c9, c10, c11, c12, c13, c14]) (stt ns (i + 1)) := by
  obtain ⟨v, v0, v1, e1⟩ := nx_go (F := F) (C := O F 9) hn hi (by omega) (show (0 : Int) < 900 by decide)
  exact ⟨v - 450, sm_of (by show (-(1024 : Nat) : Int) < _; omega) (by show _ < ((1024 : Nat) : Int); omega), by simp [L0, e1]⟩
theorem st1 (hn : Nm ns) (hi : 0 ≤ i) (hi2 : i < 90000) {a0 c2 c3 c4 c5 c6 c7 c8 c9 c10 c11 c12 c13 c14 : Option Val} :
    ∃ t : Int, Sm 10 t ∧ t ≠ 0 ∧ ex F (O F 10) L1 [a0, some (.ref 0), c2, c3, c4, c5, c6, c7, c8, c9, c10, c11, c12, c13, c14] (stt ns i) = .ok (.nx [a0, some (.ref 0), c2, c3, I t, c5, c6, c7, c8, c9, c10, c11, c12, c13, c14]) (stt ns (i + 3)) := by
  obtain ⟨v, v0, v1, e1⟩ := nx_go (F := F) (C := O F 9) hn hi (by omega) (show (0 : Int) < 80 by decide)
  obtain ⟨w, w0, w1, e2⟩ := nx_go (F := F) (C := O F 9) hn (i := i + 1) (by omega) (by omega) (show (0 : Int) < 80 by decide)
  obtain ⟨u, u0, u1, e3⟩ := nx_go (F := F) (C := O F 9) hn (i := i + 1 + 1) (by omega) (by omega) (show (0 : Int) < 2 by decide)
  have ei : i + 1 + 1 + 1 = i + 3 := by omega
  rw [← ei]
  rcases (show u = 0 ∨ u = 1 by omega) with rfl | rfl
  · exact ⟨1 + v, sm_of (by show (-(1024 : Nat) : Int) < _; omega) (by show _ < ((1024 : Nat) : Int); omega), by omega, by simp [L1, e1, e2, e3, fits]⟩
  · exact ⟨-1 - w, sm_of (by show (-(1024 : Nat) : Int) < _; omega) (by show _ < ((1024 : Nat) : Int); omega), by omega, by simp [L1, e1, e2, e3, fits]⟩
theorem dr (hF : 2 ^ 400 ≤ F) (hn : Nm ns) (hi : 0 ≤ i) (hi2 : i < 90000) : ∃ r : Ra, Rt 28 r ∧ callR F (O F 9) f__law_drawn [.ref 0] (stt ns i) = .ok (.d (pr r)) (stt ns (i + 3)) := drawn_go (j := 7) hF hn hi (by omega)
theorem st2 (hF : 2 ^ 400 ≤ F) (hn : Nm ns) (hi : 0 ≤ i) (hi2 : i < 90000) {a0 c2 c3 c4 c5 c6 c7 c8 c9 c10 c11 c12 c13 c14 : Option Val} :
    ∃ r : Ra, Rt 28 r ∧ ex F (O F 10) L2 [a0, some (.ref 0), c2, c3, c4, c5, c6, c7, c8, c9, c10, c11, c12, c13, c14] (stt ns i) = .ok (.nx [a0, some (.ref 0), c2, c3, c4, RV r, c6, c7, c8, c9, c10, c11, c12, c13, c14]) (stt ns (i + 3)) := by
  obtain ⟨r, hr, e⟩ := dr hF hn hi hi2
  exact ⟨r, hr, by simp [L2, e]⟩
theorem st3 (hF : 2 ^ 400 ≤ F) (hn : Nm ns) (hi : 0 ≤ i) (hi2 : i < 90000) {a0 c2 c3 c4 c5 c6 c7 c8 c9 c10 c11 c12 c13 c14 : Option Val} :
    ∃ r : Ra, Rt 28 r ∧ ex F (O F 10) L3 [a0, some (.ref 0), c2, c3, c4, c5, c6, c7, c8, c9, c10, c11, c12, c13, c14] (stt ns i) = .ok (.nx [a0, some (.ref 0), c2, c3, c4, c5, RV r, c7, c8, c9, c10, c11, c12, c13, c14]) (stt ns (i + 3)) := by
  obtain ⟨r, hr, e⟩ := dr hF hn hi hi2
  exact ⟨r, hr, by simp [L3, e]⟩
/-- drawn ones, as many as there are values -/
theorem drs (hF : 2 ^ 400 ≤ F) (hn : Nm ns) (hi : 0 ≤ i) (hi2 : i < 80000) {k : Nat} (hk : k = 12 ∨ k = 14) (vs : List Val) (hv : vs.length ≤ 100) {σ : Sg} (h1 : σ[1]? = some (some (.ref 0))) (hl : σ.length = 15) :
    ∃ rs : List Ra, Rts 28 rs ∧ rs.length = vs.length ∧ cmpL (itm F (O F 10) [k] (.nm k) [] (.call 20 [(.var 1)]) σ) vs (stt ns i) = .ok ((rs.map pr).map .d) (stt ns (i + 3 * vs.length)) := by
  have key := cmpL_cnt (N := 100) (f := itm F (O F 10) [k] (.nm k) [] (.call 20 [(.var 1)]) σ) (P := fun n h => h = stt ns (i + 3 * n)) (K := fun x => ∃ r : Ra, Rt 28 r ∧ x = .d (pr r)) vs 0 (stt ns i)
    (fun v hv n h hn' hp => by
      subst hp
      obtain ⟨r, hr, e⟩ := dr hF hn (i := i + 3 * n) (by omega) (by omega)
      refine ⟨.d (pr r), stt ns (i + 3 * n + 3), ?_, ⟨r, hr, rfl⟩, ?_⟩
      · show stt ns _ = stt ns _
        congr 1
        omega
      · have hs : (σ.set k (some v))[1]? = some (some (.ref 0)) := by
          rw [List.getElem?_set_ne (by omega)]
          exact h1
        simp [itm, Ip.wipe, hs, e]) (by omega) (by simp)
  obtain ⟨xs, h', rfl, l2, kk, e⟩ := key
  have : ∀ xs : List Val, (∀ x ∈ xs, ∃ r : Ra, Rt 28 r ∧ x = .d (pr r)) → ∃ rs : List Ra, Rts 28 rs ∧ xs = (rs.map pr).map .d := by
    intro xs
    induction xs with
    | nil => exact fun _ => ⟨[], fun r hr => (by cases hr), rfl⟩
    | cons x xs ih =>
      intro hx
      obtain ⟨r, hr, rfl⟩ := hx x List.mem_cons_self
      obtain ⟨rs, hrs, rfl⟩ := ih fun y hy => hx y (List.mem_cons_of_mem _ hy)
      exact ⟨r :: rs, fun y hy => by rcases List.mem_cons.mp hy with rfl | hy; exact hr; exact hrs y hy, rfl⟩
  obtain ⟨rs, hrs, rfl⟩ := this xs kk
  refine ⟨rs, hrs, by simpa using l2, ?_⟩
  rw [e, Nat.zero_add]
theorem st4 (hF : 2 ^ 400 ≤ F) (hn : Nm ns) (hi : 0 ≤ i) (hi2 : i < 70000) {a0 c2 c3 c4 c5 c6 c7 c8 c9 c10 c11 c12 c13 c14 : Option Val} :
    ∃ (rs : List Ra) (i' : Int), Rts 28 rs ∧ 1 ≤ rs.length ∧ rs.length ≤ 5 ∧ i ≤ i' ∧ i' ≤ i + 16 ∧ ex F (O F 10) L4 [a0, some (.ref 0), c2, c3, c4, c5, c6, c7, c8, c9, c10, c11, c12, c13, c14] (stt ns i) = .ok (.nx [a0, some (.ref 0), c2, c3, c4, c5, c6, some (.d (prs rs)), c8, c9, c10, c11, c12, c13, c14]) (stt ns i') := by
  obtain ⟨v, v0, v1, e1⟩ := nx_go (F := F) (C := O F 9) hn hi (by omega) (show (0 : Int) < 5 by decide)
  obtain ⟨k, hk⟩ := Int.eq_ofNat_of_zero_le (show 0 ≤ 1 + v by omega)
  have ok : okRng (k : Int) = true := okRng_of (by omega) (by omega)
  obtain ⟨rs, hr, hl, e2⟩ := drs (F := F) (k := 12) hF hn (i := i + 1) (by omega) (by omega) (.inl rfl) (rangeL 0 k) (by rw [rangeL_len]; omega) (σ := [a0, some (.ref 0), c2, c3, c4, c5, c6, c7, c8, c9, c10, c11, c12, c13, c14]) rfl rfl
  rw [rangeL_len] at hl e2
  have hf : fits (rangeL 0 k).length = true := fits_le (by rw [rangeL_len]; omega)
  refine ⟨rs, i + 1 + 3 * k, hr, by omega, by omega, by omega, by omega, ?_⟩
  simp at e2
  simp [L4, e1, hk, ok, hf, e2, prs]
theorem st5 (hF : 2 ^ 400 ≤ F) (hn : Nm ns) (hi : 0 ≤ i) (hi2 : i < 70000) {rs : List Ra} (hl : rs.length ≤ 5) {a0 c2 c3 c4 c5 c6 c8 c9 c10 c11 c12 c13 c14 : Option Val} :
    ∃ (ms : List Ra) (i' : Int), Rts 28 ms ∧ ms.length = rs.length ∧ i ≤ i' ∧ i' ≤ i + 16 ∧ ex F (O F 10) L5 [a0, some (.ref 0), c2, c3, c4, c5, c6, some (.d (prs rs)), c8, c9, c10, c11, c12, c13, c14] (stt ns i) = .ok (.nx [a0, some (.ref 0), c2, c3, c4, c5, c6, some (.d (prs rs)), some (.d (prs ms)), c9, c10, c11, c12, c13, c14]) (stt ns i') := by
  obtain ⟨ms, hr, hl2, e2⟩ := drs (F := F) (k := 14) hF hn (i := i) (by omega) (by omega) (.inr rfl) ((rs.map pr).map .d) (by simp; omega) (σ := [a0, some (.ref 0), c2, c3, c4, c5, c6, some (.d (prs rs)), c8, c9, c10, c11, c12, c13, c14]) rfl rfl
  have hl3 : ms.length = rs.length := by simpa using hl2
  have hf : fits rs.length = true := fits_le (by omega)
  refine ⟨ms, i + 3 * rs.length, hr, hl3, by omega, by omega, ?_⟩
  simp [prs] at e2
  simp [L5, hf, e2, prs]
/-! ### what may be shown -/
theorem okr_pr {n : Nat} {r : Ra} (h : Rt n r) (hn : n < 1920) : OkR (pr r) := by
  have a := OkR.int h.s1 hn
  have b := OkR.int h.s2 hn
  refine ⟨?_, rfl, by show max 0 (max 0 0) + 1 ≤ 50; decide, by show 4 + (2000 + 2 + (2000 + 2 + 0)) ≤ 16000000; decide⟩
  show ((PyData.int r.1).showable && ((PyData.int r.2).showable && true)) = true
  rw [a.sh, b.sh]; rfl
theorem okr_b (b : Bool) : OkR (.bool b) := ⟨rfl, rfl, by show 0 ≤ 50; decide, by show 5 ≤ 16000000; decide⟩
/-- small enough to be shown within a list -/
structure OkS (x : D) : Prop extends OkR x where
  dl : x.depth ≤ 10
  sl : Ip.sz x ≤ 100000
theorem oks_pr {n : Nat} {r : Ra} (h : Rt n r) (hn : n < 1920) : OkS (pr r) := ⟨okr_pr h hn, by show max 0 (max 0 0) + 1 ≤ 10; decide, by show 4 + (2000 + 2 + (2000 + 2 + 0)) ≤ 100000; decide⟩
theorem oks_b (b : Bool) : OkS (.bool b) := ⟨okr_b b, by show 0 ≤ 10; decide, by show 5 ≤ 100000; decide⟩
theorem okr_list {xs : List D} (h : ∀ x ∈ xs, OkS x) (hl : xs.length ≤ 100) : OkR (.list xs) := by
  have a : PyData.showableAll xs = true := by
    clear hl
    induction xs with
    | nil => rfl
    | cons x xs ih =>
      show (x.showable && PyData.showableAll xs) = true
      rw [(h x List.mem_cons_self).sh, ih fun y hy => h y (List.mem_cons_of_mem _ hy)]; rfl
  have b : PyData.hasDictAll xs = false := by
    clear hl a
    induction xs with
    | nil => rfl
    | cons x xs ih =>
      show (x.hasDict || PyData.hasDictAll xs) = false
      rw [(h x List.mem_cons_self).nd, ih fun y hy => h y (List.mem_cons_of_mem _ hy)]; rfl
  have c : PyData.depthAll xs ≤ 10 := by
    clear hl a b
    induction xs with
    | nil => exact Nat.zero_le _
    | cons x xs ih => exact Nat.max_le.mpr ⟨(h x List.mem_cons_self).dl, ih fun y hy => h y (List.mem_cons_of_mem _ hy)⟩
  have d : szAll xs ≤ 100002 * xs.length := by
    clear hl a b c
    induction xs with
    | nil => exact Nat.zero_le _
    | cons x xs ih =>
      have := (h x List.mem_cons_self).sl
      have := ih fun y hy => h y (List.mem_cons_of_mem _ hy)
      show sz x + 2 + szAll xs ≤ _
      rw [List.length_cons]
      omega
  exact ⟨a, b, by show PyData.depthAll xs + 1 ≤ 50; omega, by show 2 + szAll xs ≤ 16000000; omega⟩
end
end K01

set_option linter.all false
set_option Elab.async false
set_option autoImplicit false
set_option maxRecDepth 100000
namespace K01
open PySem Ip
section
variable {F : Nat} {h : Hq}
theorem same9 {x : D} (o : OkR x) : callR F (O F 9) sameFn [.d x, .d x] h = .ok (.d (.bool true)) h := same_ok o
theorem pr_is (r : Ra) : pr r = .tuple [.int r.1, .int r.2] := rfl
theorem st6 (hF : 2 ^ 400 ≤ F) {t b : Int} {one : Ra} (ht : Sm 10 t) (hb : Sm 10 b) (h0 : b ≠ 0) (ho : Rt 28 one) {a0 a1 c2 c6 c7 c8 c9 c10 c11 c12 c13 c14 : Option Val} :
    ex F (O F 10) L6 [a0, a1, c2, I t, I b, RV one, c6, c7, c8, c9, c10, c11, c12, c13, c14] h = .ok (.nx [a0, a1, c2, I t, I b, RV one, c6, c7, c8, c9, c10, c11, c12, c13, c14]) h := by
  have k1 : ∀ h, callR F (O F 9) f_ratio [.d (.int t), .d (.int b)] h = .ok (.d (pr (gr t b))) h := fun h => c_ratio (j := 8) hF h0 ht hb (by decide)
  have k2 : ∀ h, callR F (O F 9) f__law_ratio [.d (.int t), .d (.int b)] h = .ok (.d (pr (gr t b))) h := fun h => c_lratio (j := 8) hF h0 ht hb (by decide)
  have k3 : ∀ h, callR F (O F 9) f_is_ratio [.d (pr one)] h = .ok (.d (.bool true)) h := fun h => by
    have := c_is_ratio (F := F) (j := 8) (h := h) (a := one.1) (b := one.2) hF ho.s2 (by decide)
    rw [decide_eq_true ho.pos, decide_eq_true ho.cop] at this
    exact this
  have s2 : Sm 30 (2 * one.2) := by have := ho.s2; unfold Sm at *; omega
  have g2 : gl (2 * one.1) (2 * one.2) = 2 := by
    have e : Int.gcd (2 * one.1) (2 * one.2) = 2 * Int.gcd one.1 one.2 := Int.gcd_mul_left ..
    have := ho.cop
    unfold gl at *
    rw [e]
    omega
  have k4 : ∀ h, callR F (O F 9) f_is_ratio [.d (.tuple [.int (2 * one.1), .int (2 * one.2)])] h = .ok (.d (.bool false)) h := fun h => by
    have := c_is_ratio (F := F) (j := 8) (h := h) (a := 2 * one.1) (b := 2 * one.2) hF s2 (by decide)
    rw [g2] at this
    simpa using this
  have k5 : ∀ h, callR F (O F 9) f_is_ratio [.d (.tuple [.int 1, .int 0])] h = .ok (.d (.bool false)) h := fun h => by
    have := c_is_ratio (F := F) (j := 8) (h := h) (n := 10) (a := 1) (b := 0) hF (by show (0 : Int).natAbs < 2 ^ 10; decide) (by decide)
    simpa using this
  have k6 : ∀ h, callR F (O F 9) f_is_ratio [.d (.tuple [.int 3, .int (-1)])] h = .ok (.d (.bool false)) h := fun h => by
    have := c_is_ratio (F := F) (j := 8) (h := h) (n := 10) (a := 3) (b := -1) hF (by show (-1 : Int).natAbs < 2 ^ 10; decide) (by decide)
    simpa using this
  have m1 : okMul 2 one.1 = true := okMul_sm (n := 10) (by show (2 : Int).natAbs < 2 ^ 10; decide) ho.s1 (by decide)
  have m2 : okMul 2 one.2 = true := okMul_sm (n := 10) (by show (2 : Int).natAbs < 2 ^ 10; decide) ho.s2 (by decide)
  have f5 : fits 5 = true := by decide
  have rg := gr_rt h0 ht hb
  have sm : ∀ h, callR F (O F 9) sameFn [.d (.list [pr (gr t b), .bool true, .bool false, .bool false, .bool false]), .d (.list [pr (gr t b), .bool true, .bool false, .bool false, .bool false])] h = .ok (.d (.bool true)) h := fun h => same9 (okr_list (fun x hx => by
    simp at hx
    rcases hx with rfl | rfl | rfl
    · exact oks_pr rg (by decide)
    · exact oks_b true
    · exact oks_b false) (by show 5 ≤ 100; decide))
  have e1 : ixV (.d (pr one)) (.d (.int 0)) h = .ok (.d (.int one.1)) h := by simp [pr]
  have e2 : ixV (.d (pr one)) (.d (.int 1)) h = .ok (.d (.int one.2)) h := by simp [pr]
  simp [L6, cnd, tst, k1, k2, k3, k4, k5, k6, m1, m2, f5, sm, e1, e2]
theorem st7 (hF : 2 ^ 400 ≤ F) {one two : Ra} (ho : Rt 28 one) (hw : Rt 28 two) {a0 a1 c2 c3 c4 c7 c8 c9 c10 c11 c12 c13 c14 : Option Val} :
    ex F (O F 10) L7 [a0, a1, c2, c3, c4, RV one, RV two, c7, c8, c9, c10, c11, c12, c13, c14] h = .ok (.nx [a0, a1, c2, c3, c4, RV one, RV two, c7, c8, some (.d (.list [pr (addR one two), pr (-one.1, one.2), pr (mulR one two), .bool (ltR one two)])), c10, c11, c12, c13, c14]) h := by
  have k1 : ∀ h, callR F (O F 9) f__law_plus [.d (pr one), .d (pr two)] h = .ok (.d (pr (addR one two))) h := fun h => c_plus (j := 7) hF ho hw (by decide)
  have k2 : ∀ h, callR F (O F 9) f__law_ratio [.d (.int (one.1 * two.1)), .d (.int (one.2 * two.2))] h = .ok (.d (pr (mulR one two))) h := fun h => c_lratio (j := 8) hF (mul_ne ho.pos hw.pos) (ho.s1.mul hw.s1) (ho.s2.mul hw.s2) (by decide)
  have k3 : ∀ h, callR F (O F 9) f__law_less [.d (pr one), .d (pr two)] h = .ok (.d (.bool (ltR one two))) h := fun h => c_lless ho hw (by decide)
  have m := mu_of ho hw (by decide)
  have f4 : fits 4 = true := by decide
  have e : ∀ (r : Ra) h, ixV (.d (pr r)) (.d (.int 0)) h = .ok (.d (.int r.1)) h ∧ ixV (.d (pr r)) (.d (.int 1)) h = .ok (.d (.int r.2)) h := fun r h => by simp [pr]
  simp [L7, k1, k2, k3, m.m11, m.m22, f4, e]
  rfl
theorem st8 (hF : 2 ^ 400 ≤ F) {one two : Ra} (ho : Rt 28 one) (hw : Rt 28 two) {a0 a1 c2 c3 c4 c7 c8 c10 c11 c12 c13 c14 : Option Val} :
    ex F (O F 10) L8 [a0, a1, c2, c3, c4, RV one, RV two, c7, c8, some (.d (.list [pr (addR one two), pr (-one.1, one.2), pr (mulR one two), .bool (ltR one two)])), c10, c11, c12, c13, c14] h
      = .ok (.nx [a0, a1, c2, c3, c4, RV one, RV two, c7, c8, some (.d (.list [pr (addR one two), pr (-one.1, one.2), pr (mulR one two), .bool (ltR one two)])), c10, c11, c12, c13, c14]) h := by
  have k1 : ∀ h, callR F (O F 9) f_added [.d (pr one), .d (pr two)] h = .ok (.d (pr (addR one two))) h := fun h => c_added (j := 7) hF ho hw (by decide)
  have k2 : ∀ h, callR F (O F 9) f_negative [.d (pr one)] h = .ok (.d (pr (-one.1, one.2))) h := fun h => c_negative
  have k3 : ∀ h, callR F (O F 9) f_times [.d (pr one), .d (pr two)] h = .ok (.d (pr (mulR one two))) h := fun h => c_times (j := 7) hF ho hw (by decide)
  have k4 : ∀ h, callR F (O F 9) f_less [.d (pr one), .d (pr two)] h = .ok (.d (.bool (ltR one two))) h := fun h => c_less ho hw (by decide)
  have f4 : fits 4 = true := by decide
  have ng : Rt 28 (-one.1, one.2) := ⟨ho.s1.neg, ho.s2, ho.pos, by have := ho.cop; unfold gl at *; simpa using this⟩
  have sm : ∀ h, callR F (O F 9) sameFn [.d (.list [pr (addR one two), pr (-one.1, one.2), pr (mulR one two), .bool (ltR one two)]), .d (.list [pr (addR one two), pr (-one.1, one.2), pr (mulR one two), .bool (ltR one two)])] h = .ok (.d (.bool true)) h := fun h => same9 (okr_list (fun x hx => by
    simp at hx
    rcases hx with rfl | rfl | rfl | rfl
    · exact oks_pr (add_rt ho hw) (by decide)
    · exact oks_pr ng (by decide)
    · exact oks_pr (mul_rt ho hw) (by decide)
    · exact oks_b _) (by show 4 ≤ 100; decide))
  simp [L8, cnd, tst, k1, k2, k3, k4, f4, sm]
theorem st9 (hF : 2 ^ 400 ≤ F) {one two : Ra} (ho : Rt 28 one) (hw : Rt 28 two) {a0 a1 c2 c3 c4 c7 c8 c9 c10 c11 c12 c13 c14 : Option Val} :
    ex F (O F 10) L9 [a0, a1, c2, c3, c4, RV one, RV two, c7, c8, c9, c10, c11, c12, c13, c14] h = .ok (.nx [a0, a1, c2, c3, c4, RV one, RV two, c7, c8, c9, c10, c11, c12, c13, c14]) h := by
  have e : ∀ (r : Ra) h, ixV (.d (pr r)) (.d (.int 0)) h = .ok (.d (.int r.1)) h ∧ ixV (.d (pr r)) (.d (.int 1)) h = .ok (.d (.int r.2)) h := fun r h => by simp [pr]
  by_cases h0 : two.1 = 0
  · simp [L9, cnd, tst, e, h0]
  · have hne : one.2 * two.1 ≠ 0 := Int.mul_ne_zero (by have := ho.pos; omega) h0
    have k1 : ∀ h, callR F (O F 9) f_over [.d (pr one), .d (pr two)] h = .ok (.d (pr (gr (one.1 * two.2) (one.2 * two.1)))) h := fun h => c_over (j := 7) hF ho hw h0 (by decide)
    have k2 : ∀ h, callR F (O F 9) f__law_ratio [.d (.int (one.1 * two.2)), .d (.int (one.2 * two.1))] h = .ok (.d (pr (gr (one.1 * two.2) (one.2 * two.1)))) h := fun h => c_lratio (j := 8) hF hne (ho.s1.mul hw.s2) (ho.s2.mul hw.s1) (by decide)
    have m := mu_of ho hw (by decide)
    have sm : ∀ h, callR F (O F 9) sameFn [.d (pr (gr (one.1 * two.2) (one.2 * two.1))), .d (pr (gr (one.1 * two.2) (one.2 * two.1)))] h = .ok (.d (.bool true)) h := fun h => same9 (okr_pr (gr_rt hne (ho.s1.mul hw.s2) (ho.s2.mul hw.s1)) (by decide))
    simp [L9, cnd, tst, e, h0, k1, k2, m.m12, m.m21, sm]
theorem st10 {r : Ra} {rs : List Ra} {a0 a1 c2 c3 c4 c5 c6 c8 c9 c10 c11 c12 c13 c14 : Option Val} :
    ex F (O F 10) L10 [a0, a1, c2, c3, c4, c5, c6, some (.d (prs (r :: rs))), c8, c9, c10, c11, c12, c13, c14] h = .ok (.nx [a0, a1, c2, c3, c4, c5, c6, some (.d (prs (r :: rs))), c8, c9, RV r, c11, c12, c13, c14]) h := by
  simp [L10, prs]
theorem st11 {a0 a1 c2 c3 c4 c5 c6 c7 c8 c9 c10 c11 c12 c13 c14 : Option Val} :
    ex F (O F 10) L11 [a0, a1, c2, c3, c4, c5, c6, c7, c8, c9, c10, c11, c12, c13, c14] h = .ok (.nx [a0, a1, c2, c3, c4, c5, c6, c7, c8, c9, c10, RV (0, 1), c12, c13, c14]) h := by
  simp [L11, pr]
theorem st14 {one : Ra} (ho : Rt 28 one) {a0 a1 c2 c3 c4 c6 c7 c8 c9 c10 c11 c12 c13 c14 : Option Val} :
    ex F (O F 10) L14 [a0, a1, c2, c3, c4, RV one, c6, c7, c8, c9, c10, c11, c12, c13, c14] h = .ok (.nx [a0, a1, c2, c3, c4, RV one, c6, c7, c8, c9, c10, c11, c12, some (.d (.str (tx one.1))), c14]) h := by
  have l1 : one.1.natAbs.log2 < 1920 := by have := ho.s1.log; omega
  simp [L14, pr, l1]
theorem st15 {one : Ra} (ho : Rt 28 one) {a0 a1 c2 c3 c4 c6 c7 c8 c9 c10 c11 c12 c14 : Option Val} :
    ex F (O F 10) L15 [a0, a1, c2, c3, c4, RV one, c6, c7, c8, c9, c10, c11, c12, some (.d (.str (tx one.1))), c14] h = .ok (.nx [a0, a1, c2, c3, c4, RV one, c6, c7, c8, c9, c10, c11, c12, some (.d (.str (if one.2 = 1 then tx one.1 else tx one.1 ++ "/" ++ tx one.2))), c14]) h := by
  have l2 : one.2.natAbs.log2 < 1920 := by have := ho.s2.log; omega
  have t1 := text_le ho.s1 (by decide)
  have t2 := text_le ho.s2 (by decide)
  have ls : (("/" : String) : Str).length = 1 := rfl
  have f1 : fits ((tx one.1).length + (("/" : String) : Str).length) = true := fits_le (by omega)
  have f2 : fits ((tx one.1 ++ (("/" : String) : Str)).length + (tx one.2).length) = true := fits_le (by rw [strLen_append]; omega)
  by_cases h1 : one.2 = 1
  · simp [L15, cnd, tst, pr, h1]
  · simp [L15, cnd, tst, pr, h1, l2, f1, f2]
theorem str_empty (x : Str) : Str.empty ++ x = x := by
  cases x with
  | mk cps => show Str.mk (#[] ++ cps) = _; simp
theorem txt_is (r : Ra) : txt r = if r.2 = 1 then tx r.1 else tx r.1 ++ "/" ++ tx r.2 := by
  unfold txt
  rw [str_empty]
theorem okr_str {x : Str} (h : (reprText x).length ≤ 16000000) : OkR (.str x) := ⟨rfl, rfl, Nat.zero_le _, h⟩
end
end K01

set_option linter.all false
set_option Elab.async false
set_option autoImplicit false
set_option maxRecDepth 100000
namespace K01
open PySem Ip
section
variable {F : Nat} {h : Hq}
def Cp (x : Str) : Prop := ∀ c ∈ x.cps.toList, c < 16 ^ 8
theorem cp_of (s : String) : Cp (Str.ofString s) := fun c hc => by
  rw [Str.ofString_eq_toList] at hc
  simp at hc
  obtain ⟨a, _, rfl⟩ := hc
  have := a.val.toNat_lt
  show a.val.toNat < 16 ^ 8
  omega
theorem cp_app {x y : Str} (a : Cp x) (b : Cp y) : Cp (x ++ y) := fun c hc => by
  have e : (x ++ y).cps = x.cps ++ y.cps := rfl
  rw [e, Array.toList_append] at hc
  rcases List.mem_append.mp hc with q | q
  · exact a c q
  · exact b c q
theorem st16 {one : Ra} (ho : Rt 28 one) {a0 a1 c2 c3 c4 c6 c7 c8 c9 c10 c11 c12 c14 : Option Val} :
    ex F (O F 10) L16 [a0, a1, c2, c3, c4, RV one, c6, c7, c8, c9, c10, c11, c12, some (.d (.str (if one.2 = 1 then tx one.1 else tx one.1 ++ "/" ++ tx one.2))), c14] h = .ok (.nx [a0, a1, c2, c3, c4, RV one, c6, c7, c8, c9, c10, c11, c12, some (.d (.str (if one.2 = 1 then tx one.1 else tx one.1 ++ "/" ++ tx one.2))), c14]) h := by
  rw [← txt_is]
  have k1 : ∀ h, callR F (O F 9) f_ratio_text [.d (pr one)] h = .ok (.d (.str (txt one))) h := fun h => c_text ho (by decide)
  have t1 := text_le ho.s1 (by decide)
  have t2 := text_le ho.s2 (by decide)
  have ls : (("/" : String) : Str).length = 1 := rfl
  have cp : Cp (txt one) := by
    rw [txt_is]
    split
    · exact cp_of _
    · exact cp_app (cp_app (cp_of _) (cp_of _)) (cp_of _)
  have ln : (txt one).length ≤ 5000 := by
    rw [txt_is]
    split
    · omega
    · rw [strLen_append, strLen_append]; omega
  have sm : ∀ h, callR F (O F 9) sameFn [.d (.str (txt one)), .d (.str (txt one))] h = .ok (.d (.bool true)) h := fun h => same9 (okr_str (by have := StrLaws.reprText_len _ cp; omega))
  simp [L16, cnd, tst, k1, sm]
/-! ### the walk over the rows -/
theorem mxR_self (r : Ra) : mxR r r = r := by unfold mxR; split <;> rfl
def bodyT : List Ip.St := [.set 10 (.ix (.ofL (.dsp [(.var 10), (.ix (.var 7) (.var 12))])) (.prm .int [(.call 19 [(.var 10), (.ix (.var 7) (.var 12))])])),
         .set 11 (.call 17 [(.var 11), (.call 16 [(.bin .mul (.ix (.ix (.var 7) (.var 12)) (.lit (.int 0))) (.ix (.ix (.var 8) (.var 12)) (.lit (.int 0)))), (.bin .mul (.ix (.ix (.var 7) (.var 12)) (.lit (.int 1))) (.ix (.ix (.var 8) (.var 12)) (.lit (.int 1))))])])]
theorem L12_is : L12 = .for_ (.nm 12) (.rng (.prm .len [(.var 7)])) bodyT := rfl
theorem ix_prs {rs : List Ra} {k : Nat} (hk : k < rs.length) : ixV (.d (prs rs)) (.d (.int (k : Int))) h = .ok (.d (pr rs[k])) h :=
  ixV_at (vs := (rs.map pr).map .d) rfl (by rw [atD_nat (by simpa using hk)]; simp)
theorem walk (hF : 2 ^ 400 ≤ F) {rs ms : List Ra} (hr : Rts 28 rs) (hm : Rts 28 ms) (hl : ms.length = rs.length) (hl5 : rs.length ≤ 5) {a0 a1 c2 c3 c4 c5 c6 c9 c13 c14 : Option Val} : ∀ (n i : Nat) (b t : Ra) (c12 : Option Val), i + n = rs.length → Rt 28 b → Rt (1 + 57 * i) t →
    ∃ k', forL (turnV (.nm 12) (bdy F (O F 10) bodyT)) (rangeL (i : Int) n) [a0, a1, c2, c3, c4, c5, c6, some (.d (prs rs)), some (.d (prs ms)), c9, RV b, RV t, c12, c13, c14] h
      = .ok (.nx [a0, a1, c2, c3, c4, c5, c6, some (.d (prs rs)), some (.d (prs ms)), c9, RV ((rs.drop i).foldl mxR b), RV ((mulRs (rs.drop i) (ms.drop i)).foldl addR t), k', c13, c14]) h
  | 0, i, b, t, c12, hi, hb, ht => by
    have e1 : rs.drop i = [] := List.drop_eq_nil_of_le (by omega)
    rw [e1]
    exact ⟨c12, rfl⟩
  | n + 1, i, b, t, c12, hi, hb, ht => by
    have hi1 : i < rs.length := by omega
    have hi2 : i < ms.length := by omega
    have r1 := hr _ (List.getElem_mem hi1)
    have r2 := hm _ (List.getElem_mem hi2)
    have d1 : rs.drop i = rs[i] :: rs.drop (i + 1) := List.drop_eq_getElem_cons hi1
    have d2 : ms.drop i = ms[i] :: ms.drop (i + 1) := List.drop_eq_getElem_cons hi2
    have mr := mul_rt r1 r2
    have ar := add_rt ht mr
    obtain ⟨k', e⟩ := walk hF hr hm hl hl5 n (i + 1) (mxR b rs[i]) (addR t (mulR rs[i] ms[i])) (I i) (by omega) (mx_rt hb r1) (ar.mono (by omega))
    refine ⟨k', ?_⟩
    rw [d1, d2]
    show forL _ (.d (.int i) :: rangeL (i + 1) n) _ _ = _
    rw [forL_cons]
    have k1 : ∀ h, callR F (O F 9) f__law_less [.d (pr b), .d (pr rs[i])] h = .ok (.d (.bool (ltR b rs[i]))) h := fun h => c_lless hb r1 (by decide)
    have k2 : ∀ h, callR F (O F 9) f__law_ratio [.d (.int (rs[i].1 * ms[i].1)), .d (.int (rs[i].2 * ms[i].2))] h = .ok (.d (pr (mulR rs[i] ms[i]))) h := fun h => c_lratio (j := 8) hF (mul_ne r1.pos r2.pos) (r1.s1.mul r2.s1) (r1.s2.mul r2.s2) (by decide)
    have k3 : ∀ h, callR F (O F 9) f__law_plus [.d (pr t), .d (pr (mulR rs[i] ms[i]))] h = .ok (.d (pr (addR t (mulR rs[i] ms[i])))) h := fun h => c_plus (j := 7) hF ht mr (by omega)
    have m := mu_of r1 r2 (by decide)
    have f2 : fits 2 = true := by decide
    have ea : ∀ (r : Ra) h, ixV (.d (pr r)) (.d (.int 0)) h = .ok (.d (.int r.1)) h ∧ ixV (.d (pr r)) (.d (.int 1)) h = .ok (.d (.int r.2)) h := fun r h => by simp [pr]
    have x1 : ∀ h, ixV (.d (prs rs)) (.d (.int (i : Int))) h = .ok (.d (pr rs[i])) h := fun h => ix_prs hi1
    have x2 : ∀ h, ixV (.d (prs ms)) (.d (.int (i : Int))) h = .ok (.d (pr ms[i])) h := fun h => ix_prs hi2
    have et : turnV (.nm 12) (bdy F (O F 10) bodyT) (.d (.int i)) [a0, a1, c2, c3, c4, c5, c6, some (.d (prs rs)), some (.d (prs ms)), c9, RV b, RV t, c12, c13, c14] h
        = .ok (.nx [a0, a1, c2, c3, c4, c5, c6, some (.d (prs rs)), some (.d (prs ms)), c9, RV (mxR b rs[i]), RV (addR t (mulR rs[i] ms[i])), I i, c13, c14]) h := by
      cases hlt : ltR b rs[i]
      · rw [hlt] at k1
        simp [turnV, bdy, bodyT, k1, k2, k3, m.m11, m.m22, f2, ea, x1, x2, mxR, hlt]
      · rw [hlt] at k1
        simp [turnV, bdy, bodyT, k1, k2, k3, m.m11, m.m22, f2, ea, x1, x2, mxR, hlt]
    rw [et, RF.turn_nx]
    have ec : ((i : Int) + 1) = ((i + 1 : Nat) : Int) := by omega
    rw [ec, e]
    rfl
theorem st12 (hF : 2 ^ 400 ≤ F) {r : Ra} {rs ms : List Ra} (hr : Rts 28 (r :: rs)) (hm : Rts 28 ms) (hl : ms.length = (r :: rs).length) (hl5 : (r :: rs).length ≤ 5) {a0 a1 c2 c3 c4 c5 c6 c9 c12 c13 c14 : Option Val} :
    ∃ k', ex F (O F 10) L12 [a0, a1, c2, c3, c4, c5, c6, some (.d (prs (r :: rs))), some (.d (prs ms)), c9, RV r, RV (0, 1), c12, c13, c14] h
      = .ok (.nx [a0, a1, c2, c3, c4, c5, c6, some (.d (prs (r :: rs))), some (.d (prs ms)), c9, RV (rs.foldl mxR r), RV (sumR (mulRs (r :: rs) ms)), k', c13, c14]) h := by
  obtain ⟨k', e⟩ := walk (h := h) (a0 := a0) (a1 := a1) (c2 := c2) (c3 := c3) (c4 := c4) (c5 := c5) (c6 := c6) (c9 := c9) (c13 := c13) (c14 := c14) hF hr hm hl hl5 (r :: rs).length 0 r (0, 1) c12 (Nat.zero_add _) (hr r List.mem_cons_self) rt01
  have ok : okRng ((r :: rs).length : Int) = true := okRng_of (by omega) (by omega)
  have ln : ∀ h, prmV .len [.d (prs (r :: rs))] h = .ok (.d (.int ((r :: rs).length : Nat))) h := fun h => by simp [prs]
  refine ⟨k', ?_⟩
  have e2 : (((r :: rs).length : Nat) : Int).toNat = (r :: rs).length := Int.toNat_natCast _
  rw [List.drop_zero, List.drop_zero, List.foldl_cons, mxR_self] at e
  rw [L12_is]
  simp only [x_for, ex_rng, e_prm, es_cons, e_var, es_nil, List.getElem?_cons_succ, List.getElem?_cons_zero, R.bind_ok, ln, intV_i, ok, if_true, e2, R.thn_ok]
  exact e
theorem st13 (hF : 2 ^ 400 ≤ F) {r : Ra} {rs ms : List Ra} (hr : Rts 28 (r :: rs)) (hm : Rts 28 ms) (hl : ms.length = (r :: rs).length) (hl5 : (r :: rs).length ≤ 5) {a0 a1 c2 c3 c4 c5 c6 c9 c12 c13 c14 : Option Val} :
    ex F (O F 10) L13 [a0, a1, c2, c3, c4, c5, c6, some (.d (prs (r :: rs))), some (.d (prs ms)), c9, RV (rs.foldl mxR r), RV (sumR (mulRs (r :: rs) ms)), c12, c13, c14] h
      = .ok (.nx [a0, a1, c2, c3, c4, c5, c6, some (.d (prs (r :: rs))), some (.d (prs ms)), c9, RV (rs.foldl mxR r), RV (sumR (mulRs (r :: rs) ms)), c12, c13, c14]) h := by
  have k1 : ∀ h, callR F (O F 9) f_greatest [.d (prs (r :: rs))] h = .ok (.d (pr (rs.foldl mxR r))) h := fun h => c_greatest (j := 8) hr (by decide) (by rw [List.length_cons] at hl5; omega)
  have k2 : ∀ h, callR F (O F 9) f_summed [.d (prs (r :: rs))] h = .ok (.d (pr (sumR (r :: rs)))) h := fun h => c_summed (j := 6) hF (by decide) hl5 hr
  have k3 : ∀ h, callR F (O F 9) f__law_sum [.d (prs (r :: rs))] h = .ok (.d (pr (sumR (r :: rs)))) h := fun h => c_lsum (j := 6) hF (by decide) hl5 hr
  have k4 : ∀ h, callR F (O F 9) f_weighed [.d (prs (r :: rs)), .d (prs ms)] h = .ok (.d (pr (sumR (mulRs (r :: rs) ms)))) h := fun h => c_weighed (j := 5) hF hl5 hr hm
  have g1 : Rt 28 (rs.foldl mxR r) := by
    have : ∀ (xs : List Ra) (b : Ra), Rts 28 xs → Rt 28 b → Rt 28 (xs.foldl mxR b) := by
      intro xs
      induction xs with
      | nil => exact fun b _ hb => hb
      | cons x xs ih => exact fun b hx hb => ih _ (fun y hy => hx y (List.mem_cons_of_mem _ hy)) (mx_rt hb (hx x List.mem_cons_self))
    exact this rs r (fun y hy => hr y (List.mem_cons_of_mem _ hy)) (hr r List.mem_cons_self)
  have g2 : Rt 400 (sumR (r :: rs)) := (sum_rt (m := 28) (by decide) hr rt01).mono (by omega)
  have hz : (mulRs (r :: rs) ms).length ≤ 5 := by unfold mulRs; rw [List.length_map, List.length_zip]; omega
  have g3 : Rt 400 (sumR (mulRs (r :: rs) ms)) := (sum_rt (m := 56) (by decide) (mulRs_rt hr hm) rt01).mono (by omega)
  have sm : ∀ h, callR F (O F 9) sameFn [.d (.list [pr (rs.foldl mxR r), pr (sumR (r :: rs)), pr (sumR (mulRs (r :: rs) ms))]), .d (.list [pr (rs.foldl mxR r), pr (sumR (r :: rs)), pr (sumR (mulRs (r :: rs) ms))])] h = .ok (.d (.bool true)) h := fun h => same9 (okr_list (fun x hx => by
    simp at hx
    rcases hx with rfl | rfl | rfl
    · exact oks_pr g1 (by decide)
    · exact oks_pr g2 (by decide)
    · exact oks_pr g3 (by decide)) (by show 3 ≤ 100; decide))
  have f3 : fits 3 = true := by decide
  simp [L13, cnd, tst, k1, k2, k3, k4, f3, sm]
end
end K01

set_option linter.all false
set_option Elab.async false
set_option autoImplicit false
set_option maxRecDepth 100000
namespace K01
open PySem Ip
section
variable {F : Nat} {ns : List Int} {i : Int}
theorem turn_ok (hF : 2 ^ 400 ≤ F) (hn : Nm ns) (hi : 0 ≤ i) (hi2 : i < 60000) {v : Val} {a0 c2 c3 c4 c5 c6 c7 c8 c9 c10 c11 c12 c13 c14 : Option Val} :
    ∃ (σ' : Sg) (i' : Int), (∃ c2 c3 c4 c5 c6 c7 c8 c9 c10 c11 c12 c13 c14, σ' = [a0, some (.ref 0), c2, c3, c4, c5, c6, c7, c8, c9, c10, c11, c12, c13, c14]) ∧ i ≤ i' ∧ i' ≤ i + 100 ∧
      turnV (.nm 2) (bdy F (O F 10) bodyL) v [a0, some (.ref 0), c2, c3, c4, c5, c6, c7, c8, c9, c10, c11, c12, c13, c14] (stt ns i) = .ok (.nx σ') (stt ns i') := by
  obtain ⟨t, s0, e0⟩ := st0 (F := F) (a0 := a0) (c2 := some v) (c3 := c3) (c4 := c4) (c5 := c5) (c6 := c6) (c7 := c7) (c8 := c8) (c9 := c9) (c10 := c10) (c11 := c11) (c12 := c12) (c13 := c13) (c14 := c14) hn hi (by omega)
  obtain ⟨b, s1, nb, e1⟩ := st1 (F := F) (a0 := a0) (c2 := some v) (c3 := I t) (c4 := c4) (c5 := c5) (c6 := c6) (c7 := c7) (c8 := c8) (c9 := c9) (c10 := c10) (c11 := c11) (c12 := c12) (c13 := c13) (c14 := c14) hn (i := i + 1) (by omega) (by omega)
  obtain ⟨one, ho, e2⟩ := st2 (F := F) (a0 := a0) (c2 := some v) (c3 := I t) (c4 := I b) (c5 := c5) (c6 := c6) (c7 := c7) (c8 := c8) (c9 := c9) (c10 := c10) (c11 := c11) (c12 := c12) (c13 := c13) (c14 := c14) hF hn (i := i + 1 + 3) (by omega) (by omega)
  obtain ⟨two, hw, e3⟩ := st3 (F := F) (a0 := a0) (c2 := some v) (c3 := I t) (c4 := I b) (c5 := RV one) (c6 := c6) (c7 := c7) (c8 := c8) (c9 := c9) (c10 := c10) (c11 := c11) (c12 := c12) (c13 := c13) (c14 := c14) hF hn (i := i + 1 + 3 + 3) (by omega) (by omega)
  obtain ⟨rs, i4, hr, l1, l5, b1, b2, e4⟩ := st4 (F := F) (a0 := a0) (c2 := some v) (c3 := I t) (c4 := I b) (c5 := RV one) (c6 := RV two) (c7 := c7) (c8 := c8) (c9 := c9) (c10 := c10) (c11 := c11) (c12 := c12) (c13 := c13) (c14 := c14) hF hn (i := i + 1 + 3 + 3 + 3) (by omega) (by omega)
  obtain ⟨ms, i5, hm, lm, b3, b4, e5⟩ := st5 (F := F) (a0 := a0) (c2 := some v) (c3 := I t) (c4 := I b) (c5 := RV one) (c6 := RV two) (c8 := c8) (c9 := c9) (c10 := c10) (c11 := c11) (c12 := c12) (c13 := c13) (c14 := c14) hF hn (i := i4) (by omega) (by omega) l5
  cases rs with
  | nil => simp at l1
  | cons r rs =>
  obtain ⟨k', e12⟩ := st12 (F := F) (h := stt ns i5) (a0 := a0) (a1 := some (.ref 0)) (c2 := some v) (c3 := I t) (c4 := I b) (c5 := RV one) (c6 := RV two) (c9 := some (.d (.list [pr (addR one two), pr (-one.1, one.2), pr (mulR one two), .bool (ltR one two)]))) (c12 := c12) (c13 := c13) (c14 := c14) hF hr hm lm l5
  refine ⟨[a0, some (.ref 0), some v, I t, I b, RV one, RV two, some (.d (prs (r :: rs))), some (.d (prs ms)), some (.d (.list [pr (addR one two), pr (-one.1, one.2), pr (mulR one two), .bool (ltR one two)])), RV (rs.foldl mxR r), RV (sumR (mulRs (r :: rs) ms)), k', some (.d (.str (if one.2 = 1 then tx one.1 else tx one.1 ++ "/" ++ tx one.2))), c14], i5, ⟨_, _, _, _, _, _, _, _, _, _, _, _, _, rfl⟩, by omega, by omega, ?_⟩
  show (match bindT (stt ns i) (.nm 2) v [a0, some (.ref 0), c2, c3, c4, c5, c6, c7, c8, c9, c10, c11, c12, c13, c14] with
    | none => RF.no
    | some σ' => exs F (O F 10) bodyL σ' (stt ns i)) = _
  show exs F (O F 10) bodyL [a0, some (.ref 0), some v, c3, c4, c5, c6, c7, c8, c9, c10, c11, c12, c13, c14] (stt ns i) = _
  unfold bodyL
  rw [xs_cons, e0, RF.thn_nx, xs_cons, e1, RF.thn_nx, xs_cons, e2, RF.thn_nx, xs_cons, e3, RF.thn_nx, xs_cons, e4, RF.thn_nx, xs_cons, e5, RF.thn_nx,
    xs_cons, st6 hF s0 s1 nb ho, RF.thn_nx, xs_cons, st7 hF ho hw, RF.thn_nx, xs_cons, st8 hF ho hw, RF.thn_nx, xs_cons, st9 hF ho hw, RF.thn_nx, xs_cons, st10, RF.thn_nx, xs_cons, st11, RF.thn_nx,
    xs_cons, e12, RF.thn_nx, xs_cons, st13 hF hr hm lm l5, RF.thn_nx, xs_cons, st14 ho, RF.thn_nx, xs_cons, st15 ho, RF.thn_nx, xs_cons, st16 ho, RF.thn_nx, xs_nil]
theorem plain (ns : List Int) (hl : ns.length ≤ 63) : ∃ h, Ip.run (2 ^ 400) (orcs (fnsOf rows) (2 ^ 400) 10) f_law [.d (.list (ns.map .int))] [] = .ok (.d (.bool true)) h := by
  obtain ⟨F, hF⟩ : ∃ F : Nat, F = 2 ^ 400 := ⟨_, rfl⟩
  rw [← hF]
  obtain ⟨out, hn, es⟩ := c_stream (F := F) (C := O F 9) (h := []) ns hl
  have key := forL_cnt (N := 12) (f := turnV (.nm 2) (bdy F (O F 10) bodyL)) (P := fun n σ h => ∃ (i : Int) (c2 c3 c4 c5 c6 c7 c8 c9 c10 c11 c12 c13 c14 : Option Val), σ = [some (.d (.list (ns.map .int))), some (.ref 0), c2, c3, c4, c5, c6, c7, c8, c9, c10, c11, c12, c13, c14] ∧ h = stt out i ∧ 0 ≤ i ∧ i ≤ 100 * n)
    (fun n σ h ⟨i, c2, c3, c4, c5, c6, c7, c8, c9, c10, c11, c12, c13, c14, e1, e2, e3, e4⟩ => ⟨i, c2, c3, c4, c5, c6, c7, c8, c9, c10, c11, c12, c13, c14, e1, e2, e3, by omega⟩)
    (rangeL 0 12) 0 [some (.d (.list (ns.map .int))), some (.ref 0), none, none, none, none, none, none, none, none, none, none, none, none, none] (stt out 0)
    (fun v hv n σ h hN hp => by
      obtain ⟨i, c2, c3, c4, c5, c6, c7, c8, c9, c10, c11, c12, c13, c14, rfl, rfl, e3, e4⟩ := hp
      obtain ⟨σ', i', ⟨d2, d3, d4, d5, d6, d7, d8, d9, d10, d11, d12, d13, d14, rfl⟩, b1, b2, e⟩ := turn_ok (F := F) (v := v) (a0 := some (.d (.list (ns.map .int)))) (c2 := c2) (c3 := c3) (c4 := c4) (c5 := c5) (c6 := c6) (c7 := c7) (c8 := c8) (c9 := c9) (c10 := c10) (c11 := c11) (c12 := c12) (c13 := c13) (c14 := c14) (Nat.le_of_eq hF.symm) hn e3 (by omega)
      exact ⟨_, _, ⟨i', _, _, _, _, _, _, _, _, _, _, _, _, _, rfl, rfl, by omega, by omega⟩, .inl e⟩) (by simp [rangeL_len]) ⟨0, none, none, none, none, none, none, none, none, none, none, none, none, none, rfl, rfl, by omega, by omega⟩
  obtain ⟨σ', h', ⟨i, c2, c3, c4, c5, c6, c7, c8, c9, c10, c11, c12, c13, c14, rfl, rfl, _, _⟩, e⟩ := key
  have ok : okRng 12 = true := by decide
  have f2 : fits 2 = true := by decide
  refine ⟨stt out i, ?_⟩
  have st : ([IO.lst [Val.d (.list (out.map .int)), Val.d (.int 0)]] : Hq) = stt out 0 := rfl
  simp [Ip.run, f_law, b_is, es, ok, f2, st, e]
end
end K01

set_option linter.all false
set_option Elab.async false
set_option autoImplicit false
set_option maxRecDepth 100000
namespace K01
open PySem L2 PyProof.Rows Ip
theorem d_divisor {K : PySem.W.Frag} {f : Addr} {oc : Value} {od an : Option Addr} {osl : Array (Option Value)} {kV doc pm cdv ct : Value} (a : PySem.W.nsIn K mainGlobals "divisor" = some (some (.ref f)))
    (l : K.lookup f = some ⟨oc, od, .func (PySem.W.fnOf "divisor" "divisor" (defArgs (topS 8)) (defBody (topS 8)) (defScope (topS 8)) .none kV doc pm an cdv ct), osl⟩) (c : PySem.W.codeIn K cdv "divisor" = true) (k : PySem.W.keepIn K (.ref f) = true) : DefK K r_divisor.x r_divisor.st r_divisor.ps :=
  dk_mk a l c k fun _ _ _ _ _ _ us hl => match us, hl with | [_, _], _ => rfl
theorem d_ratio {K : PySem.W.Frag} {f : Addr} {oc : Value} {od an : Option Addr} {osl : Array (Option Value)} {kV doc pm cdv ct : Value} (a : PySem.W.nsIn K mainGlobals "ratio" = some (some (.ref f)))
    (l : K.lookup f = some ⟨oc, od, .func (PySem.W.fnOf "ratio" "ratio" (defArgs (topS 9)) (defBody (topS 9)) (defScope (topS 9)) .none kV doc pm an cdv ct), osl⟩) (c : PySem.W.codeIn K cdv "ratio" = true) (k : PySem.W.keepIn K (.ref f) = true) : DefK K r_ratio.x r_ratio.st r_ratio.ps :=
  dk_mk a l c k fun _ _ _ _ _ _ us hl => match us, hl with | [_, _], _ => rfl
theorem d_is_ratio {K : PySem.W.Frag} {f : Addr} {oc : Value} {od an : Option Addr} {osl : Array (Option Value)} {kV doc pm cdv ct : Value} (a : PySem.W.nsIn K mainGlobals "is_ratio" = some (some (.ref f)))
    (l : K.lookup f = some ⟨oc, od, .func (PySem.W.fnOf "is_ratio" "is_ratio" (defArgs (topS 10)) (defBody (topS 10)) (defScope (topS 10)) .none kV doc pm an cdv ct), osl⟩) (c : PySem.W.codeIn K cdv "is_ratio" = true) (k : PySem.W.keepIn K (.ref f) = true) : DefK K r_is_ratio.x r_is_ratio.st r_is_ratio.ps :=
  dk_mk a l c k fun _ _ _ _ _ _ us hl => match us, hl with | [_], _ => rfl
theorem d_added {K : PySem.W.Frag} {f : Addr} {oc : Value} {od an : Option Addr} {osl : Array (Option Value)} {kV doc pm cdv ct : Value} (a : PySem.W.nsIn K mainGlobals "added" = some (some (.ref f)))
    (l : K.lookup f = some ⟨oc, od, .func (PySem.W.fnOf "added" "added" (defArgs (topS 11)) (defBody (topS 11)) (defScope (topS 11)) .none kV doc pm an cdv ct), osl⟩) (c : PySem.W.codeIn K cdv "added" = true) (k : PySem.W.keepIn K (.ref f) = true) : DefK K r_added.x r_added.st r_added.ps :=
  dk_mk a l c k fun _ _ _ _ _ _ us hl => match us, hl with | [_, _], _ => rfl
theorem d_negative {K : PySem.W.Frag} {f : Addr} {oc : Value} {od an : Option Addr} {osl : Array (Option Value)} {kV doc pm cdv ct : Value} (a : PySem.W.nsIn K mainGlobals "negative" = some (some (.ref f)))
    (l : K.lookup f = some ⟨oc, od, .func (PySem.W.fnOf "negative" "negative" (defArgs (topS 12)) (defBody (topS 12)) (defScope (topS 12)) .none kV doc pm an cdv ct), osl⟩) (c : PySem.W.codeIn K cdv "negative" = true) (k : PySem.W.keepIn K (.ref f) = true) : DefK K r_negative.x r_negative.st r_negative.ps :=
  dk_mk a l c k fun _ _ _ _ _ _ us hl => match us, hl with | [_], _ => rfl
theorem d_times {K : PySem.W.Frag} {f : Addr} {oc : Value} {od an : Option Addr} {osl : Array (Option Value)} {kV doc pm cdv ct : Value} (a : PySem.W.nsIn K mainGlobals "times" = some (some (.ref f)))
    (l : K.lookup f = some ⟨oc, od, .func (PySem.W.fnOf "times" "times" (defArgs (topS 13)) (defBody (topS 13)) (defScope (topS 13)) .none kV doc pm an cdv ct), osl⟩) (c : PySem.W.codeIn K cdv "times" = true) (k : PySem.W.keepIn K (.ref f) = true) : DefK K r_times.x r_times.st r_times.ps :=
  dk_mk a l c k fun _ _ _ _ _ _ us hl => match us, hl with | [_, _], _ => rfl
theorem d_over {K : PySem.W.Frag} {f : Addr} {oc : Value} {od an : Option Addr} {osl : Array (Option Value)} {kV doc pm cdv ct : Value} (a : PySem.W.nsIn K mainGlobals "over" = some (some (.ref f)))
    (l : K.lookup f = some ⟨oc, od, .func (PySem.W.fnOf "over" "over" (defArgs (topS 14)) (defBody (topS 14)) (defScope (topS 14)) .none kV doc pm an cdv ct), osl⟩) (c : PySem.W.codeIn K cdv "over" = true) (k : PySem.W.keepIn K (.ref f) = true) : DefK K r_over.x r_over.st r_over.ps :=
  dk_mk a l c k fun _ _ _ _ _ _ us hl => match us, hl with | [_, _], _ => rfl
theorem d_less {K : PySem.W.Frag} {f : Addr} {oc : Value} {od an : Option Addr} {osl : Array (Option Value)} {kV doc pm cdv ct : Value} (a : PySem.W.nsIn K mainGlobals "less" = some (some (.ref f)))
    (l : K.lookup f = some ⟨oc, od, .func (PySem.W.fnOf "less" "less" (defArgs (topS 15)) (defBody (topS 15)) (defScope (topS 15)) .none kV doc pm an cdv ct), osl⟩) (c : PySem.W.codeIn K cdv "less" = true) (k : PySem.W.keepIn K (.ref f) = true) : DefK K r_less.x r_less.st r_less.ps :=
  dk_mk a l c k fun _ _ _ _ _ _ us hl => match us, hl with | [_, _], _ => rfl
theorem d_greatest {K : PySem.W.Frag} {f : Addr} {oc : Value} {od an : Option Addr} {osl : Array (Option Value)} {kV doc pm cdv ct : Value} (a : PySem.W.nsIn K mainGlobals "greatest" = some (some (.ref f)))
    (l : K.lookup f = some ⟨oc, od, .func (PySem.W.fnOf "greatest" "greatest" (defArgs (topS 16)) (defBody (topS 16)) (defScope (topS 16)) .none kV doc pm an cdv ct), osl⟩) (c : PySem.W.codeIn K cdv "greatest" = true) (k : PySem.W.keepIn K (.ref f) = true) : DefK K r_greatest.x r_greatest.st r_greatest.ps :=
  dk_mk a l c k fun _ _ _ _ _ _ us hl => match us, hl with | [_], _ => rfl
theorem d_summed {K : PySem.W.Frag} {f : Addr} {oc : Value} {od an : Option Addr} {osl : Array (Option Value)} {kV doc pm cdv ct : Value} (a : PySem.W.nsIn K mainGlobals "summed" = some (some (.ref f)))
    (l : K.lookup f = some ⟨oc, od, .func (PySem.W.fnOf "summed" "summed" (defArgs (topS 17)) (defBody (topS 17)) (defScope (topS 17)) .none kV doc pm an cdv ct), osl⟩) (c : PySem.W.codeIn K cdv "summed" = true) (k : PySem.W.keepIn K (.ref f) = true) : DefK K r_summed.x r_summed.st r_summed.ps :=
  dk_mk a l c k fun _ _ _ _ _ _ us hl => match us, hl with | [_], _ => rfl
theorem d_weighed {K : PySem.W.Frag} {f : Addr} {oc : Value} {od an : Option Addr} {osl : Array (Option Value)} {kV doc pm cdv ct : Value} (a : PySem.W.nsIn K mainGlobals "weighed" = some (some (.ref f)))
    (l : K.lookup f = some ⟨oc, od, .func (PySem.W.fnOf "weighed" "weighed" (defArgs (topS 18)) (defBody (topS 18)) (defScope (topS 18)) .none kV doc pm an cdv ct), osl⟩) (c : PySem.W.codeIn K cdv "weighed" = true) (k : PySem.W.keepIn K (.ref f) = true) : DefK K r_weighed.x r_weighed.st r_weighed.ps :=
  dk_mk a l c k fun _ _ _ _ _ _ us hl => match us, hl with | [_, _], _ => rfl
theorem d_ratio_text {K : PySem.W.Frag} {f : Addr} {oc : Value} {od an : Option Addr} {osl : Array (Option Value)} {kV doc pm cdv ct : Value} (a : PySem.W.nsIn K mainGlobals "ratio_text" = some (some (.ref f)))
    (l : K.lookup f = some ⟨oc, od, .func (PySem.W.fnOf "ratio_text" "ratio_text" (defArgs (topS 19)) (defBody (topS 19)) (defScope (topS 19)) .none kV doc pm an cdv ct), osl⟩) (c : PySem.W.codeIn K cdv "ratio_text" = true) (k : PySem.W.keepIn K (.ref f) = true) : DefK K r_ratio_text.x r_ratio_text.st r_ratio_text.ps :=
  dk_mk a l c k fun _ _ _ _ _ _ us hl => match us, hl with | [_], _ => rfl
theorem d__law_same {K : PySem.W.Frag} {f : Addr} {oc : Value} {od an : Option Addr} {osl : Array (Option Value)} {kV doc pm cdv ct : Value} (a : PySem.W.nsIn K mainGlobals "_law_same" = some (some (.ref f)))
    (l : K.lookup f = some ⟨oc, od, .func (PySem.W.fnOf "_law_same" "_law_same" (defArgs (topS 21)) (defBody (topS 21)) (defScope (topS 21)) .none kV doc pm an cdv ct), osl⟩) (c : PySem.W.codeIn K cdv "_law_same" = true) (k : PySem.W.keepIn K (.ref f) = true) : DefK K r__law_same.x r__law_same.st r__law_same.ps :=
  dk_mk a l c k fun _ _ _ _ _ _ us hl => match us, hl with | [_, _], _ => rfl
theorem d__law_stream {K : PySem.W.Frag} {f : Addr} {oc : Value} {od an : Option Addr} {osl : Array (Option Value)} {kV doc pm cdv ct : Value} (a : PySem.W.nsIn K mainGlobals "_law_stream" = some (some (.ref f)))
    (l : K.lookup f = some ⟨oc, od, .func (PySem.W.fnOf "_law_stream" "_law_stream" (defArgs (topS 22)) (defBody (topS 22)) (defScope (topS 22)) .none kV doc pm an cdv ct), osl⟩) (c : PySem.W.codeIn K cdv "_law_stream" = true) (k : PySem.W.keepIn K (.ref f) = true) : DefK K r__law_stream.x r__law_stream.st r__law_stream.ps :=
  dk_mk a l c k fun _ _ _ _ _ _ us hl => match us, hl with | [_], _ => rfl
theorem d__law_next {K : PySem.W.Frag} {f : Addr} {oc : Value} {od an : Option Addr} {osl : Array (Option Value)} {kV doc pm cdv ct : Value} (a : PySem.W.nsIn K mainGlobals "_law_next" = some (some (.ref f)))
    (l : K.lookup f = some ⟨oc, od, .func (PySem.W.fnOf "_law_next" "_law_next" (defArgs (topS 23)) (defBody (topS 23)) (defScope (topS 23)) .none kV doc pm an cdv ct), osl⟩) (c : PySem.W.codeIn K cdv "_law_next" = true) (k : PySem.W.keepIn K (.ref f) = true) : DefK K r__law_next.x r__law_next.st r__law_next.ps :=
  dk_mk a l c k fun _ _ _ _ _ _ us hl => match us, hl with | [_, _], _ => rfl
theorem d__law_divisor {K : PySem.W.Frag} {f : Addr} {oc : Value} {od an : Option Addr} {osl : Array (Option Value)} {kV doc pm cdv ct : Value} (a : PySem.W.nsIn K mainGlobals "_law_divisor" = some (some (.ref f)))
    (l : K.lookup f = some ⟨oc, od, .func (PySem.W.fnOf "_law_divisor" "_law_divisor" (defArgs (topS 25)) (defBody (topS 25)) (defScope (topS 25)) .none kV doc pm an cdv ct), osl⟩) (c : PySem.W.codeIn K cdv "_law_divisor" = true) (k : PySem.W.keepIn K (.ref f) = true) : DefK K r__law_divisor.x r__law_divisor.st r__law_divisor.ps :=
  dk_mk a l c k fun _ _ _ _ _ _ us hl => match us, hl with | [_, _], _ => rfl
theorem d__law_ratio {K : PySem.W.Frag} {f : Addr} {oc : Value} {od an : Option Addr} {osl : Array (Option Value)} {kV doc pm cdv ct : Value} (a : PySem.W.nsIn K mainGlobals "_law_ratio" = some (some (.ref f)))
    (l : K.lookup f = some ⟨oc, od, .func (PySem.W.fnOf "_law_ratio" "_law_ratio" (defArgs (topS 26)) (defBody (topS 26)) (defScope (topS 26)) .none kV doc pm an cdv ct), osl⟩) (c : PySem.W.codeIn K cdv "_law_ratio" = true) (k : PySem.W.keepIn K (.ref f) = true) : DefK K r__law_ratio.x r__law_ratio.st r__law_ratio.ps :=
  dk_mk a l c k fun _ _ _ _ _ _ us hl => match us, hl with | [_, _], _ => rfl
theorem d__law_plus {K : PySem.W.Frag} {f : Addr} {oc : Value} {od an : Option Addr} {osl : Array (Option Value)} {kV doc pm cdv ct : Value} (a : PySem.W.nsIn K mainGlobals "_law_plus" = some (some (.ref f)))
    (l : K.lookup f = some ⟨oc, od, .func (PySem.W.fnOf "_law_plus" "_law_plus" (defArgs (topS 27)) (defBody (topS 27)) (defScope (topS 27)) .none kV doc pm an cdv ct), osl⟩) (c : PySem.W.codeIn K cdv "_law_plus" = true) (k : PySem.W.keepIn K (.ref f) = true) : DefK K r__law_plus.x r__law_plus.st r__law_plus.ps :=
  dk_mk a l c k fun _ _ _ _ _ _ us hl => match us, hl with | [_, _], _ => rfl
theorem d__law_sum {K : PySem.W.Frag} {f : Addr} {oc : Value} {od an : Option Addr} {osl : Array (Option Value)} {kV doc pm cdv ct : Value} (a : PySem.W.nsIn K mainGlobals "_law_sum" = some (some (.ref f)))
    (l : K.lookup f = some ⟨oc, od, .func (PySem.W.fnOf "_law_sum" "_law_sum" (defArgs (topS 28)) (defBody (topS 28)) (defScope (topS 28)) .none kV doc pm an cdv ct), osl⟩) (c : PySem.W.codeIn K cdv "_law_sum" = true) (k : PySem.W.keepIn K (.ref f) = true) : DefK K r__law_sum.x r__law_sum.st r__law_sum.ps :=
  dk_mk a l c k fun _ _ _ _ _ _ us hl => match us, hl with | [_], _ => rfl
theorem d__law_less {K : PySem.W.Frag} {f : Addr} {oc : Value} {od an : Option Addr} {osl : Array (Option Value)} {kV doc pm cdv ct : Value} (a : PySem.W.nsIn K mainGlobals "_law_less" = some (some (.ref f)))
    (l : K.lookup f = some ⟨oc, od, .func (PySem.W.fnOf "_law_less" "_law_less" (defArgs (topS 29)) (defBody (topS 29)) (defScope (topS 29)) .none kV doc pm an cdv ct), osl⟩) (c : PySem.W.codeIn K cdv "_law_less" = true) (k : PySem.W.keepIn K (.ref f) = true) : DefK K r__law_less.x r__law_less.st r__law_less.ps :=
  dk_mk a l c k fun _ _ _ _ _ _ us hl => match us, hl with | [_, _], _ => rfl
theorem d__law_drawn {K : PySem.W.Frag} {f : Addr} {oc : Value} {od an : Option Addr} {osl : Array (Option Value)} {kV doc pm cdv ct : Value} (a : PySem.W.nsIn K mainGlobals "_law_drawn" = some (some (.ref f)))
    (l : K.lookup f = some ⟨oc, od, .func (PySem.W.fnOf "_law_drawn" "_law_drawn" (defArgs (topS 31)) (defBody (topS 31)) (defScope (topS 31)) .none kV doc pm an cdv ct), osl⟩) (c : PySem.W.codeIn K cdv "_law_drawn" = true) (k : PySem.W.keepIn K (.ref f) = true) : DefK K r__law_drawn.x r__law_drawn.st r__law_drawn.ps :=
  dk_mk a l c k fun _ _ _ _ _ _ us hl => match us, hl with | [_], _ => rfl
theorem d_law {K : PySem.W.Frag} {f : Addr} {oc : Value} {od an : Option Addr} {osl : Array (Option Value)} {kV doc pm cdv ct : Value} (a : PySem.W.nsIn K mainGlobals "law" = some (some (.ref f)))
    (l : K.lookup f = some ⟨oc, od, .func (PySem.W.fnOf "law" "law" (defArgs (topS 32)) (defBody (topS 32)) (defScope (topS 32)) .none kV doc pm an cdv ct), osl⟩) (c : PySem.W.codeIn K cdv "law" = true) (k : PySem.W.keepIn K (.ref f) = true) : DefK K r_law.x r_law.st r_law.ps :=
  dk_mk a l c k fun _ _ _ _ _ _ us hl => match us, hl with | [_], _ => rfl
theorem mk {l : PySem.W.OpenLaw} {w : World} {K : PySem.W.Frag} {h : Heap} {mg : Str → Option Value} {fa : Addr} (X : K.In h) (G : h.Ns mainGlobals mg) (hfa : mg "law" = some (.ref fa))
    (d_divisor : DefK K r_divisor.x r_divisor.st r_divisor.ps) (d_ratio : DefK K r_ratio.x r_ratio.st r_ratio.ps) (d_is_ratio : DefK K r_is_ratio.x r_is_ratio.st r_is_ratio.ps) (d_added : DefK K r_added.x r_added.st r_added.ps) (d_negative : DefK K r_negative.x r_negative.st r_negative.ps) (d_times : DefK K r_times.x r_times.st r_times.ps) (d_over : DefK K r_over.x r_over.st r_over.ps) (d_less : DefK K r_less.x r_less.st r_less.ps) (d_greatest : DefK K r_greatest.x r_greatest.st r_greatest.ps) (d_summed : DefK K r_summed.x r_summed.st r_summed.ps) (d_weighed : DefK K r_weighed.x r_weighed.st r_weighed.ps) (d_ratio_text : DefK K r_ratio_text.x r_ratio_text.st r_ratio_text.ps) (d__law_same : DefK K r__law_same.x r__law_same.st r__law_same.ps) (d__law_stream : DefK K r__law_stream.x r__law_stream.st r__law_stream.ps) (d__law_next : DefK K r__law_next.x r__law_next.st r__law_next.ps) (d__law_divisor : DefK K r__law_divisor.x r__law_divisor.st r__law_divisor.ps) (d__law_ratio : DefK K r__law_ratio.x r__law_ratio.st r__law_ratio.ps) (d__law_plus : DefK K r__law_plus.x r__law_plus.st r__law_plus.ps) (d__law_sum : DefK K r__law_sum.x r__law_sum.st r__law_sum.ps) (d__law_less : DefK K r__law_less.x r__law_less.st r__law_less.ps) (d__law_drawn : DefK K r__law_drawn.x r__law_drawn.st r__law_drawn.ps) (d_law : DefK K r_law.x r_law.st r_law.ps)
    (z_len : PySem.W.nsIn K mainGlobals "len" = some none) (z_abs : PySem.W.nsIn K mainGlobals "abs" = some none) (z_int : PySem.W.nsIn K mainGlobals "int" = some none) (z_str : PySem.W.nsIn K mainGlobals "str" = some none) (z_repr : PySem.W.nsIn K mainGlobals "repr" = some none) (z_sum : PySem.W.nsIn K mainGlobals "sum" = some none) (z_max : PySem.W.nsIn K mainGlobals "max" = some none) (z_min : PySem.W.nsIn K mainGlobals "min" = some none) (z_all : PySem.W.nsIn K mainGlobals "all" = some none) (z_any : PySem.W.nsIn K mainGlobals "any" = some none) (z_range : PySem.W.nsIn K mainGlobals "range" = some none) (z_zip : PySem.W.nsIn K mainGlobals "zip" = some none)  :
    ∃ (fd : FuncData) (as : List Addr) (k : Nat), RoomG k callerA ∧ (∀ (s : Shared) (u : Value), BindsTo s fd ⟨[u], []⟩ [("script", u)]) ∧ ∀ base : Heap, K.In base → base.Ns mainGlobals mg → FnG l.prog w K mg base k fa fd ["script"] (fun vs H Q E => ∀ _ : True, spLaw rows (2 ^ 400) 10 f_law K (as.take rows.length) (as.drop rows.length) vs H Q E) :=
  all_mk (f := 21) (r := r_law) (xs := []) rows_ok defs_ok ⟨⟨rfl, by decide +kernel, by decide +kernel⟩, rfl⟩ rfl rfl rfl (by decide +kernel) (fun _ _ _ _ _ _ _ _ => .of_eq rfl) X G hfa ⟨d_divisor, d_ratio, d_is_ratio, d_added, d_negative, d_times, d_over, d_less, d_greatest, d_summed, d_weighed, d_ratio_text, d__law_same, d__law_stream, d__law_next, d__law_divisor, d__law_ratio, d__law_plus, d__law_sum, d__law_less, d__law_drawn, d_law, trivial⟩ ⟨z_len, z_abs, z_int, z_str, z_repr, z_sum, z_max, z_min, z_all, z_any, z_range, z_zip, trivial⟩ trivial
end K01
open PySem PySem.W PyProof.Rows
set_option maxHeartbeats 0 in
theorem PySem.Challenge.cw_cellshapes_k01_ratios_holds : PySem.Challenge.rw_cellshapes_k01_ratios.Holds := by
  w_on; o_law; k_head; (case hw => w_witness2)
  k_fill
  refine Ip.walk_G (l := PySem.Challenge.rw_cellshapes_k01_ratios) (n := 63) (x := "script") (sp := fun w as vs H Q E => ∀ _ : True, Ip.spLaw K01.rows (2 ^ 400) 10 K01.f_law _ (as.take K01.rows.length) (as.drop K01.rows.length) vs H Q E) rfl (by decide) rfl (fun w h Y => PySem.W.kIn_of Y) ?F (fun w as H a ns hl hO hS => fun _ => Ip.sp_law rfl hS (K01.plain ns hl))
  case F =>
    intro w mg fa h KX G hmg
    refine' K01.mk KX G hmg ?d_divisor ?d_ratio ?d_is_ratio ?d_added ?d_negative ?d_times ?d_over ?d_less ?d_greatest ?d_summed ?d_weighed ?d_ratio_text ?d__law_same ?d__law_stream ?d__law_next ?d__law_divisor ?d__law_ratio ?d__law_plus ?d__law_sum ?d__law_less ?d__law_drawn ?d_law ?z_len ?z_abs ?z_int ?z_str ?z_repr ?z_sum ?z_max ?z_min ?z_all ?z_any ?z_range ?z_zip 
    (case d_divisor => (refine' K01.d_divisor ?a ?l ?c ?k; (case a => k_is); (case l => k_is); (case c => k_is); (case k => k_is)))
    (case d_ratio => (refine' K01.d_ratio ?a ?l ?c ?k; (case a => k_is); (case l => k_is); (case c => k_is); (case k => k_is)))
    (case d_is_ratio => (refine' K01.d_is_ratio ?a ?l ?c ?k; (case a => k_is); (case l => k_is); (case c => k_is); (case k => k_is)))
    (case d_added => (refine' K01.d_added ?a ?l ?c ?k; (case a => k_is); (case l => k_is); (case c => k_is); (case k => k_is)))
    (case d_negative => (refine' K01.d_negative ?a ?l ?c ?k; (case a => k_is); (case l => k_is); (case c => k_is); (case k => k_is)))
    (case d_times => (refine' K01.d_times ?a ?l ?c ?k; (case a => k_is); (case l => k_is); (case c => k_is); (case k => k_is)))
    (case d_over => (refine' K01.d_over ?a ?l ?c ?k; (case a => k_is); (case l => k_is); (case c => k_is); (case k => k_is)))
    (case d_less => (refine' K01.d_less ?a ?l ?c ?k; (case a => k_is); (case l => k_is); (case c => k_is); (case k => k_is)))
    (case d_greatest => (refine' K01.d_greatest ?a ?l ?c ?k; (case a => k_is); (case l => k_is); (case c => k_is); (case k => k_is)))
    (case d_summed => (refine' K01.d_summed ?a ?l ?c ?k; (case a => k_is); (case l => k_is); (case c => k_is); (case k => k_is)))
    (case d_weighed => (refine' K01.d_weighed ?a ?l ?c ?k; (case a => k_is); (case l => k_is); (case c => k_is); (case k => k_is)))
    (case d_ratio_text => (refine' K01.d_ratio_text ?a ?l ?c ?k; (case a => k_is); (case l => k_is); (case c => k_is); (case k => k_is)))
    (case d__law_same => (refine' K01.d__law_same ?a ?l ?c ?k; (case a => k_is); (case l => k_is); (case c => k_is); (case k => k_is)))
    (case d__law_stream => (refine' K01.d__law_stream ?a ?l ?c ?k; (case a => k_is); (case l => k_is); (case c => k_is); (case k => k_is)))
    (case d__law_next => (refine' K01.d__law_next ?a ?l ?c ?k; (case a => k_is); (case l => k_is); (case c => k_is); (case k => k_is)))
    (case d__law_divisor => (refine' K01.d__law_divisor ?a ?l ?c ?k; (case a => k_is); (case l => k_is); (case c => k_is); (case k => k_is)))
    (case d__law_ratio => (refine' K01.d__law_ratio ?a ?l ?c ?k; (case a => k_is); (case l => k_is); (case c => k_is); (case k => k_is)))
    (case d__law_plus => (refine' K01.d__law_plus ?a ?l ?c ?k; (case a => k_is); (case l => k_is); (case c => k_is); (case k => k_is)))
    (case d__law_sum => (refine' K01.d__law_sum ?a ?l ?c ?k; (case a => k_is); (case l => k_is); (case c => k_is); (case k => k_is)))
    (case d__law_less => (refine' K01.d__law_less ?a ?l ?c ?k; (case a => k_is); (case l => k_is); (case c => k_is); (case k => k_is)))
    (case d__law_drawn => (refine' K01.d__law_drawn ?a ?l ?c ?k; (case a => k_is); (case l => k_is); (case c => k_is); (case k => k_is)))
    (case d_law => (refine' K01.d_law ?a ?l ?c ?k; (case a => k_is); (case l => k_is); (case c => k_is); (case k => k_is)))
    (case z_len => k_is)
    (case z_abs => k_is)
    (case z_int => k_is)
    (case z_str => k_is)
    (case z_repr => k_is)
    (case z_sum => k_is)
    (case z_max => k_is)
    (case z_min => k_is)
    (case z_all => k_is)
    (case z_any => k_is)
    (case z_range => k_is)
    (case z_zip => k_is)

