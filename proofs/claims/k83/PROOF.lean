import PyProof.Rows.All
import Wide.All
import OpenK.AllK
import Wide.FinOn
import HandS.ForMost
import HandS.ForExc
import HandS.Deep
import HandS.Wide
import HandS.TupAny
import HandS.IsInst
import HandS.Conv
import HandS.Rev
import HandS.Gcd
import HandS.SortInts
import HandS.CallSlots
import HandS.ExcInit
import HandS.MakeKw
import HandS.MakeKwOnly
import KE.KSortedM
import HandS.FStr
import KE.KStateDown
import HandS.Ends
import HandS.More
import HandS.Words
import HandS.WordsExc
import HandS.Head0
import HandS.Head1
import HandS.Head2
import HandS.HeadEnd
import HandS.HeadHook1
import HandS.HeadHook2
import HandS.Head3
import PySem.Challenge.RW_rareslips_k83_town_machines
set_option Elab.async false
set_option linter.all false
set_option maxRecDepth 100000
set_option maxHeartbeats 0
/-! PV, part a: a position-free language, plain data, its evaluator. -/
namespace PV
open PySem PySem.Spec PyProof.Rows

/-- plain data -/
inductive D where
  | non | bl (b : Bool) | int (i : Int) | str (x : Str)
  | tup (xs : List D) | lst (xs : List D)
  /-- the script -/
  | scr (ns : List Int)
  /-- an instance of the c-th class: attributes by number -/
  | ins (c : Nat) (fs : List (Nat × D))
  /-- a caught exception of the c-th class -/
  | exn (c : Nat) (as : List D)
  deriving Inhabited

/-- a result: a value, an exception of the c-th class, or nothing is said -/
inductive R (α : Type) where
  | ok (a : α) | exc (c : Nat) (as : List D) | bad
@[inline] def R.bind {α β : Type} (x : R α) (f : α → R β) : R β := match x with
  | .ok a => f a
  | .exc c as => .exc c as
  | .bad => .bad
instance : Monad R where
  pure := .ok
  bind := R.bind
theorem R.ok_bind {α β : Type} (a : α) (f : α → R β) : (R.ok a >>= f) = f a := rfl
theorem R.exc_bind {α β : Type} (c : Nat) (as : List D) (f : α → R β) : ((R.exc c as : R α) >>= f) = .exc c as := rfl
theorem R.bad_bind {α β : Type} (f : α → R β) : ((R.bad : R α) >>= f) = .bad := rfl
theorem R.pure_eq {α : Type} (a : α) : (pure a : R α) = .ok a := rfl
def R.of {α : Type} : Option α → R α
  | some a => .ok a
  | none => .bad

inductive Bop where | add | sub | mul | fdiv | mod | pow deriving DecidableEq
inductive Cop where | eq | ne | lt | le | gt | ge | isin | notin deriving DecidableEq
inductive Ty where | int | bool | str | list | tuple | cls (c : Nat) deriving DecidableEq
inductive Bi where
  | len | int | tuple | list | max | min | sum | abs | sorted | gcd | str | trev | fmt
  deriving DecidableEq
inductive Bm where | index deriving DecidableEq
inductive Tg where | one (i : Nat) | many (is : List Nat) deriving DecidableEq

def Tg.ix : Tg → List Nat
  | .one i => [i]
  | .many is => is
mutual
inductive E where
  | lit (d : D) | var (i : Nat) | glob (g : Nat) | bad
  | neg (a : E) | not (a : E) | and (a b : E) | or (a b : E)
  | bin (o : Bop) (a b : E) | cmp (o : Cop) (a b : E) | chain (o p : Cop) (a b c : E)
  | isN (a : E) | isNN (a : E) | ife (c a b : E)
  | tup (es : Es) | lst (es : Es)
  | sub (a i : E) | sl0 (a : E) | slL (a lo : E) | slH (a hi : E) | slB (a lo hi : E) | attr (a : E) (f : Nat)
  | call (f : Nat) (es : Es) | mk (c : Nat) (es : Es) | mkK (c : Nat) (es ks : Es)
  | bi (b : Bi) (es : Es) | isi (a : E) (ts : List Ty) | bm (m : Bm) (a : E) (es : Es) | meth (m : Nat) (a : E) (es : Es)
  | comp (elt : E) (own : List Nat) (t : Tg) (it : It) | compI (elt : E) (own : List Nat) (t : Tg) (it : It) (c : E)
  | tupR (it : It) | lstR (it : It) | fzl (a : E)
inductive Es where | nil | cons (e : E) (es : Es)
inductive It where | seq (a : E) | rng1 (a : E) | rng2 (a b : E) | rev (a : E) | enum (a : E) | zip (a b : E)
end
mutual
inductive S where
  | asg (t : Tg) (e : E) | setA (i f : Nat) (e : E) | setI (i : Nat) (path : Es) (e : E) | app (i : Nat) (path : Es) (e : E)
  | expr (e : E) | ret (e : E) | retN
  | ife (c : E) (a b : Ss) | for_ (t : Tg) (it : It) (b : Ss) | while_ (c : E) (b : Ss)
  | raise (c : Nat) (es : Es) | try_ (b : Ss) (c i : Nat) (h : Ss)
  | pass | brk | cont | never
inductive Ss where | nil | cons (s : S) (ss : Ss)
end

def Es.len : Es → Nat
  | .nil => 0
  | .cons _ es => es.len + 1
/-! ### operations on data -/
mutual
def D.pd : D → Option PyData
  | .non => some .none
  | .bl b => some (.bool b)
  | .int i => some (.int i)
  | .str x => some (.str x)
  | .tup xs => (pdAll xs).map .tuple
  | .lst xs => (pdAll xs).map .list
  | .scr _ => none
  | .ins _ _ => none
  | .exn _ _ => none
def pdAll : List D → Option (List PyData)
  | [] => some []
  | x :: xs => match x.pd, pdAll xs with
    | some p, some ps => some (p :: ps)
    | _, _ => none
end
def eqD (x y : D) : R Bool := match x.pd, y.pd with
  | some p, some q => if SeqAt.shaped p && SeqAt.shaped q then .ok (PyData.eqv p q) else .bad
  | _, _ => .bad
def flatD : D → Bool
  | .non => true | .bl _ => true | .int _ => true | .str _ => true
  | _ => false
/-- == of flat things -/
def eqF : D → D → Bool
  | .non, .non => true
  | .bl a, .bl b => a == b
  | .bl a, .int j => (if a then 1 else 0) == j
  | .int i, .bl b => i == (if b then 1 else 0)
  | .int i, .int j => i == j
  | .str x, .str y => x == y
  | _, _ => false
def inD (x y : D) : R Bool := match y with
  | .str z => match x with
    | .str c => match c.cps.toList with
      | [k] => .ok (decide (k ∈ z.cps.toList))
      | _ => .bad
    | _ => .bad
  | .lst ys => if flatD x && ys.all flatD then .ok (ys.any fun z => eqF z x) else
      match x.pd, pdAll ys with
      | some p, some ps => if SeqAt.shaped p && SeqAt.shaped (.list ps) then .ok (ps.any fun z => PyData.eqv z p) else .bad
      | _, _ => .bad
  | .tup ys => if flatD x && ys.all flatD then .ok (ys.any fun z => eqF z x) else .bad
  | _ => .bad
def mulOk (i j : Int) : Bool := decide (i.natAbs.log2 + j.natAbs.log2 < 1000000)
def binD (o : Bop) (x y : D) : R D := match o, x, y with
  | .add, .int i, .int j => .ok (.int (i + j))
  | .add, .str i, .str j => if i.length + j.length ≤ sizeLine then .ok (.str (i ++ j)) else .bad
  | .add, .tup i, .tup j => if i.length + j.length ≤ sizeLine then .ok (.tup (i ++ j)) else .bad
  | .add, .lst i, .lst j => if i.length + j.length ≤ sizeLine then .ok (.lst (i ++ j)) else .bad
  | .sub, .int i, .int j => .ok (.int (i - j))
  | .mul, .int i, .int j => if mulOk i j then .ok (.int (i * j)) else .bad
  | .mul, .lst i, .int k => if -(2 ^ 63) ≤ k ∧ k < 2 ^ 63 ∧ i.length * k.toNat ≤ sizeLine then .ok (.lst (List.replicate k.toNat i).flatten) else .bad
  | .fdiv, .int i, .int j => if 0 < j ∧ j.natAbs.log2 < 9000 then .ok (.int (i / j)) else if j ≠ 0 ∧ j.natAbs < 1073741824 then .ok (.int (i.fdiv j)) else .bad
  | .mod, .int i, .int j => if 0 < j then .ok (.int (i % j)) else if j ≠ 0 then .ok (.int (i.fmod j)) else .bad
  | .pow, .int i, .int j => if 0 ≤ j ∧ j ≤ 1000000 ∧ i.natAbs < 2 ^ 64 then .ok (.int (i ^ j.toNat)) else .bad
  | _, _, _ => .bad
def cmpD (o : Cop) (x y : D) : R Bool := match o with
  | .eq => eqD x y
  | .ne => match eqD x y with
    | .ok b => .ok (!b)
    | _ => .bad
  | .isin => inD x y
  | .notin => match inD x y with
    | .ok b => .ok (!b)
    | _ => .bad
  | .lt => match x, y with
    | .int i, .int j => .ok (decide (i < j))
    | _, _ => .bad
  | .le => match x, y with
    | .int i, .int j => .ok (decide (i ≤ j))
    | _, _ => .bad
  | .gt => match x, y with
    | .int i, .int j => .ok (decide (j < i))
    | _, _ => .bad
  | .ge => match x, y with
    | .int i, .int j => .ok (decide (j ≤ i))
    | _, _ => .bad
/-- the item at i -/
def atD {α : Type} (xs : List α) (i : Int) : Option α := L2.atI xs i
def subD (x i : D) : R D := match x, i with
  | .lst xs, .int i => .of (atD xs i)
  | .tup xs, .int i => .of (atD xs i)
  | .scr ns, .int i => .of ((atD ns i).map .int)
  | .str z, .int i => if z.length ≤ sizeLine then .of ((atD z.cps.toList i).map fun c => .str ⟨#[c]⟩) else .bad
  | _, _ => .bad
def cutD {α : Type} (xs : List α) (lo hi : Option Int) : List α := (xs.drop (HT.sIx xs.length 0 lo)).take (HT.sIx xs.length xs.length hi - HT.sIx xs.length 0 lo)
def partD : D → R (Option Int)
  | .int i => .ok (some i)
  | _ => .bad
def slD (x : D) (lo hi : Option Int) : R D := match x with
  | .lst xs => .ok (.lst (cutD xs lo hi))
  | .tup xs => .ok (.tup (cutD xs lo hi))
  | .str z => if z.length ≤ sizeLine then .ok (.str (L2.cutS z lo hi)) else .bad
  | _ => .bad
def lookF (f : Nat) : List (Nat × D) → Option D
  | [] => none
  | (g, d) :: r => if f == g then some d else lookF f r
def putF (f : Nat) (v : D) : List (Nat × D) → List (Nat × D)
  | [] => [(f, v)]
  | (g, d) :: r => if f == g then (f, v) :: r else (g, d) :: putF f v r
def intsD : List D → Option (List Int)
  | [] => some []
  | .int i :: r => (intsD r).map (i :: ·)
  | _ => none
def maxI (x : Int) (xs : List Int) : Int := xs.foldl (fun m y => if y > m then y else m) x
def minI (x : Int) (xs : List Int) : Int := xs.foldl (fun m y => if y < m then y else m) x
def insI (x : Int) : List Int → List Int
  | [] => [x]
  | y :: ys => if x ≤ y then x :: y :: ys else y :: insI x ys
def sortI : List Int → List Int
  | [] => []
  | x :: xs => insI x (sortI xs)
def biD (b : Bi) (ds : List D) : R D := match b, ds with
  | .len, [.lst xs] => .ok (.int xs.length)
  | .len, [.tup xs] => .ok (.int xs.length)
  | .len, [.scr xs] => .ok (.int xs.length)
  | .len, [.str z] => if z.length ≤ sizeLine then .ok (.int z.length) else .bad
  | .int, [.int i] => .ok (.int i)
  | .int, [.bl b] => .ok (.int (if b then 1 else 0))
  | .tuple, [.lst xs] => .ok (.tup xs)
  | .tuple, [.tup xs] => .ok (.tup xs)
  | .list, [.lst xs] => .ok (.lst xs)
  | .list, [.tup xs] => .ok (.lst xs)
  | .max, [.lst xs] => match intsD xs with
    | some (i :: r) => .ok (.int (maxI i r))
    | _ => .bad
  | .min, [.lst xs] => match intsD xs with
    | some (i :: r) => .ok (.int (minI i r))
    | _ => .bad
  | .max, [.int i, .int j] => .ok (.int (if j > i then j else i))
  | .min, [.int i, .int j] => .ok (.int (if j < i then j else i))
  | .sum, [.lst xs] => match intsD xs with
    | some r => .ok (.int r.sum)
    | _ => .bad
  | .abs, [.int i] => .ok (.int (if i < 0 then -i else i))
  | .sorted, [.lst xs] => match intsD xs with
    | some r => .ok (.lst ((sortI r).map .int))
    | _ => .bad
  | .gcd, [.int i, .int j] => .ok (.int (Nat.gcd i.natAbs j.natAbs : Nat))
  | .str, [.int i] => if i.natAbs.log2 < 1920 then .ok (.str (toString i)) else .bad
  | .trev, [.lst xs] => .ok (.tup xs.reverse)
  | .fmt, [.int i] => if i.natAbs.log2 < 1920 then .ok (.str (toString i)) else .bad
  | .fmt, [.str z] => if z.length ≤ sizeLine then .ok (.str z) else .bad
  | _, _ => .bad
def bmD (m : Bm) (x : D) (ds : List D) : R D := match m, x, ds with
  | .index, .lst ys, [x] => match x.pd, pdAll ys with
    | some p, some ps => if SeqAt.shaped p && SeqAt.shaped (.list ps) then
        match ps.findIdx? fun z => PyData.eqv z p with
        | some j => .ok (.int j)
        | none => .bad
      else .bad
    | _, _ => .bad
  | _, _, _ => .bad

def lstOf : D → R D
  | .lst xs => .ok (.lst xs)
  | _ => .bad
/-! ### the table of a program -/
structure Fn where
  np : Nat
  ns : Nat
  dfl : List D
  body : Ss
structure Cl where
  /-- __init__, a number in the table of functions (a plain class) -/
  init : Option Nat
  /-- the fields of an exception class -/
  exf : Option (List Nat)
  meths : List (Nat × Nat)
  /-- the fields of its instances -/
  flds : List Nat
  /-- it and the classes it comes from (own ones) -/
  up : List Nat
  /-- isinstance may be asked of its instances -/
  isi : Bool := false
structure Tab where
  fns : List Fn
  cls : List Cl
  globs : List D
inductive Cal where | fn (f : Nat) | mk (c : Nat) | ini (c : Nat) | rz (c : Nat)

/-- is a thing of a built-in type -/
def isTyB : D → Ty → Option Bool
  | .non, .cls _ => none
  | .bl _, .cls _ => none
  | .int _, .cls _ => none
  | .str _, .cls _ => none
  | .tup _, .cls _ => none
  | .lst _, .cls _ => none
  | .non, _ => some false
  | .bl _, .int => some true
  | .bl _, .bool => some true
  | .bl _, _ => some false
  | .int _, .int => some true
  | .int _, _ => some false
  | .str _, .str => some true
  | .str _, _ => some false
  | .tup _, .tuple => some true
  | .tup _, _ => some false
  | .lst _, .list => some true
  | .lst _, _ => some false
  | _, _ => none
def isTy (T : Tab) (d : D) (t : Ty) : Option Bool := match d, t with
  | .ins k _, .cls c => (T.cls[k]?).bind fun q => if q.isi then some (q.up.contains c) else none
  | _, _ => isTyB d t
def isTys (T : Tab) (d : D) : List Ty → Option Bool
  | [] => some false
  | t :: ts => match isTy T d t with
    | some true => some true
    | some false => isTys T d ts
    | none => none

/-! ### expressions -/
abbrev En := List (Option D)
def rdV (ρ : En) (i : Nat) : R D := match ρ[i]? with
  | some (some d) => .ok d
  | _ => .bad
def wipeE (ρ : En) : List Nat → En
  | [] => ρ
  | v :: vs => (wipeE ρ vs).set v none
/-- a target takes a value -/
def setMany : List Nat → List D → En → R En
  | [], [], ρ => .ok ρ
  | i :: is, d :: ds, ρ => setMany is ds (ρ.set i (some d))
  | _, _, _ => .bad
def setT (t : Tg) (d : D) (ρ : En) : R En := match t with
  | .one i => .ok (ρ.set i (some d))
  | .many is => match d with
    | .tup ds => setMany is ds ρ
    | _ => .bad
def rngD (lo hi : Int) : R (List D) :=
  if -(2 ^ 62) ≤ lo ∧ lo < 2 ^ 62 ∧ -(2 ^ 62) ≤ hi ∧ hi < 2 ^ 62 then .ok ((List.range (hi - lo).toNat).map fun k => .int (lo + (k : Nat))) else .bad
def itemsD : D → R (List D)
  | .lst xs => .ok xs
  | .tup xs => .ok xs
  | .scr ns => .ok (ns.map .int)
  | .str z => .ok (z.cps.toList.map fun c => .str ⟨#[c]⟩)
  | _ => .bad
def revD : D → R (List D)
  | .lst xs => .ok xs.reverse
  | .tup xs => .ok xs.reverse
  | _ => .bad
def bool_ : D → R Bool
  | .bl b => .ok b
  | _ => .bad
/-- what a comprehension's turn gives, turn by turn; no exception leaves it -/
def compL (tn : D → R (Option D)) : List D → List D → R D
  | [], acc => .ok (.lst acc)
  | x :: xs, acc => match tn x with
    | .ok none => compL tn xs acc
    | .ok (some y) => if acc.length < sizeLine then compL tn xs (acc ++ [y]) else .bad
    | _ => .bad
section
variable (T : Tab) (call : Cal → List D → R D)
mutual
def evE (ρ : En) : E → R D
  | .lit d => .ok d
  | .var i => rdV ρ i
  | .glob g => .of T.globs[g]?
  | .bad => .bad
  | .neg a => do match ← evE ρ a with
    | .int i => .ok (.int (-i))
    | _ => .bad
  | .not a => do .ok (.bl (!(← bool_ (← evE ρ a))))
  | .and a b => do
    if ← bool_ (← evE ρ a) then evE ρ b else .ok (.bl false)
  | .or a b => do
    if ← bool_ (← evE ρ a) then .ok (.bl true) else evE ρ b
  | .bin o a b => do
    let x ← evE ρ a
    let y ← evE ρ b
    binD o x y
  | .cmp o a b => do
    let x ← evE ρ a
    let y ← evE ρ b
    let k ← cmpD o x y
    .ok (.bl k)
  | .chain o p a b c => do
    let x ← evE ρ a
    let y ← evE ρ b
    let k ← cmpD o x y
    if k then do
      let z ← evE ρ c
      let k ← cmpD p y z
      .ok (.bl k)
    else .ok (.bl false)
  | .isN a => do match ← evE ρ a with
    | .non => .ok (.bl true)
    | .exn _ _ => .bad
    | _ => .ok (.bl false)
  | .isNN a => do match ← evE ρ a with
    | .non => .ok (.bl false)
    | .exn _ _ => .bad
    | _ => .ok (.bl true)
  | .ife c a b => do
    if ← bool_ (← evE ρ c) then evE ρ a else evE ρ b
  | .tup es => do
    let ds ← evEs ρ es
    if ds.length ≤ sizeLine then .ok (.tup ds) else .bad
  | .lst es => do
    let ds ← evEs ρ es
    if ds.length ≤ sizeLine then .ok (.lst ds) else .bad
  | .sub a i => do
    let x ← evE ρ a
    let y ← evE ρ i
    subD x y
  | .sl0 a => do slD (← evE ρ a) none none
  | .slL a lo => do
    let x ← evE ρ a
    let l ← partD (← evE ρ lo)
    slD x l none
  | .slH a hi => do
    let x ← evE ρ a
    let h ← partD (← evE ρ hi)
    slD x none h
  | .slB a lo hi => do
    let x ← evE ρ a
    let l ← partD (← evE ρ lo)
    let h ← partD (← evE ρ hi)
    slD x l h
  | .attr a f => do match ← evE ρ a with
    | .ins c fs => if ((T.cls[c]?).map fun q => q.flds.contains f) = some true then .of (lookF f fs) else .bad
    | .exn c as => match (T.cls[c]?).bind (·.exf) with
      | some fs => .of (lookF f (fs.zip as))
      | none => .bad
    | _ => .bad
  | .call f es => do call (.fn f) (← evEs ρ es)
  | .mk c es => do call (.mk c) (← evEs ρ es)
  | .mkK c es ks => do
    let ds ← evEs ρ es
    let gs ← evEs ρ ks
    call (.mk c) (ds ++ gs)
  | .bi b es => do biD b (← evEs ρ es)
  | .isi a ts => do
    let d ← evE ρ a
    .of ((isTys T d ts).map .bl)
  | .bm m a es => do
    let x ← evE ρ a
    let x ← lstOf x
    let ds ← evEs ρ es
    bmD m x ds
  | .meth m a es => do
    let x ← evE ρ a
    let ds ← evEs ρ es
    match x with
    | .ins c _ => match (T.cls[c]?).bind (fun q => q.meths.lookup m) with
      | some f => call (.fn f) (x :: ds)
      | none => .bad
    | _ => .bad
  | .comp elt own t it => do
    let xs ← evIt ρ it
    compL (fun x => do
      let ρ' ← setT t x (wipeE ρ own)
      let y ← evE ρ' elt
      .ok (some y)) xs []
  | .compI elt own t it c => do
    let xs ← evIt ρ it
    compL (fun x => do
      let ρ' ← setT t x (wipeE ρ own)
      if ← bool_ (← evE ρ' c) then do
        let y ← evE ρ' elt
        .ok (some y)
      else .ok none) xs []
  | .tupR it => do
    let xs ← evIt ρ it
    if xs.length ≤ sizeLine then .ok (.tup xs) else .bad
  | .lstR it => do
    let xs ← evIt ρ it
    if xs.length ≤ sizeLine then .ok (.lst xs) else .bad
  | .fzl a => evE ρ a
def evEs (ρ : En) : Es → R (List D)
  | .nil => .ok []
  | .cons e es => do
    let x ← evE ρ e
    let xs ← evEs ρ es
    .ok (x :: xs)
def evIt (ρ : En) : It → R (List D)
  | .seq a => do itemsD (← evE ρ a)
  | .rng1 a => do match ← evE ρ a with
    | .int hi => rngD 0 hi
    | _ => .bad
  | .rng2 a b => do
    let x ← evE ρ a
    let y ← evE ρ b
    match x, y with
    | .int lo, .int hi => rngD lo hi
    | _, _ => .bad
  | .rev a => do revD (← evE ρ a)
  | .enum a => do
    match ← evE ρ a with
    | .lst xs => .ok ((List.range xs.length).zip xs |>.map fun p => .tup [.int (p.1 : Nat), p.2])
    | _ => .bad
  | .zip a b => do
    let x ← evE ρ a
    let y ← evE ρ b
    match x, y with
    | .lst xs, .lst ys => if xs.length = ys.length then .ok (xs.zip ys |>.map fun p => .tup [p.1, p.2]) else .bad
    | .tup xs, .tup ys => if xs.length = ys.length then .ok (xs.zip ys |>.map fun p => .tup [p.1, p.2]) else .bad
    | _, _ => .bad
end
end

/-! ### statements -/
inductive Fl where | next | ret (d : D) | brk | cont
mutual
/-- the slots that a statement stores or changes -/
def asgS : S → List Nat
  | .asg (.one i) _ => [i]
  | .asg (.many is) _ => is
  | .setA i _ _ => [i]
  | .setI i _ _ => [i]
  | .app i _ _ => [i]
  | .ife _ a b => asgSs a ++ asgSs b
  | .for_ (.one i) _ b => i :: asgSs b
  | .for_ (.many is) _ b => is ++ asgSs b
  | .while_ _ b => asgSs b
  | .try_ b _ i h => asgSs b ++ i :: asgSs h
  | _ => []
def asgSs : Ss → List Nat
  | .nil => []
  | .cons s ss => asgS s ++ asgSs ss
end
/-- the item at the path's end is changed -/
def setPath : D → List D → D → R D
  | .lst xs, [.int i], v => match L2.ixN xs.length i with
    | some j => .ok (.lst (xs.set j v))
    | none => .bad
  | .lst xs, .int i :: is, v => match L2.ixN xs.length i with
    | some j => match xs[j]? with
      | some x => do .ok (.lst (xs.set j (← setPath x is v)))
      | none => .bad
    | none => .bad
  | _, _, _ => .bad
def appPath : D → List D → D → R D
  | .lst xs, [], v => if xs.length < sizeLine then .ok (.lst (xs ++ [v])) else .bad
  | .lst xs, .int i :: is, v => match L2.ixN xs.length i with
    | some j => match xs[j]? with
      | some x => do .ok (.lst (xs.set j (← appPath x is v)))
      | none => .bad
    | none => .bad
  | _, _, _ => .bad
/-- the list at the path's end -/
def getPath : D → List D → R D
  | .lst xs, [] => .ok (.lst xs)
  | .lst xs, .int i :: is => match L2.ixN xs.length i with
    | some j => match xs[j]? with
      | some x => getPath x is
      | none => .bad
    | none => .bad
  | _, _ => .bad
/-- a for: the body turn by turn -/
def forL (t : Tg) (body : En → R (Fl × En)) : List D → En → R (Fl × En)
  | [], ρ => .ok (.next, ρ)
  | x :: xs, ρ => do
    let ρ1 ← setT t x ρ
    match ← body ρ1 with
    | (.next, ρ2) => forL t body xs ρ2
    | (.cont, ρ2) => forL t body xs ρ2
    | (.brk, ρ2) => .ok (.next, ρ2)
    | (.ret d, ρ2) => .ok (.ret d, ρ2)
def whL (c : En → R Bool) (body : En → R (Fl × En)) : Nat → En → R (Fl × En)
  | 0, _ => .bad
  | n + 1, ρ => do
    if ← c ρ then
      match ← body ρ with
      | (.next, ρ2) => whL c body n ρ2
      | (.cont, ρ2) => whL c body n ρ2
      | (.brk, ρ2) => .ok (.next, ρ2)
      | (.ret d, ρ2) => .ok (.ret d, ρ2)
    else .ok (.next, ρ)
def upOf (T : Tab) (c : Nat) : List Nat := match T.cls[c]? with
  | some q => q.up
  | none => []
section
variable (T : Tab) (call : Cal → List D → R D) (wf : Nat)
mutual
def exS (ρ : En) : S → R (Fl × En)
  | .asg t e => do
    let d ← evE T call ρ e
    .ok (.next, ← setT t d ρ)
  | .setA i f e => do
    let d ← evE T call ρ e
    match ρ[i]? with
    | some (some (.ins c fs)) => if ((T.cls[c]?).map fun q => q.flds.contains f) = some true ∧ fs.length < 900 then .ok (.next, ρ.set i (some (.ins c (putF f d fs)))) else .bad
    | _ => .bad
  | .setI i path e => do
    let d ← evE T call ρ e
    let x ← rdV ρ i
    let ks ← evEs T call ρ path
    .ok (.next, ρ.set i (some (← setPath x ks d)))
  | .app i path e => do
    let x ← rdV ρ i
    let ks ← evEs T call ρ path
    let _ ← getPath x ks
    let d ← evE T call ρ e
    .ok (.next, ρ.set i (some (← appPath x ks d)))
  | .expr e => do
    let _ ← evE T call ρ e
    .ok (.next, ρ)
  | .ret e => do .ok (.ret (← evE T call ρ e), ρ)
  | .retN => .ok (.ret .non, ρ)
  | .ife c a b => do
    if ← bool_ (← evE T call ρ c) then exSs ρ a else exSs ρ b
  | .for_ t it b => do
    let xs ← evIt T call ρ it
    forL t (fun ρ => exSs ρ b) xs ρ
  | .while_ c b => whL (fun ρ => do bool_ (← evE T call ρ c)) (fun ρ => exSs ρ b) wf ρ
  | .raise c es => do
    let ds ← evEs T call ρ es
    let _ ← call (.rz c) ds
    .exc c ds
  | .try_ b c i h => match exSs ρ b with
    | .ok r => .ok r
    | .bad => .bad
    | .exc k as => if (upOf T k).contains c then do
        let (fl, ρ') ← exSs ((wipeE ρ (asgSs b)).set i (some (.exn k as))) h
        .ok (fl, ρ'.set i none)
      else .exc k as
  | .pass => .ok (.next, ρ)
  | .brk => .ok (.brk, ρ)
  | .cont => .ok (.cont, ρ)
  | .never => .bad
def exSs (ρ : En) : Ss → R (Fl × En)
  | .nil => .ok (.next, ρ)
  | .cons s ss => do match ← exS ρ s with
    | (.next, ρ1) => exSs ρ1 ss
    | r => .ok r
end
end
/-- the slots at the entry -/
def startE (n : Nat) (ds : List D) : En := ds.map some ++ List.replicate (n - ds.length) none
/-- a def's body -/
def bodyD (T : Tab) (call : Cal → List D → R D) (wf : Nat) (F : Fn) (ds : List D) : R (Fl × En) :=
  if (ds ++ F.dfl).length < F.np then .bad else
  if F.np < ds.length then .bad else
  exSs T call wf (startE F.ns (ds ++ F.dfl.drop (F.dfl.length - (F.np - ds.length)))) F.body
/-- calls, n deep -/
def calN (T : Tab) (wf : Nat) : Nat → Cal → List D → R D
  | 0, _, _ => .bad
  | 1, _, _ => .bad
  | n + 2, .fn f, ds => match T.fns[f]? with
    | some F => do match ← bodyD T (calN T wf (n + 1)) wf F ds with
      | (.ret d, _) => .ok d
      | (.next, _) => .ok .non
      | _ => .bad
    | none => .bad
  | n + 2, .mk c, ds => calN T wf (n + 1) (.ini c) ds
  | n + 2, .ini c, ds => match (T.cls[c]?).bind (·.init) with
    | some f => match T.fns[f]? with
      | some F => do match ← bodyD T (calN T wf (n + 1)) wf F (.ins c [] :: ds) with
        | (.next, ρ) => rdV ρ 0
        | _ => .bad
      | none => .bad
    | none => .bad
  | n + 2, .rz c, ds => match (T.cls[c]?).bind (·.exf) with
    | some fs => if 3 ≤ n + 1 ∧ ds.length = fs.length then .ok .non else .bad
    | none => .bad
end PV
/-! PV, part b: ownership, how data stand in the heap. -/
namespace PV
open PySem PySem.Spec PyProof.Rows L2

/-- what is one's own alone: nothing; a list, its items as told; an instance (its fields are nobody's) -/
inductive Ow where | fz | l (o : Ow) | i deriving DecidableEq
def Ow.meet : Ow → Ow → Ow
  | .l a, .l b => .l (a.meet b)
  | .i, .i => .i
  | _, _ => .fz
def Ow.le : Ow → Ow → Bool
  | .fz, _ => true
  | .l a, .l b => a.le b
  | .i, .i => true
  | _, _ => false
def Ow.flat : Ow → Bool
  | .fz => true | .i => true | .l .fz => true | _ => false
theorem Ow.le_refl : ∀ o : Ow, o.le o = true
  | .fz => rfl
  | .i => rfl
  | .l a => Ow.le_refl a
theorem Ow.meet_le : ∀ a b : Ow, (a.meet b).le a = true
  | .l a, .l b => Ow.meet_le a b
  | .i, .i => rfl
  | .fz, .fz => rfl
  | .fz, .l _ => rfl
  | .fz, .i => rfl
  | .l _, .fz => rfl
  | .l _, .i => rfl
  | .i, .fz => rfl
  | .i, .l _ => rfl
theorem Ow.meet_le2 : ∀ a b : Ow, (a.meet b).le b = true
  | .l a, .l b => Ow.meet_le2 a b
  | .i, .i => rfl
  | .fz, .fz => rfl
  | .fz, .l _ => rfl
  | .fz, .i => rfl
  | .l _, .fz => rfl
  | .l _, .i => rfl
  | .i, .fz => rfl
  | .i, .l _ => rfl
theorem Ow.le_trans : ∀ {a b c : Ow}, a.le b = true → b.le c = true → a.le c = true
  | .fz, _, _, _, _ => rfl
  | .l p, .l q, .l r, h, k => Ow.le_trans (a := p) (b := q) (c := r) h k
  | .i, .i, .i, _, _ => rfl
  | .l _, .l _, .fz, _, k => nomatch k
  | .l _, .l _, .i, _, k => nomatch k
  | .l _, .fz, _, h, _ => nomatch h
  | .l _, .i, _, h, _ => nomatch h
  | .i, .fz, _, h, _ => nomatch h
  | .i, .l _, _, h, _ => nomatch h
  | .i, .i, .fz, _, k => nomatch k
  | .i, .i, .l _, _, k => nomatch k
/-- what all own -/
def meets : List Ow → Ow
  | [] => .l (.l .fz)
  | o :: os => o.meet (meets os)
theorem meets_le : ∀ {os : List Ow} {p : Ow}, p ∈ os → (meets os).le p = true
  | o :: os, p, h => by
    rcases List.mem_cons.mp h with rfl | h
    · exact Ow.meet_le _ _
    · exact Ow.le_trans (Ow.meet_le2 _ _) (meets_le h)
abbrev Om := List Ow
def og (ω : Om) (i : Nat) : Ow := ω.getD i .fz

/-- the facts that a reading leans on: the module's part, the classes' addresses, the attributes' names -/
structure Lx where
  K : PySem.W.Frag
  cA : Nat → Addr
  an : Nat → Str
  /-- what the first slot holds, as long as it is an instance of its own (an __init__'s self) -/
  sv : Option V := none

abbrev Sub (F H : Hp) : Prop := ∀ a o, F a = some o → H a = some o
theorem Sub.refl (F : Hp) : Sub F F := fun _ _ h => h
theorem Sub.trans {F G H : Hp} (a : Sub F G) (b : Sub G H) : Sub F H := fun p o h => b p o (a p o h)

mutual
inductive Rep (x : Lx) (F : Hp) : V → D → Prop
  | non : Rep x F .non .non
  | bl (b : Bool) : Rep x F (.bl b) (.bl b)
  | int (i : Int) : Rep x F (.int i) (.int i)
  | str (s : Str) : Rep x F (.str s) (.str s)
  | tup {a : Addr} {vs : List V} {ds : List D} : SqT x.K F a vs → Reps x F vs ds → Rep x F (.ref a) (.tup ds)
  | lst {a : Addr} {vs : List V} {ds : List D} : F a = some (.lst vs) → Reps x F vs ds → Rep x F (.ref a) (.lst ds)
  | scr {a : Addr} {ns : List Int} : SqL x.K F a (ns.map V.int) → Rep x F (.ref a) (.scr ns)
  | ins {a dx : Addr} {c : Nat} {fvs : List (Str × V)} {fs : List (Nat × D)} : F a = some (.ins (x.cA c) dx fvs) → fvs.map (·.1) = fs.map (fun p => x.an p.1) → Reps x F (fvs.map (·.2)) (fs.map (·.2)) → Rep x F (.ref a) (.ins c fs)
inductive Reps (x : Lx) (F : Hp) : List V → List D → Prop
  | nil : Reps x F [] []
  | cons {v : V} {d : D} {vs : List V} {ds : List D} : Rep x F v d → Reps x F vs ds → Reps x F (v :: vs) (d :: ds)
end
theorem Sub.sqL {K : PySem.W.Frag} {F G : Hp} {a : Addr} {xs : List V} (s : Sub F G) (h : SqL K F a xs) : SqL K G a xs := by
  rcases h with (h | ⟨o, h⟩) | h
  · exact .inl (.inl (s _ _ h))
  · exact .inl (.inr ⟨o, s _ _ h⟩)
  · exact .inr h
theorem Sub.sqT {K : PySem.W.Frag} {F G : Hp} {a : Addr} {xs : List V} (s : Sub F G) (h : SqT K F a xs) : SqT K G a xs := by
  rcases h with (h | ⟨o, h⟩) | h
  · exact .inl (.inl (s _ _ h))
  · exact .inl (.inr ⟨o, s _ _ h⟩)
  · exact .inr h
section
variable {x : Lx} {F G H : Hp}
mutual
theorem Rep.mono (s : Sub F G) : ∀ {v : V} {d : D}, Rep x F v d → Rep x G v d
  | _, _, .non => .non
  | _, _, .bl b => .bl b
  | _, _, .int i => .int i
  | _, _, .str z => .str z
  | _, _, .tup h r => .tup (s.sqT h) (Reps.mono s r)
  | _, _, .lst h r => .lst (s _ _ h) (Reps.mono s r)
  | _, _, .scr h => .scr (s.sqL h)
  | _, _, .ins h e r => .ins (s _ _ h) e (Reps.mono s r)
theorem Reps.mono (s : Sub F G) : ∀ {vs : List V} {ds : List D}, Reps x F vs ds → Reps x G vs ds
  | _, _, .nil => .nil
  | _, _, .cons r t => .cons (Rep.mono s r) (Reps.mono s t)
end
theorem Reps.length : ∀ {vs : List V} {ds : List D}, Reps x F vs ds → vs.length = ds.length
  | _, _, .nil => rfl
  | _, _, .cons _ t => congrArg (· + 1) (Reps.length t)
theorem Reps.get : ∀ {vs : List V} {ds : List D} {i : Nat} {d : D}, Reps x F vs ds → ds[i]? = some d → ∃ v, vs[i]? = some v ∧ Rep x F v d
  | _, _, _, _, .nil, e => by simp at e
  | _, _, 0, _, .cons r _, e => by simp at e; subst e; exact ⟨_, rfl, r⟩
  | _, _, i + 1, _, .cons _ t, e => by
    obtain ⟨v, h1, h2⟩ := Reps.get (i := i) t (by simpa using e)
    exact ⟨v, by simpa using h1, h2⟩
theorem Reps.append : ∀ {vs ws : List V} {ds es : List D}, Reps x F vs ds → Reps x F ws es → Reps x F (vs ++ ws) (ds ++ es)
  | _, _, _, _, .nil, t => t
  | _, _, _, _, .cons r s, t => .cons r (Reps.append s t)
theorem Reps.take : ∀ {vs : List V} {ds : List D} (n : Nat), Reps x F vs ds → Reps x F (vs.take n) (ds.take n)
  | _, _, 0, _ => .nil
  | _, _, _ + 1, .nil => .nil
  | _, _, n + 1, .cons r t => .cons r (Reps.take n t)
theorem Reps.drop : ∀ {vs : List V} {ds : List D} (n : Nat), Reps x F vs ds → Reps x F (vs.drop n) (ds.drop n)
  | _, _, 0, r => r
  | _, _, _ + 1, .nil => .nil
  | _, _, n + 1, .cons _ t => Reps.drop n t
theorem Reps.reverse : ∀ {vs : List V} {ds : List D}, Reps x F vs ds → Reps x F vs.reverse ds.reverse
  | _, _, .nil => .nil
  | _, _, .cons r t => by
    rw [List.reverse_cons, List.reverse_cons]
    exact (Reps.reverse t).append (.cons r .nil)
theorem Reps.set {v : V} {d : D} (r : Rep x F v d) : ∀ {vs : List V} {ds : List D} (i : Nat), Reps x F vs ds → Reps x F (vs.set i v) (ds.set i d)
  | _, _, _, .nil => .nil
  | _, _, 0, .cons _ t => .cons r t
  | _, _, i + 1, .cons q t => .cons q (Reps.set r i t)
theorem Reps.rep {vs : List V} {ds : List D} (r : Reps x F vs ds) : ∀ k : Nat, Reps x F (List.replicate k vs).flatten (List.replicate k ds).flatten
  | 0 => .nil
  | k + 1 => by
    rw [List.replicate_succ, List.replicate_succ, List.flatten_cons, List.flatten_cons]
    exact r.append (Reps.rep r k)
theorem Reps.ints : ∀ {vs : List V} {ds : List D} {ns : List Int}, Reps x F vs ds → intsD ds = some ns → vs = ns.map V.int
  | _, _, _, .nil, e => by cases e; rfl
  | _, _, ns, .cons (d := d) (ds := ds) r t, e => by
    cases r with
    | int i =>
      unfold intsD at e
      cases h : intsD ds with
      | none => rw [h] at e; cases e
      | some ms =>
        rw [h] at e
        cases e
        rw [Reps.ints t h]
        rfl
    | _ => cases e
theorem Reps.of_ints : ∀ ns : List Int, Reps x F (ns.map V.int) (ns.map D.int)
  | [] => .nil
  | n :: ns => .cons (.int n) (Reps.of_ints ns)
/-- what stands shows one thing alone -/
theorem Rep.flat {v : V} {d : D} (r : Rep x F v d) (f : flatD d = true) : flatV v = true := by
  cases r <;> first | rfl | cases f
theorem Reps.flat : ∀ {vs : List V} {ds : List D}, Reps x F vs ds → ds.all flatD = true → vs.all flatV = true
  | _, _, .nil, _ => rfl
  | _, _, .cons r t, h => by
    simp only [List.all_cons, Bool.and_eq_true] at h ⊢
    exact ⟨r.flat h.1, Reps.flat t h.2⟩
theorem Rep.eqF {v w : V} {d e : D} (r : Rep x F v d) (s : Rep x F w e) (fd : flatD d = true) (fe : flatD e = true) : eqV v w = eqF d e := by
  cases r <;> first | cases fd | skip
  all_goals (cases s <;> first | cases fe | skip)
  all_goals rfl
mutual
theorem Rep.dp : ∀ {v : V} {d : D} {p : PyData}, Rep x F v d → d.pd = some p → Dp x.K F v p
  | _, _, _, .non, e => by cases e; exact .non
  | _, _, _, .bl b, e => by cases e; exact .bl b
  | _, _, _, .int i, e => by cases e; exact .int i
  | _, _, _, .str z, e => by cases e; exact .str z
  | _, _, p, .tup (ds := ds) h r, e => by
    unfold D.pd at e
    cases q : pdAll ds with
    | none => rw [q] at e; cases e
    | some ps => rw [q] at e; cases e; exact .tup h (Reps.dp r q)
  | _, _, p, .lst (ds := ds) h r, e => by
    unfold D.pd at e
    cases q : pdAll ds with
    | none => rw [q] at e; cases e
    | some ps => rw [q] at e; cases e; exact .lst (SqL.of h) (Reps.dp r q)
  | _, _, _, .scr _, e => by cases e
  | _, _, _, .ins _ _ _, e => by cases e
theorem Reps.dp : ∀ {vs : List V} {ds : List D} {ps : List PyData}, Reps x F vs ds → pdAll ds = some ps → DpAll x.K F vs ps
  | _, _, _, .nil, e => by cases e; exact .nil
  | _, _, ps, .cons (d := d) (ds := ds) r t, e => by
    unfold pdAll at e
    cases h : d.pd with
    | none => rw [h] at e; cases e
    | some p =>
      cases h2 : pdAll ds with
      | none => rw [h, h2] at e; cases e
      | some qs => rw [h, h2] at e; cases e; exact .cons (Rep.dp r h) (Reps.dp t h2)
end
end

/-! ### what is owned -/
/-- v stands for d; the objects at fp are its owner's alone -/
def Rp (x : Lx) (F H : Hp) : Ow → V → D → List Addr → Prop
  | .fz, v, d, fp => Rep x F v d ∧ fp = []
  | .l o, v, d, fp => ∃ (a : Addr) (vs : List V) (ds : List D) (fps : List (List Addr)), v = .ref a ∧ d = .lst ds ∧ H a = some (.lst vs) ∧ F a = none ∧ vs.length = ds.length ∧ fps.length = ds.length ∧
      (∀ (k : Nat) (w : V) (e : D) (g : List Addr), vs[k]? = some w → ds[k]? = some e → fps[k]? = some g → Rp x F H o w e g) ∧ fp = a :: fps.flatten ∧ fp.Nodup
  | .i, v, d, fp => ∃ (a dx : Addr) (c : Nat) (fvs : List (Str × V)) (fs : List (Nat × D)), v = .ref a ∧ d = .ins c fs ∧ H a = some (.ins (x.cA c) dx fvs) ∧ F a = none ∧
      fvs.map (·.1) = fs.map (fun p => x.an p.1) ∧ Reps x F (fvs.map (·.2)) (fs.map (·.2)) ∧ fp = [a]
/-- new things alone came, nothing went -/
structure Ext (F H F' H' : Hp) : Prop where
  f : Sub F F'
  h : Sub H H'
  fh : Sub F' H'
  new : ∀ a o, F' a = some o → F a = none → H a = none
section
variable {x : Lx} {F H F' H' F2 H2 : Hp}
theorem Ext.refl (s : Sub F H) : Ext F H F H := ⟨fun _ _ h => h, fun _ _ h => h, s, fun a o h n => by rw [h] at n; cases n⟩
theorem Ext.trans (a : Ext F H F' H') (b : Ext F' H' F2 H2) : Ext F H F2 H2 := ⟨a.f.trans b.f, a.h.trans b.h, b.fh, fun p o h n => by
  cases q : F' p with
  | some u => exact a.new p u q n
  | none =>
    have z := b.new p o h q
    cases r : H p with
    | none => rfl
    | some u => rw [a.h p u r] at z; cases z⟩
theorem Ext.nn {a : Addr} (e : Ext F H F' H') (n : F a = none) (h : H a ≠ none) : F' a = none := by
  cases q : F' a with
  | none => rfl
  | some o => exact absurd (e.new a o q n) h
/-- a new object, nobody's own -/
theorem Ext.alloc {p : Addr} {o : HO} (s : Sub F H) (n : H p = none) : Ext F H (upd F p o) (upd H p o) := by
  have nf : F p = none := by
    cases q : F p with
    | none => rfl
    | some u => rw [s p u q] at n; cases n
  refine ⟨fun a u h => ?_, fun a u h => ?_, fun a u h => ?_, fun a u h z => ?_⟩
  · rw [upd_ne (ne_of_none h nf)]; exact h
  · rw [upd_ne (ne_of_none h n)]; exact h
  · by_cases e : a = p
    · subst e; rw [upd_same] at h ⊢; exact h
    · rw [upd_ne e] at h ⊢; exact s a u h
  · by_cases e : a = p
    · subst e; exact n
    · rw [upd_ne e] at h; rw [h] at z; cases z
/-- a new object of one's own -/
theorem Ext.own {p : Addr} {o : HO} (s : Sub F H) (n : H p = none) : Ext F H F (upd H p o) :=
  ⟨fun _ _ h => h, fun a u h => by rw [upd_ne (ne_of_none h n)]; exact h, fun a u h => by
    have := s a u h
    rw [upd_ne (ne_of_none this n)]; exact this, fun a u h z => by rw [h] at z; cases z⟩
theorem Rp.there : ∀ {o : Ow} {v : V} {d : D} {fp : List Addr}, Rp x F H o v d fp → ∀ a ∈ fp, H a ≠ none ∧ F a = none
  | .fz, _, _, _, h => by
    obtain ⟨_, rfl⟩ := h
    intro a ha
    cases ha
  | .i, _, _, _, h => by
    obtain ⟨a, dx, c, fvs, fs, rfl, rfl, e, n, _, _, rfl⟩ := h
    intro b hb
    have : b = a := by simpa using hb
    subst this
    exact ⟨(by rw [e]; exact fun z => nomatch z), n⟩
  | .l o, _, _, _, h => by
    obtain ⟨a, vs, ds, fps, rfl, rfl, e, n, l1, l2, hk, rfl, _⟩ := h
    intro b hb
    rcases List.mem_cons.mp hb with rfl | hb
    · exact ⟨(by rw [e]; exact fun z => nomatch z), n⟩
    · obtain ⟨g, hg, hbg⟩ := List.mem_flatten.mp hb
      obtain ⟨k, hk1, hk2⟩ := List.mem_iff_getElem.mp hg
      have h1 : k < vs.length := by omega
      have h2 : k < ds.length := by omega
      exact Rp.there (hk k vs[k] ds[k] g (by simp [h1]) (by simp [h2]) (by simp [hk1, hk2])) b hbg
theorem Rp.ext (e : Ext F H F' H') : ∀ {o : Ow} {v : V} {d : D} {fp : List Addr}, Rp x F H o v d fp → Rp x F' H' o v d fp
  | .fz, _, _, _, h => ⟨h.1.mono e.f, h.2⟩
  | .i, _, _, _, h => by
    obtain ⟨a, dx, c, fvs, fs, rfl, rfl, q, n, m, r, rfl⟩ := h
    exact ⟨a, dx, c, fvs, fs, rfl, rfl, e.h _ _ q, e.nn n (by rw [q]; exact fun z => by cases z), m, r.mono e.f, rfl⟩
  | .l o, _, _, _, h => by
    obtain ⟨a, vs, ds, fps, rfl, rfl, q, n, l1, l2, hk, rfl, nd⟩ := h
    exact ⟨a, vs, ds, fps, rfl, rfl, e.h _ _ q, e.nn n (by rw [q]; exact fun z => by cases z), l1, l2, fun k w d' g a1 a2 a3 => Rp.ext e (hk k w d' g a1 a2 a3), rfl, nd⟩
/-- the objects at fp become nobody's own -/
def frz (F H : Hp) (fp : List Addr) : Hp := fun a => if a ∈ fp then H a else F a
theorem frz_sub (s : Sub F H) (fp : List Addr) : Sub (frz F H fp) H := fun a o h => by
  unfold frz at h
  split at h
  · exact h
  · exact s a o h
theorem sub_frz (s : Sub F H) (fp : List Addr) : Sub F (frz F H fp) := fun a o h => by
  unfold frz
  split
  · exact s a o h
  · exact h
theorem frz_in {fp : List Addr} {a : Addr} (h : a ∈ fp) : frz F H fp a = H a := if_pos h
theorem frz_out {fp : List Addr} {a : Addr} (h : a ∉ fp) : frz F H fp a = F a := if_neg h
theorem frz_mono {fp fq : List Addr} (s : Sub F H) (h : ∀ a ∈ fp, a ∈ fq) : Sub (frz F H fp) (frz F H fq) := fun a o q => by
  by_cases z : a ∈ fp
  · rw [frz_in z] at q; rw [frz_in (h a z)]; exact q
  · rw [frz_out z] at q; exact sub_frz s fq a o q
/-- forgotten ownership -/
theorem Rp.rep (s : Sub F H) : ∀ {o : Ow} {v : V} {d : D} {fp : List Addr}, Rp x F H o v d fp → Rep x (frz F H fp) v d
  | .fz, _, _, _, h => h.1.mono (sub_frz s _)
  | .i, _, _, _, h => by
    obtain ⟨a, dx, c, fvs, fs, rfl, rfl, q, n, m, r, rfl⟩ := h
    exact .ins (by rw [frz_in (by simp)]; exact q) m (r.mono (sub_frz s _))
  | .l o, _, _, _, h => by
    obtain ⟨a, vs, ds, fps, rfl, rfl, q, n, l1, l2, hk, rfl, nd⟩ := h
    refine .lst (by rw [frz_in (by simp)]; exact q) ?_
    have all : ∀ (vs : List V) (ds : List D) (fs : List (List Addr)), vs.length = ds.length → fs.length = ds.length → (∀ g ∈ fs, ∀ b ∈ g, b ∈ a :: fps.flatten) →
        (∀ (k : Nat) (w : V) (e : D) (g : List Addr), vs[k]? = some w → ds[k]? = some e → fs[k]? = some g → Rp x F H o w e g) → Reps x (frz F H (a :: fps.flatten)) vs ds := by
      intro vs
      induction vs with
      | nil =>
        intro ds fs e1 e2 _ _
        cases ds with
        | nil => exact .nil
        | cons d ds => simp at e1
      | cons v vs ih =>
        intro ds fs e1 e2 hs hr
        cases ds with
        | nil => simp at e1
        | cons d ds =>
          cases fs with
          | nil => simp at e2
          | cons g fs =>
            refine .cons ?_ (ih ds fs (by simpa using e1) (by simpa using e2) (fun g' hg' => hs g' (List.mem_cons_of_mem _ hg')) fun k w e g' a1 a2 a3 => hr (k + 1) w e g' (by simpa using a1) (by simpa using a2) (by simpa using a3))
            exact (Rp.rep s (hr 0 v d g rfl rfl rfl)).mono (frz_mono s (hs g List.mem_cons_self))
    refine all vs ds fps l1 l2 (fun g hg b hb => List.mem_cons_of_mem _ (List.mem_flatten.mpr ⟨g, hg, hb⟩)) hk
theorem Ext.frz {fp : List Addr} (e : Ext F H F' H') (h : ∀ a ∈ fp, H a = none) : Ext F H (frz F' H' fp) H' :=
  ⟨e.f.trans (sub_frz e.fh _), e.h, frz_sub e.fh _, fun a o q n => by
    by_cases z : a ∈ fp
    · exact h a z
    · rw [frz_out z] at q; exact e.new a o q n⟩
/-- a thing is read, whoever owns it -/
theorem Rp.hrep (s : Sub F H) {o : Ow} {v : V} {d : D} {fp : List Addr} (h : Rp x F H o v d fp) : Rep x H v d := (h.rep s).mono (frz_sub s _)
/-- a list, its items nobody's own -/
theorem Rp.flatL (s : Sub F H) {o : Ow} {v : V} {ds : List D} {fp : List Addr} (h : Rp x F H o v (.lst ds) fp) (f : o.flat = true) : ∃ a vs, v = .ref a ∧ H a = some (.lst vs) ∧ Reps x F vs ds := by
  cases o with
  | fz =>
    obtain ⟨h, _⟩ := h
    cases h with
    | lst q r => exact ⟨_, _, rfl, s _ _ q, r⟩
  | i => obtain ⟨_, _, _, _, _, _, e, _⟩ := h; cases e
  | l o =>
    cases o with
    | fz =>
      obtain ⟨a, vs, ds', fps, rfl, e, q, n, l1, l2, hk, _, _⟩ := h
      cases e
      refine ⟨a, vs, rfl, q, ?_⟩
      have all : ∀ (vs : List V) (ds : List D), vs.length = ds.length → (∀ (k : Nat) (w : V) (e : D), vs[k]? = some w → ds[k]? = some e → Rep x F w e) → Reps x F vs ds := by
        intro vs
        induction vs with
        | nil =>
          intro ds e1 _
          cases ds with
          | nil => exact .nil
          | cons d ds => simp at e1
        | cons v vs ih =>
          intro ds e1 hr
          cases ds with
          | nil => simp at e1
          | cons d ds => exact .cons (hr 0 v d rfl rfl) (ih ds (by simpa using e1) fun k w e a1 a2 => hr (k + 1) w e (by simpa using a1) (by simpa using a2))
      refine all vs ds l1 fun k w e a1 a2 => ?_
      have hlt : k < fps.length := by
        have := (List.getElem?_eq_some_iff.mp a2).1
        omega
      exact (hk k w e fps[k] a1 a2 (by simp [hlt])).1
    | _ => cases f
/-- a list of one's own or not: where it stands -/
theorem Rp.atL (s : Sub F H) {o : Ow} {v : V} {ds : List D} {fp : List Addr} (h : Rp x F H o v (.lst ds) fp) : ∃ a vs, v = .ref a ∧ H a = some (.lst vs) ∧ Reps x H vs ds := by
  have r := h.hrep s
  cases r with
  | lst q r => exact ⟨_, _, rfl, q, r⟩
theorem Rp.other (s : Sub F H) {o : Ow} {v : V} {d : D} {fp : List Addr} (h : Rp x F H o v d fp) (hd : ∀ ds, d ≠ .lst ds) (hi : ∀ c fs, d ≠ .ins c fs) : Rep x F v d := by
  cases o with
  | fz => exact h.1
  | i => obtain ⟨_, _, _, _, _, _, e, _⟩ := h; exact absurd e (hi _ _)
  | l o => obtain ⟨_, _, _, _, _, e, _⟩ := h; exact absurd e (hd _)
end
section
variable {x : Lx} {F H F' H' : Hp}
/-- items that stand apart from what is given up are as they were -/
theorem Rp.frz (s : Sub F H) {fq : List Addr} : ∀ {o : Ow} {v : V} {d : D} {fp : List Addr}, Rp x F H o v d fp → (∀ a ∈ fp, a ∉ fq) → Rp x (frz F H fq) H o v d fp
  | .fz, _, _, _, h, _ => ⟨h.1.mono (sub_frz s _), h.2⟩
  | .i, _, _, _, h, n => by
    obtain ⟨a, dx, c, fvs, fs, rfl, rfl, q, nf, m, r, rfl⟩ := h
    exact ⟨a, dx, c, fvs, fs, rfl, rfl, q, by rw [frz_out (n a (by simp))]; exact nf, m, r.mono (sub_frz s _), rfl⟩
  | .l o, _, _, _, h, n => by
    obtain ⟨a, vs, ds, fps, rfl, rfl, q, nf, l1, l2, hk, rfl, nd⟩ := h
    refine ⟨a, vs, ds, fps, rfl, rfl, q, by rw [frz_out (n a (by simp))]; exact nf, l1, l2, fun k w e g a1 a2 a3 => Rp.frz s (hk k w e g a1 a2 a3) fun b hb => n b ?_, rfl, nd⟩
    exact List.mem_cons_of_mem _ (List.mem_flatten.mpr ⟨g, List.mem_of_getElem? a3, hb⟩)
theorem frz_frz (s : Sub F H) (fp fq : List Addr) : PV.frz (PV.frz F H fp) H fq = PV.frz F H (fq ++ fp) := by
  funext a
  unfold PV.frz
  by_cases h : a ∈ fq
  · simp [h]
  · by_cases h2 : a ∈ fp <;> simp [h, h2]
theorem frz_nil : PV.frz F H [] = F := by
  funext a
  simp [PV.frz]
/-- several items -/
structure Rps (x : Lx) (F H : Hp) (os : List Ow) (vs : List V) (ds : List D) (fps : List (List Addr)) : Prop where
  lv : vs.length = ds.length
  lo : os.length = ds.length
  lf : fps.length = ds.length
  at_ : ∀ (k : Nat) (o : Ow) (v : V) (d : D) (g : List Addr), os[k]? = some o → vs[k]? = some v → ds[k]? = some d → fps[k]? = some g → Rp x F H o v d g
theorem Rps.nil : Rps x F H [] [] [] [] := ⟨rfl, rfl, rfl, fun k o v d g h => by simp at h⟩
theorem Rps.cons {o : Ow} {v : V} {d : D} {g : List Addr} {os : List Ow} {vs : List V} {ds : List D} {fps : List (List Addr)} (r : Rp x F H o v d g) (t : Rps x F H os vs ds fps) : Rps x F H (o :: os) (v :: vs) (d :: ds) (g :: fps) :=
  ⟨congrArg (· + 1) t.lv, congrArg (· + 1) t.lo, congrArg (· + 1) t.lf, fun k p w e h a1 a2 a3 a4 => by
    cases k with
    | zero =>
      simp at a1 a2 a3 a4
      subst a1 a2 a3 a4
      exact r
    | succ k => exact t.at_ k p w e h (by simpa using a1) (by simpa using a2) (by simpa using a3) (by simpa using a4)⟩
theorem Rps.head {o : Ow} {v : V} {d : D} {g : List Addr} {os : List Ow} {vs : List V} {ds : List D} {fps : List (List Addr)} (h : Rps x F H (o :: os) (v :: vs) (d :: ds) (g :: fps)) : Rp x F H o v d g := h.at_ 0 o v d g rfl rfl rfl rfl
theorem Rps.tail {o : Ow} {v : V} {d : D} {g : List Addr} {os : List Ow} {vs : List V} {ds : List D} {fps : List (List Addr)} (h : Rps x F H (o :: os) (v :: vs) (d :: ds) (g :: fps)) : Rps x F H os vs ds fps :=
  ⟨by simpa using h.lv, by simpa using h.lo, by simpa using h.lf, fun k p w e q a1 a2 a3 a4 => h.at_ (k + 1) p w e q (by simpa using a1) (by simpa using a2) (by simpa using a3) (by simpa using a4)⟩
theorem Rps.ext {os : List Ow} {vs : List V} {ds : List D} {fps : List (List Addr)} (h : Rps x F H os vs ds fps) (e : Ext F H F' H') : Rps x F' H' os vs ds fps :=
  ⟨h.lv, h.lo, h.lf, fun k o v d g a1 a2 a3 a4 => (h.at_ k o v d g a1 a2 a3 a4).ext e⟩
theorem Rps.ind {P : List Ow → List V → List D → List (List Addr) → Prop} (h0 : P [] [] [] []) (hs : ∀ o v d g os vs ds fps, Rps x F H (o :: os) (v :: vs) (d :: ds) (g :: fps) → P os vs ds fps → P (o :: os) (v :: vs) (d :: ds) (g :: fps)) :
    ∀ {os : List Ow} {vs : List V} {ds : List D} {fps : List (List Addr)}, Rps x F H os vs ds fps → P os vs ds fps
  | [], [], [], [], _ => h0
  | o :: os, v :: vs, d :: ds, g :: fps, h => hs o v d g os vs ds fps h (Rps.ind h0 hs h.tail)
  | [], [], [], _ :: _, h => nomatch h.lf
  | [], [], _ :: _, _, h => nomatch h.lv
  | [], _ :: _, [], _, h => nomatch h.lv
  | [], _ :: _, _ :: _, _, h => nomatch h.lo
  | _ :: _, [], [], _, h => nomatch h.lo
  | _ :: _, [], _ :: _, _, h => nomatch h.lv
  | _ :: _, _ :: _, [], _, h => nomatch h.lv
  | _ :: _, _ :: _, _ :: _, [], h => nomatch h.lf
/-- all given up -/
theorem Rps.reps (s : Sub F H) {fq : List Addr} {os : List Ow} {vs : List V} {ds : List D} {fps : List (List Addr)} (h : Rps x F H os vs ds fps) : (∀ a ∈ fps.flatten, a ∈ fq) → Reps x (PV.frz F H fq) vs ds := by
  refine Rps.ind (P := fun os vs ds fps => (∀ a ∈ fps.flatten, a ∈ fq) → Reps x (PV.frz F H fq) vs ds) (fun _ => .nil) (fun o v d g os vs ds fps h ih hs => ?_) h
  refine .cons ((h.head.rep s).mono (frz_mono s fun a ha => hs a (by simp [ha]))) (ih fun a ha => hs a ?_)
  rw [List.flatten_cons]
  exact List.mem_append_right _ ha
theorem Rps.hreps (s : Sub F H) {os : List Ow} {vs : List V} {ds : List D} {fps : List (List Addr)} (h : Rps x F H os vs ds fps) : Reps x H vs ds := by
  refine Rps.ind (P := fun os vs ds fps => Reps x H vs ds) .nil (fun o v d g os vs ds fps h ih => ?_) h
  exact .cons (h.head.hrep s) ih
theorem sub_flat {ps qs : List (List Addr)} (hl : ps.length = qs.length) (h : ∀ (k : Nat) (p q : List Addr), ps[k]? = some p → qs[k]? = some q → p.Sublist q) : ps.flatten.Sublist qs.flatten := by
  induction ps generalizing qs with
  | nil =>
    cases qs with
    | nil => exact List.Sublist.refl _
    | cons _ _ => simp at hl
  | cons p ps ih =>
    cases qs with
    | nil => simp at hl
    | cons q qs =>
      rw [List.flatten_cons, List.flatten_cons]
      exact List.Sublist.append (h 0 p q rfl rfl) (ih (by simpa using hl) fun k p' q' a b => h (k + 1) p' q' (by simpa using a) (by simpa using b))
mutual
/-- less is owned: the rest is given up -/
theorem Rp.lower (s : Sub F H) : ∀ {o' o : Ow} {v : V} {d : D} {fp : List Addr}, Rp x F H o v d fp → o'.le o = true → fp.Nodup → ∃ fq fp' : List Addr, (∀ a ∈ fq, a ∈ fp) ∧ fp'.Sublist fp ∧ (∀ a ∈ fp', a ∉ fq) ∧ Rp x (PV.frz F H fq) H o' v d fp'
  | .fz, o, v, d, fp, h, _, _ => ⟨fp, [], (fun a h => h), List.nil_sublist _, (fun a h => nomatch h), h.rep s, rfl⟩
  | .i, .i, v, d, fp, h, _, _ => ⟨[], fp, (fun a h => nomatch h), List.Sublist.refl _, (fun a _ h => nomatch h), by rw [frz_nil]; exact h⟩
  | .l o', .l o, v, d, fp, h, le, nd => by
    obtain ⟨a, vs, ds, fps, rfl, rfl, q, nf, l1, l2, hk, rfl, _⟩ := h
    have nd' := List.nodup_cons.mp nd
    have R : Rps x F H (ds.map fun _ => o) vs ds fps := ⟨l1, by simp, l2, fun k p w e g a1 a2 a3 a4 => by
      have : p = o := by
        rw [List.getElem?_map, a3] at a1
        exact (Option.some.inj a1).symm
      subst this
      exact hk k w e g a2 a3 a4⟩
    obtain ⟨fq, fps', h1, h2, h3, h4, h5⟩ := Rps.lower s o' R (fun p hp => by
      obtain ⟨_, _, rfl⟩ := List.mem_map.mp hp
      exact le) nd'.2
    refine ⟨fq, a :: fps'.flatten, fun b hb => List.mem_cons_of_mem _ (h1 b hb), List.Sublist.cons_cons a h3, fun b hb => ?_, a, vs, ds, fps', rfl, rfl, q, ?_, l1, h5.lf, fun k w e g a1 a2 a3 => ?_, rfl, ?_⟩
    · rcases List.mem_cons.mp hb with rfl | hb
      · exact fun z => nd'.1 (h1 _ z)
      · exact h4 b hb
    · rw [frz_out fun z => nd'.1 (h1 _ z)]; exact nf
    · refine h5.at_ k o' w e g ?_ a1 a2 a3
      rw [List.getElem?_map, a2]
      rfl
    · exact (List.Sublist.cons_cons a h3).nodup nd
  | .i, .fz, _, _, _, _, le, _ => nomatch le
  | .i, .l _, _, _, _, _, le, _ => nomatch le
  | .l _, .fz, _, _, _, _, le, _ => nomatch le
  | .l _, .i, _, _, _, _, le, _ => nomatch le
theorem Rps.lower (s : Sub F H) (o' : Ow) : ∀ {os : List Ow} {vs : List V} {ds : List D} {fps : List (List Addr)}, Rps x F H os vs ds fps → (∀ p ∈ os, o'.le p = true) → fps.flatten.Nodup →
    ∃ (fq : List Addr) (fps' : List (List Addr)), (∀ a ∈ fq, a ∈ fps.flatten) ∧ fps'.length = fps.length ∧ fps'.flatten.Sublist fps.flatten ∧ (∀ a ∈ fps'.flatten, a ∉ fq) ∧ Rps x (PV.frz F H fq) H (ds.map fun _ => o') vs ds fps'
  | [], [], [], [], _, _, _ => ⟨[], [], (fun a h => nomatch h), rfl, List.Sublist.refl _, (fun a h => nomatch h), .nil⟩
  | o :: os, v :: vs, d :: ds, g :: fps, h, le, nd => by
    rw [List.flatten_cons] at nd
    obtain ⟨nd1, nd2, nd3⟩ := List.nodup_append.mp nd
    obtain ⟨fq1, fp1, a1, a2, a3, a4⟩ := Rp.lower (o' := o') s h.head (le o List.mem_cons_self) nd1
    obtain ⟨fq2, fps2, b1, b2, b3, b4, b5⟩ := Rps.lower s o' h.tail (fun p hp => le p (List.mem_cons_of_mem _ hp)) nd2
    refine ⟨fq2 ++ fq1, fp1 :: fps2, fun a ha => ?_, by simp [b2], ?_, fun a ha => ?_, ?_⟩
    · rw [List.flatten_cons]
      rcases List.mem_append.mp ha with ha | ha
      · exact List.mem_append_right _ (b1 a ha)
      · exact List.mem_append_left _ (a1 a ha)
    · rw [List.flatten_cons, List.flatten_cons]
      exact List.Sublist.append a2 b3
    · rw [List.flatten_cons] at ha
      rcases List.mem_append.mp ha with ha | ha
      · intro z
        rcases List.mem_append.mp z with z | z
        · exact nd3 a (a2.subset ha) a (b1 a z) rfl
        · exact a3 a ha z
      · intro z
        rcases List.mem_append.mp z with z | z
        · exact b4 a ha z
        · exact nd3 a (a1 a z) a (b3.subset ha) rfl
    · rw [List.map_cons]
      refine .cons ?_ ?_
      · rw [← frz_frz s]
        exact Rp.frz (frz_sub s _) a4 fun a ha z => nd3 a (a2.subset ha) a (b1 a z) rfl
      · have e : PV.frz F H (fq2 ++ fq1) = PV.frz (PV.frz F H fq2) H fq1 := by
          rw [frz_frz s]
          funext a
          unfold PV.frz
          by_cases h1 : a ∈ fq1 <;> by_cases h2 : a ∈ fq2 <;> simp [h1, h2]
        rw [e]
        refine ⟨b5.lv, b5.lo, b5.lf, fun k p w e g' c1 c2 c3 c4 => Rp.frz (frz_sub s _) (b5.at_ k p w e g' c1 c2 c3 c4) fun a ha z => ?_⟩
        have m : a ∈ fps2.flatten := List.mem_flatten.mpr ⟨g', List.mem_of_getElem? c4, ha⟩
        exact nd3 a (a1 a z) a (b3.subset m) rfl
  | [], [], [], _ :: _, h, _, _ => nomatch h.lf
  | [], [], _ :: _, _, h, _, _ => nomatch h.lv
  | [], _ :: _, [], _, h, _, _ => nomatch h.lv
  | [], _ :: _, _ :: _, _, h, _, _ => nomatch h.lo
  | _ :: _, [], [], _, h, _, _ => nomatch h.lo
  | _ :: _, [], _ :: _, _, h, _, _ => nomatch h.lv
  | _ :: _, _ :: _, [], _, h, _, _ => nomatch h.lv
  | _ :: _, _ :: _, _ :: _, [], h, _, _ => nomatch h.lf
end
theorem Rp.nd : ∀ {o : Ow} {v : V} {d : D} {fp : List Addr}, Rp x F H o v d fp → fp.Nodup
  | .fz, _, _, _, h => by rw [h.2]; exact List.nodup_nil
  | .i, _, _, _, h => by
    obtain ⟨a, _, _, _, _, _, _, _, _, _, _, rfl⟩ := h
    simp
  | .l _, _, _, _, h => by
    obtain ⟨_, _, _, _, _, _, _, _, _, _, _, _, nd⟩ := h
    exact nd
/-- an object that is none of its own is changed -/
theorem Rp.updH {p : Addr} {ob : HO} : ∀ {o : Ow} {v : V} {d : D} {fp : List Addr}, p ∉ fp → Rp x F H o v d fp → Rp x F (L2.upd H p ob) o v d fp
  | .fz, _, _, _, _, h => h
  | .i, _, _, _, n, h => by
    obtain ⟨a, dx, c, fvs, fs, rfl, rfl, q, nf, m, r, rfl⟩ := h
    exact ⟨a, dx, c, fvs, fs, rfl, rfl, by rw [upd_ne (fun z => n (by simp [z]))]; exact q, nf, m, r, rfl⟩
  | .l o, _, _, _, n, h => by
    obtain ⟨a, vs, ds, fps, rfl, rfl, q, nf, l1, l2, hk, rfl, nd⟩ := h
    refine ⟨a, vs, ds, fps, rfl, rfl, by rw [upd_ne (fun z => n (by simp [z]))]; exact q, nf, l1, l2, fun k w e g a1 a2 a3 => Rp.updH (fun z => n ?_) (hk k w e g a1 a2 a3), rfl, nd⟩
    exact List.mem_cons_of_mem _ (List.mem_flatten.mpr ⟨g, List.mem_of_getElem? a3, z⟩)
end
end PV
/-! PV, part c: what an expression's reading says. -/
namespace PV
open PySem PySem.Spec PyProof.Rows L2

/-! ### results -/
def Wp {α : Type} (r : R α) (P : α → Prop) (Z : Nat → List D → Prop) : Prop := match r with
  | .ok a => P a
  | .exc c as => Z c as
  | .bad => False
theorem Wp.bind {α β : Type} {r : R α} {f : α → R β} {P : β → Prop} {Z : Nat → List D → Prop} (h : Wp (r >>= f) P Z) : Wp r (fun a => Wp (f a) P Z) Z := by
  cases r <;> exact h
theorem Wp.mono {α : Type} {r : R α} {P P' : α → Prop} {Z Z' : Nat → List D → Prop} (h : Wp r P Z) (p : ∀ a, P a → P' a) (z : ∀ c as, Z c as → Z' c as) : Wp r P' Z' := by
  cases r with
  | ok a => exact p a h
  | exc c as => exact z c as h
  | bad => exact h
theorem Wp.of {α : Type} {o : Option α} {P : α → Prop} {Z : Nat → List D → Prop} (h : Wp (R.of o) P Z) : ∃ a, o = some a ∧ P a := by
  cases o with
  | none => exact False.elim h
  | some a => exact ⟨a, rfl, h⟩

/-! ### ownership, told by the text -/
def Es.isNil : Es → Bool
  | .nil => true
  | _ => false
/-- the written thing is a new list -/
def isL : E → Bool
  | .lst _ => true
  | .comp _ _ _ _ => true
  | .compI _ _ _ _ _ => true
  | .bi .list _ => true
  | .bi .sorted _ => true
  | .lstR _ => true
  | _ => false
def litOk : D → Bool := flatD
def setsO (ω : Om) : List Nat → Om
  | [] => ω
  | i :: is => (setsO ω is).set i .fz
section
variable (rt : Om)
mutual
def okE (b : Bool) (ω : Om) : E → Option Ow
  | .lit d => if litOk d then some .fz else none
  | .var i => if b then some (og ω i) else if og ω i = .fz then some .fz else none
  | .glob _ => some .fz
  | .bad => none
  | .neg a => do
    let _ ← okE true ω a
    some .fz
  | .not a => do
    let _ ← okE true ω a
    some .fz
  | .and a c => do
    let _ ← okE true ω a
    if (← okE false ω c) = .fz then some .fz else none
  | .or a c => do
    let _ ← okE true ω a
    if (← okE false ω c) = .fz then some .fz else none
  | .bin o a c => do
    let x ← okE true ω a
    let y ← okE true ω c
    if x.flat && y.flat then
      some (if (decide (o = .add) && (isL a || isL c)) || (decide (o = .mul) && isL a) then .l .fz else .fz) else none
  | .cmp _ a c => do
    let _ ← okE true ω a
    let _ ← okE true ω c
    some .fz
  | .chain _ _ a c e => do
    let _ ← okE true ω a
    let _ ← okE true ω c
    let _ ← okE true ω e
    some .fz
  | .isN a => do
    let _ ← okE true ω a
    some .fz
  | .isNN a => do
    let _ ← okE true ω a
    some .fz
  | .ife c a e => do
    let _ ← okE true ω c
    let x ← okE false ω a
    let y ← okE false ω e
    some (x.meet y)
  | .tup es => do
    let _ ← okEs ω es
    some .fz
  | .lst es => do
    let x ← okEs ω es
    some (.l (meets x))
  | .sub a i => do
    let x ← okE true ω a
    let _ ← okE true ω i
    match x with
    | .fz => some .fz
    | .i => none
    | .l o => if b then some o else if o = .fz then some .fz else none
  | .sl0 a => do
    if (← okE true ω a).flat then some .fz else none
  | .slL a l => do
    let _ ← okE true ω l
    if (← okE true ω a).flat then some .fz else none
  | .slH a h => do
    let _ ← okE true ω h
    if (← okE true ω a).flat then some .fz else none
  | .slB a l h => do
    let _ ← okE true ω l
    let _ ← okE true ω h
    if (← okE true ω a).flat then some .fz else none
  | .attr a _ => do
    match ← okE true ω a with
    | .l _ => none
    | _ => some .fz
  | .call f es => do
    let _ ← okEs ω es
    some (og rt f)
  | .mk _ es => do
    let _ ← okEs ω es
    some .fz
  | .mkK _ es ks => do
    let _ ← okEs ω es
    let _ ← okEs ω ks
    some .fz
  | .bi k es => do
    if (← okBs ω es) then some (match k with
      | .list => .l .fz
      | .sorted => .l .fz
      | _ => .fz) else none
  | .isi a _ => do
    let _ ← okE true ω a
    some .fz
  | .bm _ a es => do
    let _ ← okE true ω a
    if (← okBs ω es) then some .fz else none
  | .meth _ a es => do
    let _ ← okE false ω a
    let _ ← okEs ω es
    some .fz
  | .comp elt own t it => do
    if (← okIt true ω it) && t.ix.all (own.contains ·) && own.all (· < ω.length) then
      some (.l (← okE false (setsO ω own) elt)) else none
  | .compI elt own t it c => do
    if (← okIt true ω it) && t.ix.all (own.contains ·) && own.all (· < ω.length) then do
      let _ ← okE true (setsO ω own) c
      some (.l (← okE false (setsO ω own) elt)) else none
  | .tupR it => do
    if ← okIt true ω it then some .fz else none
  | .lstR it => do
    if ← okIt true ω it then some (.l .fz) else none
  | .fzl a => do
    let _ ← okE false ω a
    some .fz
/-- values handed on: the least that all own -/
def okEs (ω : Om) : Es → Option (List Ow)
  | .nil => some []
  | .cons e es => do
    let x ← okE false ω e
    let y ← okEs ω es
    some (x :: y)
/-- values that are read alone -/
def okBs (ω : Om) : Es → Option Bool
  | .nil => some true
  | .cons e es => do
    let x ← okE true ω e
    let y ← okBs ω es
    some (x.flat && y)
def okIt (b : Bool) (ω : Om) : It → Option Bool
  | .seq a => do some ((← okE b ω a).flat)
  | .rng1 a => do
    let _ ← okE true ω a
    some true
  | .rng2 a c => do
    let _ ← okE true ω a
    let _ ← okE true ω c
    some true
  | .rev a => do some ((← okE b ω a).flat)
  | .enum a => do some ((← okE b ω a).flat)
  | .zip a c => do
    let x ← okE b ω a
    let y ← okE b ω c
    some (x.flat && y.flat)
end
end

/-! ### slots -/
structure SR (x : Lx) (ρ : En) (ω : Om) (σ : L2.St) (F H : Hp) (φ : Nat → List Addr) : Prop where
  fh : Sub F H
  len : σ.length = ρ.length
  lo : ω.length = ρ.length
  at_ : ∀ i d, ρ[i]? = some (some d) → ∃ v, σ[i]? = some (some v) ∧ Rp x F H (og ω i) v d (φ i)
  apart : ∀ i j a, a ∈ φ i → a ∈ φ j → i = j
  no : ∀ i, (∀ d, ρ[i]? ≠ some (some d)) → φ i = []
  sf : ∀ v, x.sv = some v → og ω 0 = .i → σ[0]? = some (some v)
theorem SR.ext {x : Lx} {ρ : En} {ω : Om} {σ : L2.St} {F H F' H' : Hp} {φ : Nat → List Addr} (s : SR x ρ ω σ F H φ) (e : Ext F H F' H') : SR x ρ ω σ F' H' φ :=
  ⟨e.fh, s.len, s.lo, fun i d h => let ⟨v, a, r⟩ := s.at_ i d h; ⟨v, a, r.ext e⟩, s.apart, s.no, s.sf⟩

/-- an exception's payload: its own dict, where the class has fields -/
def XRep (x : Lx) (T : Tab) (F H : Hp) (c : Nat) (as : List D) (dd : Option Addr) : Prop :=
  match (T.cls[c]?).bind (·.exf) with
  | some [] => as = []
  | some fs => ∃ (d : Addr) (fvs : List (Str × V)) (vs : List V), dd = some d ∧ H d = some (.xd fvs) ∧ F d = none ∧ as.length = fs.length ∧ Reps x F vs as ∧ ∀ (k f : Nat) (v : V), fs[k]? = some f → vs[k]? = some v → fvs.lookup (x.an f) = some v
  | none => False
/-- what is wished of an exception that leaves an expression -/
abbrev Zx := L2.St → Nat → List D → Hp → Hp → Prop
section
variable (x : Lx) (T : Tab) (rt : Om) (call : Cal → List D → R D) (Z : Zx)
/-- an expression's reading: b: it is only read here -/
def tV (b : Bool) (e : E) : TE := fun σ H Q => ∃ (ρ : En) (ω : Om) (F : Hp) (φ : Nat → List Addr) (o : Ow), SR x ρ ω σ F H φ ∧ okE rt b ω e = some o ∧
  Wp (evE T call ρ e) (fun d => ∀ v F' H' fp, Ext F H F' H' → Rp x F' H' o v d fp → (b = false → ∀ a ∈ fp, H a = none) → Q v H') (fun c as => ∀ F' H', Ext F H F' H' → Z σ c as F' H')
def tT (e : E) : TT := fun σ H Q => ∃ (ρ : En) (ω : Om) (F : Hp) (φ : Nat → List Addr) (o : Ow), SR x ρ ω σ F H φ ∧ okE rt true ω e = some o ∧
  Wp (evE T call ρ e) (fun d => ∀ F' H', Ext F H F' H' → ∃ k, d = .bl k ∧ Q k H') (fun c as => ∀ F' H', Ext F H F' H' → Z σ c as F' H')
/-- arguments, handed on: nobody's own behind -/
def tVs (es : Es) : TA := fun σ H Q => ∃ (ρ : En) (ω : Om) (F : Hp) (φ : Nat → List Addr) (os : List Ow), SR x ρ ω σ F H φ ∧ okEs rt ω es = some os ∧
  Wp (evEs T call ρ es) (fun ds => ∀ (vs : List V) (F' H' : Hp) (fps : List (List Addr)), Ext F H F' H' → Rps x F' H' os vs ds fps → (∀ a ∈ fps.flatten, H a = none) → fps.flatten.Nodup → Q vs H') (fun c as => ∀ F' H', Ext F H F' H' → Z σ c as F' H')
/-- arguments that are read alone -/
def tBs (es : Es) : TA := fun σ H Q => ∃ (ρ : En) (ω : Om) (F : Hp) (φ : Nat → List Addr), SR x ρ ω σ F H φ ∧ okBs rt ω es = some true ∧
  Wp (evEs T call ρ es) (fun ds => ∀ (vs : List V) (F' H' : Hp) (os : List Ow) (fps : List (List Addr)), Ext F H F' H' → Rps x F' H' os vs ds fps → (∀ o ∈ os, Ow.flat o = true) → Q vs H') (fun c as => ∀ F' H', Ext F H F' H' → Z σ c as F' H')
end
theorem PE.imp {X : Cx} {e : Expr} {t t' : TE} (h : PE X e t) (k : ∀ σ H Q, t' σ H Q → t σ H Q) : PE X e t' := ⟨fun pins s σ H Q I q => h.run pins s σ H Q I (k σ H Q q)⟩
theorem PT.imp {X : Cx} {e : Expr} {t t' : TT} (h : PT X e t) (k : ∀ σ H Q, t' σ H Q → t σ H Q) : PT X e t' := ⟨fun pins s σ H Q I q => h.run pins s σ H Q I (k σ H Q q)⟩
theorem PA.imp {X : Cx} {e : List Expr} {t t' : TA} (h : PA X e t) (k : ∀ σ H Q, t' σ H Q → t σ H Q) : PA X e t' := ⟨fun pos pins s σ H Q I q => h.run pos pins s σ H Q I (k σ H Q q)⟩
theorem PS.imp {X : Cx} {e : Stmt} {t t' : TS} (h : PS X e t) (k : ∀ D σ H, t' D σ H → t D σ H) : PS X e t' := ⟨fun pins s σ H Q I q => h.run pins s σ H Q I (k Q σ H q)⟩
theorem PSs.imp {X : Cx} {e : List Stmt} {t t' : TS} (h : PSs X e t) (k : ∀ D σ H, t' D σ H → t D σ H) : PSs X e t' := ⟨fun pins s σ H Q I q => h.run pins s σ H Q I (k Q σ H q)⟩
theorem PE.or {X : Cx} {e : Expr} {t t' : TE} (h : PE X e t) (h' : PE X e t') : PE X e (fun σ H Q => t σ H Q ∨ t' σ H Q) := ⟨fun pins s σ H Q I q => q.elim (h.run pins s σ H Q I) (h'.run pins s σ H Q I)⟩
theorem PT.or {X : Cx} {e : Expr} {t t' : TT} (h : PT X e t) (h' : PT X e t') : PT X e (fun σ H Q => t σ H Q ∨ t' σ H Q) := ⟨fun pins s σ H Q I q => q.elim (h.run pins s σ H Q I) (h'.run pins s σ H Q I)⟩

section
variable {x : Lx} {T : Tab} {rt : Om} {call : Cal → List D → R D} {Z : Zx} {ρ : En} {ω : Om} {σ : L2.St} {F H : Hp} {φ : Nat → List Addr}
/-- one part, read -/
theorem one {b : Bool} {a : E} {o : Ow} {β : Type} {f : D → R β} {P : β → Prop} {Rr : V → Hp → Prop} (s : SR x ρ ω σ F H φ) (ok : okE rt b ω a = some o)
    (w : Wp (evE T call ρ a >>= f) P (fun c as => ∀ F' H', Ext F H F' H' → Z σ c as F' H'))
    (k : ∀ d v F' H' fp, Ext F H F' H' → Rp x F' H' o v d fp → (b = false → ∀ p ∈ fp, H p = none) → Wp (f d) P (fun c as => ∀ F2 H2, Ext F H F2 H2 → Z σ c as F2 H2) → Rr v H') : tV x T rt call Z b a σ H Rr :=
  ⟨ρ, ω, F, φ, o, s, ok, w.bind.mono (fun d hd v F' H' fp e r n => k d v F' H' fp e r n hd) fun _ _ z => z⟩
/-- two parts, read -/
theorem two {a c : E} {o o' : Ow} {β : Type} {f : D → D → R β} {P : β → Prop} {Rr : V → V → Hp → Prop} (s : SR x ρ ω σ F H φ) (ok : okE rt true ω a = some o) (ok' : okE rt true ω c = some o')
    (w : Wp (evE T call ρ a >>= fun d => evE T call ρ c >>= fun e => f d e) P (fun c as => ∀ F' H', Ext F H F' H' → Z σ c as F' H'))
    (k : ∀ d e v u F' H' fp gp, Ext F H F' H' → Rp x F' H' o v d fp → Rp x F' H' o' u e gp → Wp (f d e) P (fun c as => ∀ F2 H2, Ext F H F2 H2 → Z σ c as F2 H2) → Rr v u H') :
    tV x T rt call Z true a σ H fun v H1 => tV x T rt call Z true c σ H1 fun u H2 => Rr v u H2 := by
  refine one s ok w fun d v F1 H1 fp e1 r1 _ w1 => ?_
  refine ⟨ρ, ω, F1, φ, o', s.ext e1, ok', w1.bind.mono (fun e he u F2 H2 gp e2 r2 _ => k d e v u F2 H2 fp gp (e1.trans e2) (r1.ext e2) r2 he) fun _ _ z F2 H2 e2 => z F2 H2 (e1.trans e2)⟩
/-- handed on is read, too -/
theorem tV_up {e : E} (h : ∀ ω, okE rt true ω e = okE rt false ω e) (σ : L2.St) (H : Hp) (Q : VK) (q : tV x T rt call Z true e σ H Q) : tV x T rt call Z false e σ H Q := by
  obtain ⟨ρ, ω, F, φ, o, s, ok, w⟩ := q
  exact ⟨ρ, ω, F, φ, o, s, by rw [← h]; exact ok, w.mono (fun d hd v F' H' fp e r _ => hd v F' H' fp e r fun z => nomatch z) fun _ _ z => z⟩
def notIf : E → Bool
  | .ife _ _ _ => false
  | _ => true
/-- an expression: handed on, read, a test -/
structure SE (x : Lx) (T : Tab) (rt : Om) (call : Cal → List D → R D) (Z : Zx) (X : Cx) (e : Expr) (e' : E) : Prop where
  v : PE X e (tV x T rt call Z false e')
  b : PE X e (tV x T rt call Z true e')
  t : notIf e' = true → PT X e (tT x T rt call Z e')
/-- a test by the value -/
theorem tT_val {e : E} (σ : L2.St) (H : Hp) (Q : Bool → Hp → Prop) (q : tT x T rt call Z e σ H Q) : tTest (tV x T rt call Z true e) σ H Q := by
  obtain ⟨ρ, ω, F, φ, o, s, ok, w⟩ := q
  refine ⟨ρ, ω, F, φ, o, s, ok, w.mono (fun d hd v F' H' fp e r _ => ?_) fun _ _ z => z⟩
  obtain ⟨k, rfl, q⟩ := hd F' H' e
  cases o with
  | fz =>
    obtain ⟨r, _⟩ := r
    cases r
    exact ⟨k, rfl, q⟩
  | i => obtain ⟨_, _, _, _, _, _, e, _⟩ := r; cases e
  | l o => obtain ⟨_, _, _, _, _, e, _⟩ := r; cases e
theorem SE.of_v {X : Cx} {e : Expr} {e' : E} (h : PE X e (tV x T rt call Z false e')) (ho : ∀ ω, okE rt true ω e' = okE rt false ω e')
    (he : ∀ whole, isTrue e X.env whole = (do let v ← whole; standAt e.pos; holding [v] (truthy v))) : SE x T rt call Z X e e' :=
  ⟨h, PE.imp h (tV_up ho), fun _ => PT.imp (pt_val (PE.imp h (tV_up ho)) he) tT_val⟩
theorem SE.of_vt {X : Cx} {e : Expr} {e' : E} (h : PE X e (tV x T rt call Z false e')) (ho : ∀ ω, okE rt true ω e' = okE rt false ω e')
    (ht : PT X e (tT x T rt call Z e')) : SE x T rt call Z X e e' :=
  ⟨h, PE.imp h (tV_up ho), fun _ => ht⟩
end
end PV
/-! PV, part d: the rules, construct by construct. -/
namespace PV
open PySem PySem.Spec PyProof.Rows L2
section
variable {x : Lx} {T : Tab} {rt : Om} {call : Cal → List D → R D} {Z : Zx} {X : Cx} {pos : Pos}
theorem Rp.rep0 {F H : Hp} {v : V} {d : D} (h : Rep x F v d) : Rp x F H .fz v d [] := ⟨h, rfl⟩
theorem Rp.bl_of {F H : Hp} {o : Ow} {v : V} {k : Bool} {fp : List Addr} (h : Rp x F H o v (.bl k) fp) : v = .bl k := by
  cases o with
  | fz => obtain ⟨h, _⟩ := h; cases h; rfl
  | i => obtain ⟨_, _, _, _, _, _, e, _⟩ := h; cases e
  | l o => obtain ⟨_, _, _, _, _, e, _⟩ := h; cases e
theorem Rp.int_of {F H : Hp} {o : Ow} {v : V} {k : Int} {fp : List Addr} (h : Rp x F H o v (.int k) fp) : v = .int k := by
  cases o with
  | fz => obtain ⟨h, _⟩ := h; cases h; rfl
  | i => obtain ⟨_, _, _, _, _, _, e, _⟩ := h; cases e
  | l o => obtain ⟨_, _, _, _, _, e, _⟩ := h; cases e
theorem Rp.str_of {F H : Hp} {o : Ow} {v : V} {k : Str} {fp : List Addr} (h : Rp x F H o v (.str k) fp) : v = .str k := by
  cases o with
  | fz => obtain ⟨h, _⟩ := h; cases h; rfl
  | i => obtain ⟨_, _, _, _, _, _, e, _⟩ := h; cases e
  | l o => obtain ⟨_, _, _, _, _, e, _⟩ := h; cases e
theorem Rp.tup_of {F H : Hp} {o : Ow} {v : V} {ds : List D} {fp : List Addr} (h : Rp x F H o v (.tup ds) fp) : ∃ a vs, v = .ref a ∧ SqT x.K F a vs ∧ Reps x F vs ds := by
  cases o with
  | fz => obtain ⟨h, _⟩ := h; cases h with
    | tup h r => exact ⟨_, _, rfl, h, r⟩
  | i => obtain ⟨_, _, _, _, _, _, e, _⟩ := h; cases e
  | l o => obtain ⟨_, _, _, _, _, e, _⟩ := h; cases e
theorem Rp.scr_of {F H : Hp} {o : Ow} {v : V} {ns : List Int} {fp : List Addr} (h : Rp x F H o v (.scr ns) fp) : ∃ a, v = .ref a ∧ SqL x.K F a (ns.map V.int) := by
  cases o with
  | fz => obtain ⟨h, _⟩ := h; cases h with
    | scr h => exact ⟨_, rfl, h⟩
  | i => obtain ⟨_, _, _, _, _, _, e, _⟩ := h; cases e
  | l o => obtain ⟨_, _, _, _, _, e, _⟩ := h; cases e

/-! ### constants, names -/
theorem v_lit {c : Const} {k : Nat} {d : D} {v : V} (h : PE X (.Constant c k pos) (tC v)) (r : ∀ F, Rep x F v d) : PE X (.Constant c k pos) (tV x T rt call Z false (.lit d)) :=
  PE.imp h fun σ H Q q => by
    obtain ⟨ρ, ω, F, φ, o, s, ok, w⟩ := q
    unfold okE at ok
    split at ok
    · cases ok
      exact w v F H [] (Ext.refl s.fh) ⟨r F, rfl⟩ (fun _ _ h => nomatch h)
    · cases ok
theorem ok_lit (d : D) (ω : Om) : okE rt true ω (.lit d) = okE rt false ω (.lit d) := rfl
theorem se_int {i : Int} {k : Nat} : SE x T rt call Z X (.Constant (.int i) k pos) (.lit (.int i)) := SE.of_v (v_lit pe_int fun _ => .int i) (ok_lit _) (fun _ => rfl)
theorem se_bl {i : Bool} {k : Nat} : SE x T rt call Z X (.Constant (.bool i) k pos) (.lit (.bl i)) := SE.of_v (v_lit pe_bl fun _ => .bl i) (ok_lit _) (fun _ => rfl)
theorem se_non {k : Nat} : SE x T rt call Z X (.Constant .none k pos) (.lit .non) := SE.of_v (v_lit pe_non fun _ => .non) (ok_lit _) (fun _ => rfl)
theorem se_str {i : Str} {k : Nat} : SE x T rt call Z X (.Constant (.str i) k pos) (.lit (.str i)) := SE.of_v (v_lit pe_str fun _ => .str i) (ok_lit _) (fun _ => rfl)
theorem rdV_wp {ρ : En} {i : Nat} {P : D → Prop} {Y : Nat → List D → Prop} (w : Wp (rdV ρ i) P Y) : ∃ d, ρ[i]? = some (some d) ∧ P d := by
  unfold rdV at w
  split at w
  · exact ⟨_, by assumption, w⟩
  · exact w.elim
theorem se_var {i : Nat} {y : Str} (hN : X.N[i]? = some y) (hv : Vis X.env.scope y) (h1 : (y == ("__debug__" : Str)) = false) (h2 : (y == ("__classdict__" : Str)) = false) : SE x T rt call Z X (.Name y pos) (.var i) := by
  have p : PE X (.Name y pos) (tVar i) := pe_var hN hv h1 h2
  have b : PE X (.Name y pos) (tV x T rt call Z true (.var i)) := PE.imp p fun σ H Q q => by
    obtain ⟨ρ, ω, F, φ, o, s, ok, w⟩ := q
    have w : Wp (rdV ρ i) _ _ := w
    obtain ⟨d, hd, w⟩ := rdV_wp w
    obtain ⟨v, hv, r⟩ := s.at_ i d hd
    have ok : some (og ω i) = some o := ok
    cases ok
    exact ⟨v, hv, w v F H (φ i) (Ext.refl s.fh) r fun z => nomatch z⟩
  refine ⟨PE.imp p fun σ H Q q => ?_, b, fun _ => PT.imp (pt_val b (fun _ => rfl)) tT_val⟩
  obtain ⟨ρ, ω, F, φ, o, s, ok, w⟩ := q
  have w : Wp (rdV ρ i) _ _ := w
  obtain ⟨d, hd, w⟩ := rdV_wp w
  obtain ⟨v, hv, r⟩ := s.at_ i d hd
  have ok : (if og ω i = .fz then some Ow.fz else none) = some o := ok
  split at ok
  · rename_i e
    cases ok
    rw [e] at r
    refine ⟨v, hv, w v F H (φ i) (Ext.refl s.fh) r fun _ a ha => ?_⟩
    rw [r.2] at ha
    cases ha
  · cases ok
theorem se_glob {g : Nat} {y : Str} {u : Value} {v : V} {d : D} (hg : Gl X y) (hm : X.mg y = some u) (r : RelV v u) (hd : (y == ("__debug__" : Str)) = false) (hT : T.globs[g]? = some d) (hr : Rep x (fun _ => none) v d) :
    SE x T rt call Z X (.Name y pos) (.glob g) :=
  SE.of_v (PE.imp (pe_glob hg hm r hd) fun σ H Q q => by
    obtain ⟨ρ, ω, F, φ, o, s, ok, w⟩ := q
    have w : Wp (R.of T.globs[g]?) _ _ := w
    obtain ⟨d', hd', w⟩ := w.of
    rw [hT] at hd'
    cases hd'
    have ok : some Ow.fz = some o := ok
    cases ok
    exact w v F H [] (Ext.refl s.fh) ⟨hr.mono (fun _ _ h => by cases h), rfl⟩ (fun _ _ h => nomatch h)) (fun _ => rfl) (fun _ => rfl)

/-! ### operators -/
variable {a b c e : Expr} {a' b' c' e' : E}
/-- an answer that is no object, from a state that came by -/
theorem Ext.fin {F H F' H' : Hp} {o : Ow} {d : D} {v : V} {Q : VK} {bb : Bool} (ex : Ext F H F' H') (r : Rep x F' v d)
    (w : ∀ v F' H' fp, Ext F H F' H' → Rp x F' H' .fz v d fp → (bb = false → ∀ a ∈ fp, H a = none) → Q v H') : Q v H' := w v F' H' [] ex ⟨r, rfl⟩ fun _ _ h => nomatch h
theorem se_neg (ha : SE x T rt call Z X a a') : SE x T rt call Z X (.UnaryOp .USub a pos) (.neg a') :=
  SE.of_v (PE.imp (pe_un un_neg ha.b) fun σ H Q q => by
    obtain ⟨ρ, ω, F, φ, o, s, ok, w⟩ := q
    unfold okE at ok
    cases h : okE rt true ω a' with
    | none => rw [h] at ok; cases ok
    | some oa =>
      rw [h] at ok
      cases ok
      refine one s h w fun d v F' H' fp ex r _ w => ?_
      cases d <;> first | exact w.elim | skip
      rename_i i
      exact ⟨i, r.int_of, ex.fin (o := .fz) (.int (-i)) w⟩) (fun _ => rfl) (fun _ => rfl)
theorem bool_wp {d : D} {P : Bool → Prop} {Y : Nat → List D → Prop} (w : Wp (bool_ d) P Y) : ∃ k, d = .bl k ∧ P k := by
  cases d <;> first | exact w.elim | exact ⟨_, rfl, w⟩
theorem se_not (ha : SE x T rt call Z X a a') (hn : notIf a' = true) : SE x T rt call Z X (.UnaryOp .Not a pos) (.not a') := by
  refine SE.of_vt (PE.imp (pe_not ha.b) fun σ H Q q => ?_) (fun _ => rfl) (PT.imp (pt_not (ha.t hn)) fun σ H Q q => ?_)
  · obtain ⟨ρ, ω, F, φ, o, s, ok, w⟩ := q
    unfold okE at ok
    cases h : okE rt true ω a' with
    | none => rw [h] at ok; cases ok
    | some oa =>
      rw [h] at ok
      cases ok
      refine one s h w fun d v F' H' fp ex r _ w => ?_
      obtain ⟨k, rfl, w⟩ := bool_wp w.bind
      exact ⟨k, r.bl_of, ex.fin (o := .fz) (.bl (!k)) w⟩
  · obtain ⟨ρ, ω, F, φ, o, s, ok, w⟩ := q
    unfold okE at ok
    cases h : okE rt true ω a' with
    | none => rw [h] at ok; cases ok
    | some oa =>
      rw [h] at ok
      cases ok
      refine ⟨ρ, ω, F, φ, oa, s, h, w.bind.mono (fun d w F' H' ex => ?_) fun _ _ z => z⟩
      obtain ⟨k, rfl, w⟩ := bool_wp w.bind
      obtain ⟨k', e, w⟩ := w F' H' ex
      cases e
      exact ⟨k, rfl, w⟩
/-- .. and .. as a value -/
theorem v_and (ha : PE X a (tV x T rt call Z true a')) {es : List Expr} {pos : Pos} (hb : PE X (.BoolOp .And (b :: es) pos) (tV x T rt call Z false b')) : PE X (.BoolOp .And (a :: b :: es) pos) (tV x T rt call Z false (.and a' b')) :=
  PE.imp (pe_and ha hb) fun σ H Q q => by
    obtain ⟨ρ, ω, F, φ, o, s, ok, w⟩ := q
    unfold okE at ok
    cases h : okE rt true ω a' with
    | none => rw [h] at ok; cases ok
    | some oa =>
      cases h2 : okE rt false ω b' with
      | none => rw [h, h2] at ok; cases ok
      | some ob =>
        rw [h, h2] at ok
        have ok : (if ob = .fz then some Ow.fz else none) = some o := ok
        split at ok
        · rename_i eo
          cases ok
          subst eo
          refine one s h w fun d v F' H' fp ex r _ w => ?_
          obtain ⟨k, rfl, w⟩ := bool_wp w.bind
          refine ⟨k, r.bl_of, ?_⟩
          cases k with
          | true => exact ⟨ρ, ω, F', φ, .fz, s.ext ex, h2, Wp.mono (show Wp (evE T call ρ b') _ _ from w) (fun d w v F2 H2 fp e2 r n => w v F2 H2 fp (ex.trans e2) r fun z a ha => by
              rw [r.2] at ha; cases ha) fun _ _ z F2 H2 e2 => z F2 H2 (ex.trans e2)⟩
          | false => exact ex.fin (o := .fz) (.bl false) w
        · cases ok
theorem v_or (ha : PE X a (tV x T rt call Z true a')) {es : List Expr} {pos : Pos} (hb : PE X (.BoolOp .Or (b :: es) pos) (tV x T rt call Z false b')) : PE X (.BoolOp .Or (a :: b :: es) pos) (tV x T rt call Z false (.or a' b')) :=
  PE.imp (pe_or ha hb) fun σ H Q q => by
    obtain ⟨ρ, ω, F, φ, o, s, ok, w⟩ := q
    unfold okE at ok
    cases h : okE rt true ω a' with
    | none => rw [h] at ok; cases ok
    | some oa =>
      cases h2 : okE rt false ω b' with
      | none => rw [h, h2] at ok; cases ok
      | some ob =>
        rw [h, h2] at ok
        have ok : (if ob = .fz then some Ow.fz else none) = some o := ok
        split at ok
        · rename_i eo
          cases ok
          subst eo
          refine one s h w fun d v F' H' fp ex r _ w => ?_
          obtain ⟨k, rfl, w⟩ := bool_wp w.bind
          refine ⟨k, r.bl_of, ?_⟩
          cases k with
          | false => exact ⟨ρ, ω, F', φ, .fz, s.ext ex, h2, Wp.mono (show Wp (evE T call ρ b') _ _ from w) (fun d w v F2 H2 fp e2 r n => w v F2 H2 fp (ex.trans e2) r fun z a ha => by
              rw [r.2] at ha; cases ha) fun _ _ z F2 H2 e2 => z F2 H2 (ex.trans e2)⟩
          | true => exact ex.fin (o := .fz) (.bl true) w
        · cases ok
theorem ok_and {a' b' : E} {ω : Om} {o : Ow} (ok : okE rt true ω (.and a' b') = some o) : ∃ oa, okE rt true ω a' = some oa ∧ okE rt false ω b' = some .fz := by
  unfold okE at ok
  cases h : okE rt true ω a' with
  | none => rw [h] at ok; cases ok
  | some oa =>
    cases h2 : okE rt false ω b' with
    | none => rw [h, h2] at ok; cases ok
    | some ob =>
      rw [h, h2] at ok
      have ok : (if ob = .fz then some Ow.fz else none) = some o := ok
      split at ok
      · rename_i eo; subst eo; exact ⟨oa, rfl, rfl⟩
      · cases ok
theorem ok_or {a' b' : E} {ω : Om} {o : Ow} (ok : okE rt true ω (.or a' b') = some o) : ∃ oa, okE rt true ω a' = some oa ∧ okE rt false ω b' = some .fz := by
  unfold okE at ok
  cases h : okE rt true ω a' with
  | none => rw [h] at ok; cases ok
  | some oa =>
    cases h2 : okE rt false ω b' with
    | none => rw [h, h2] at ok; cases ok
    | some ob =>
      rw [h, h2] at ok
      have ok : (if ob = .fz then some Ow.fz else none) = some o := ok
      split at ok
      · rename_i eo; subst eo; exact ⟨oa, rfl, rfl⟩
      · cases ok
end
end PV
/-! PV, part e: tests, operators, comparisons, displays, items. -/
namespace PV
open PySem PySem.Spec PyProof.Rows L2
section
variable {x : Lx} {T : Tab} {rt : Om} {call : Cal → List D → R D} {Z : Zx} {X : Cx} {pos : Pos} {a b c e : Expr} {a' b' c' e' : E}
theorem w_and {es : List Expr} (ha : PT X a (tT x T rt call Z a')) (hb : PW X (.BoolOp .And (b :: es) pos) (tT x T rt call Z b')) (hn : ∀ ω, okE rt false ω b' = some .fz → ∃ o, okE rt true ω b' = some o) :
    PW X (.BoolOp .And (a :: b :: es) pos) (tT x T rt call Z (.and a' b')) :=
  ⟨fun whole pins s σ H Q I q => (pw_and ha hb).run whole pins s σ H Q I (by
    obtain ⟨ρ, ω, F, φ, o, s, ok, w⟩ := q
    obtain ⟨oa, h, h2⟩ := ok_and ok
    obtain ⟨ob, h2⟩ := hn ω h2
    refine ⟨ρ, ω, F, φ, oa, s, h, w.bind.mono (fun d w F' H' ex => ?_) fun _ _ z => z⟩
    obtain ⟨k, rfl, w⟩ := bool_wp w.bind
    refine ⟨k, rfl, ?_⟩
    cases k with
    | true =>
      rw [if_pos rfl]
      exact ⟨ρ, ω, F', φ, ob, s.ext ex, h2, Wp.mono (show Wp (evE T call ρ b') _ _ from w) (fun d w F2 H2 e2 => w F2 H2 (ex.trans e2)) fun _ _ z F2 H2 e2 => z F2 H2 (ex.trans e2)⟩
    | false =>
      rw [if_neg Bool.false_ne_true]
      obtain ⟨k, e, w⟩ := w F' H' ex
      cases e
      exact w)⟩
theorem w_or {es : List Expr} (ha : PT X a (tT x T rt call Z a')) (hb : PW X (.BoolOp .Or (b :: es) pos) (tT x T rt call Z b')) (hn : ∀ ω, okE rt false ω b' = some .fz → ∃ o, okE rt true ω b' = some o) :
    PW X (.BoolOp .Or (a :: b :: es) pos) (tT x T rt call Z (.or a' b')) :=
  ⟨fun whole pins s σ H Q I q => (pw_or ha hb).run whole pins s σ H Q I (by
    obtain ⟨ρ, ω, F, φ, o, s, ok, w⟩ := q
    obtain ⟨oa, h, h2⟩ := ok_or ok
    obtain ⟨ob, h2⟩ := hn ω h2
    refine ⟨ρ, ω, F, φ, oa, s, h, w.bind.mono (fun d w F' H' ex => ?_) fun _ _ z => z⟩
    obtain ⟨k, rfl, w⟩ := bool_wp w.bind
    refine ⟨k, rfl, ?_⟩
    cases k with
    | false =>
      rw [if_neg Bool.false_ne_true]
      exact ⟨ρ, ω, F', φ, ob, s.ext ex, h2, Wp.mono (show Wp (evE T call ρ b') _ _ from w) (fun d w F2 H2 e2 => w F2 H2 (ex.trans e2)) fun _ _ z F2 H2 e2 => z F2 H2 (ex.trans e2)⟩
    | true =>
      rw [if_pos rfl]
      obtain ⟨k, e, w⟩ := w F' H' ex
      cases e
      exact w)⟩
/-! ### is None -/
theorem notnon {F H : Hp} {o : Ow} {v : V} {d : D} {fp : List Addr} (r : Rp x F H o v d fp) (hd : d ≠ .non) : v ≠ .non := by
  cases o with
  | fz =>
    obtain ⟨r, _⟩ := r
    cases r <;> first | exact absurd rfl hd | exact fun z => nomatch z
  | i => obtain ⟨_, _, _, _, _, rfl, _⟩ := r; exact fun z => nomatch z
  | l o => obtain ⟨_, _, _, _, rfl, _⟩ := r; exact fun z => nomatch z
theorem Rp.non_of {F H : Hp} {o : Ow} {v : V} {fp : List Addr} (h : Rp x F H o v .non fp) : v = .non := by
  cases o with
  | fz => obtain ⟨h, _⟩ := h; cases h; rfl
  | i => obtain ⟨_, _, _, _, _, _, e, _⟩ := h; cases e
  | l o => obtain ⟨_, _, _, _, _, e, _⟩ := h; cases e
theorem isn_wp {d : D} {P : D → Prop} {Y : Nat → List D → Prop} {k1 k2 : Bool} (w : Wp (match d with
    | .non => R.ok (.bl k1)
    | .exn _ _ => .bad
    | _ => .ok (.bl k2) : R D) P Y) : (d = .non ∧ P (.bl k1)) ∨ (d ≠ .non ∧ P (.bl k2)) := by
  cases d <;> first | exact .inl ⟨rfl, w⟩ | exact w.elim | exact .inr ⟨(fun z => nomatch z), w⟩
theorem ok1 {a' : E} {ω : Om} {o p : Ow} (ok : (do let _ ← okE rt true ω a'; some p : Option Ow) = some o) : ∃ oa, okE rt true ω a' = some oa ∧ p = o := by
  cases h : okE rt true ω a' with
  | none => rw [h] at ok; cases ok
  | some oa => rw [h] at ok; cases ok; exact ⟨oa, rfl, rfl⟩
theorem se_isN {k : Nat} {p : Pos} (ha : SE x T rt call Z X a a') : SE x T rt call Z X (.Compare a [.Is] [.Constant .none k p] pos) (.isN a') := by
  have key : ∀ σ H (Q : VK), tV x T rt call Z true (.isN a') σ H Q → tOp (fun x y H Q => y = .non ∧ Q (.bl (decide (x = .non))) H) (tV x T rt call Z true a') (tC .non) σ H Q := fun σ H Q q => by
    obtain ⟨ρ, ω, F, φ, o, s, ok, w⟩ := q
    unfold okE at ok
    obtain ⟨oa, h, rfl⟩ := ok1 ok
    refine one s h w fun d v F' H' fp ex r _ w => ⟨rfl, ?_⟩
    rcases isn_wp w with ⟨rfl, w⟩ | ⟨hd, w⟩
    · rw [r.non_of]; exact w _ F' H' [] ex ⟨.bl true, rfl⟩ (fun z => nomatch z)
    · rw [decide_eq_false (notnon r hd)]; exact w _ F' H' [] ex ⟨.bl false, rfl⟩ (fun z => nomatch z)
  have pb : PE X (.Compare a [.Is] [.Constant .none k p] pos) (tV x T rt call Z true (.isN a')) := PE.imp (pe_cmpR op_isN ha.b pe_non (nomark _)) key
  refine ⟨PE.imp (pe_cmpR op_isN ha.b pe_non (nomark _)) fun σ H Q q => ?_, pb, fun _ => PT.imp (pt_cmpR op_isN ha.b pe_non (nomark _)) fun σ H Q q => key σ H _ (tT_val σ H Q q)⟩
  obtain ⟨ρ, ω, F, φ, o, s, ok, w⟩ := q
  exact key σ H Q ⟨ρ, ω, F, φ, o, s, ok, w.mono (fun d hd v F' H' fp ex r _ => hd v F' H' fp ex r fun _ q hq => by
    unfold okE at ok
    obtain ⟨oa, h, rfl⟩ := ok1 ok
    rw [r.2] at hq
    cases hq) fun _ _ z => z⟩
/-- what is no object may be handed on as it is read -/
theorem v_of_b {e : Expr} {e' : E} {t : TE} (h : PE X e t) (ho : ∀ ω o, okE rt false ω e' = some o → okE rt true ω e' = some o ∧ o = .fz) (key : ∀ σ H Q, tV x T rt call Z true e' σ H Q → t σ H Q) :
    PE X e (tV x T rt call Z false e') :=
  PE.imp h fun σ H Q q => by
    obtain ⟨ρ, ω, F, φ, o, s, ok, w⟩ := q
    obtain ⟨ok', rfl⟩ := ho ω o ok
    exact key σ H Q ⟨ρ, ω, F, φ, .fz, s, ok', w.mono (fun d hd v F' H' fp ex r _ => hd v F' H' fp ex r fun _ q hq => by
      rw [r.2] at hq
      cases hq) fun _ _ z => z⟩
theorem se_isNN {k : Nat} {p : Pos} (ha : SE x T rt call Z X a a') : SE x T rt call Z X (.Compare a [.IsNot] [.Constant .none k p] pos) (.isNN a') := by
  have key : ∀ σ H (Q : VK), tV x T rt call Z true (.isNN a') σ H Q → tOp (fun x y H Q => y = .non ∧ Q (.bl (!decide (x = .non))) H) (tV x T rt call Z true a') (tC .non) σ H Q := fun σ H Q q => by
    obtain ⟨ρ, ω, F, φ, o, s, ok, w⟩ := q
    unfold okE at ok
    obtain ⟨oa, h, rfl⟩ := ok1 ok
    refine one s h w fun d v F' H' fp ex r _ w => ⟨rfl, ?_⟩
    rcases isn_wp w with ⟨rfl, w⟩ | ⟨hd, w⟩
    · rw [r.non_of]; exact w _ F' H' [] ex ⟨.bl false, rfl⟩ (fun z => nomatch z)
    · rw [decide_eq_false (notnon r hd)]; exact w _ F' H' [] ex ⟨.bl true, rfl⟩ (fun z => nomatch z)
  have pb := PE.imp (pe_cmpR (pos := pos) op_notN ha.b (pe_non (j := k) (pos := p)) (nomark _)) key
  refine ⟨v_of_b (pe_cmpR op_notN ha.b pe_non (nomark _)) (fun ω o ok => ?_) key, pb, fun _ => PT.imp (pt_cmpR op_notN ha.b pe_non (nomark _)) fun σ H Q q => key σ H _ (tT_val σ H Q q)⟩
  unfold okE at ok ⊢
  obtain ⟨oa, h, rfl⟩ := ok1 ok
  exact ⟨ok, rfl⟩
/-! ### comparisons -/
theorem ok2 {a' b' : E} {ω : Om} {o p : Ow} (ok : (do let _ ← okE rt true ω a'; let _ ← okE rt true ω b'; some p : Option Ow) = some o) : ∃ oa ob, okE rt true ω a' = some oa ∧ okE rt true ω b' = some ob ∧ p = o := by
  cases h : okE rt true ω a' with
  | none => rw [h] at ok; cases ok
  | some oa =>
    cases h2 : okE rt true ω b' with
    | none => rw [h, h2] at ok; cases ok
    | some ob => rw [h, h2] at ok; cases ok; exact ⟨oa, ob, rfl, rfl, rfl⟩
/-- what a comparison's rule wants -/
def cmpR (K : PySem.W.Frag) : Cop → R2
  | .eq => rEqD K
  | .ne => rNeD K
  | .lt => rI0 fun i j => .bl (decide (i < j))
  | .le => rI0 fun i j => .bl (decide (i ≤ j))
  | .gt => rI0 fun i j => .bl (decide (j < i))
  | .ge => rI0 fun i j => .bl (decide (j ≤ i))
  | .isin => fun x y H Q => (∃ c z, x = .str c ∧ y = .str z ∧ ∃ k, c.cps.toList = [k] ∧ Q (.bl (decide (k ∈ z.cps.toList))) H) ∨ rIn K false x y H Q ∨ rInD K x y H Q
  | .notin => fun x y H Q => (∃ c z, x = .str c ∧ y = .str z ∧ ∃ k, c.cps.toList = [k] ∧ Q (.bl (!decide (k ∈ z.cps.toList))) H) ∨ rIn K true x y H Q ∨ rNotInD K x y H Q
def copOf : Cop → CmpOp
  | .eq => .Eq | .ne => .NotEq | .lt => .Lt | .le => .LtE | .gt => .Gt | .ge => .GtE | .isin => .In | .notin => .NotIn
end
end PV
/-! PV, part f: comparisons, operators, displays, items. -/
namespace PV
open PySem PySem.Spec PyProof.Rows L2
section
variable {x : Lx} {T : Tab} {rt : Om} {call : Cal → List D → R D} {Z : Zx} {X : Cx} {pos : Pos} {a b c e : Expr} {a' b' c' e' : E}
theorem op_cmp (hu : X.A.units + 65 < cLine) (o : Cop) : OpR X (compareOp (copOf o)) (cmpR X.K o) := by
  cases o with
  | eq => exact op_eqD (by omega)
  | ne => exact op_neD (by omega)
  | lt => exact op_lt
  | le => exact op_le
  | gt => exact op_gt
  | ge => exact op_ge
  | isin =>
    refine OpR.or (r := fun x y H Q => ∃ c z, x = .str c ∧ y = .str z ∧ ∃ k, c.cps.toList = [k] ∧ Q (.bl (decide (k ∈ z.cps.toList))) H) ?_ (op_in_seq.or (op_inD hu))
    intro pins s σ H x y v u Q I rx ry h
    obtain ⟨c, z, rfl, rfl, k, hc, q⟩ := h
    have e : c = ⟨#[k]⟩ := by
      obtain ⟨⟨l⟩⟩ := c
      simp only at hc
      rw [hc]
    subst e
    exact op_in_sign pins s σ H _ _ v u Q I rx ry ⟨k, z, rfl, rfl, q⟩
  | notin =>
    refine OpR.or (r := fun x y H Q => ∃ c z, x = .str c ∧ y = .str z ∧ ∃ k, c.cps.toList = [k] ∧ Q (.bl (!decide (k ∈ z.cps.toList))) H) ?_ (op_notIn_seq.or (op_notInD hu))
    intro pins s σ H x y v u Q I rx ry h
    obtain ⟨c, z, rfl, rfl, k, hc, q⟩ := h
    have e : c = ⟨#[k]⟩ := by
      obtain ⟨⟨l⟩⟩ := c
      simp only at hc
      rw [hc]
    subst e
    exact op_notIn_sign pins s σ H _ _ v u Q I rx ry ⟨k, z, rfl, rfl, q⟩
theorem eqD_wp {d e : D} {P : Bool → Prop} {Y : Nat → List D → Prop} (w : Wp (eqD d e) P Y) : ∃ p q, d.pd = some p ∧ e.pd = some q ∧ SeqAt.shaped p = true ∧ SeqAt.shaped q = true ∧ P (PyData.eqv p q) := by
  unfold eqD at w
  split at w
  · rename_i p q h1 h2
    split at w
    · rename_i h3
      simp only [Bool.and_eq_true] at h3
      exact ⟨p, q, h1, h2, h3.1, h3.2, w⟩
    · exact w.elim
  · exact w.elim
theorem inV_eq {F : Hp} {v : V} {d : D} {vs : List V} {ds : List D} (r : Rep x F v d) (f : flatD d = true) (t : Reps x F vs ds) (fs : ds.all flatD = true) : inV v vs = ds.any fun z => eqF z d := by
  unfold inV
  induction ds generalizing vs with
  | nil => cases t; rfl
  | cons e es ih =>
    cases t with
    | cons r2 t2 =>
      simp only [List.all_cons, Bool.and_eq_true] at fs
      simp only [List.any_cons]
      rw [ih t2 fs.2, r2.eqF r fs.1 f]
theorem inD_wp {F H : Hp} {oa ob : Ow} {v u : V} {d e : D} {fp gp : List Addr} {P : Bool → Prop} {Y : Nat → List D → Prop} (s : Sub F H) (ra : Rp x F H oa v d fp) (rb : Rp x F H ob u e gp) (w : Wp (inD d e) P Y) {Q : Bool → Prop}
    (hq : ∀ k, P k → Q k) : (∃ c z, v = .str c ∧ u = .str z ∧ ∃ k, c.cps.toList = [k] ∧ Q (decide (k ∈ z.cps.toList))) ∨
      (∃ p xs, u = .ref p ∧ (SqL x.K H p xs ∨ SqT x.K H p xs) ∧ flatV v = true ∧ xs.all flatV = true ∧ Q (inV v xs)) ∨
      (∃ p ps, Dp x.K H v p ∧ Dp x.K H u (.list ps) ∧ SeqAt.shaped p = true ∧ SeqAt.shaped (.list ps) = true ∧ Q (ps.any fun z => PyData.eqv z p)) := by
  unfold inD at w
  split at w
  · rename_i z
    cases d <;> first | exact w.elim | skip
    rename_i c
    have w : Wp (match c.cps.toList with
      | [k] => R.ok (decide (k ∈ z.cps.toList))
      | _ => .bad) P Y := w
    split at w
    · rename_i k hk
      exact .inl ⟨c, z, ra.str_of, rb.str_of, k, hk, hq _ w⟩
    · exact w.elim
  · rename_i ys
    obtain ⟨p, vs, rfl, hp, hr⟩ := rb.atL s
    split at w
    · rename_i hf
      simp only [Bool.and_eq_true] at hf
      have rv := ra.hrep s
      refine .inr (.inl ⟨p, vs, rfl, .inl (SqL.of hp), rv.flat hf.1, hr.flat hf.2, ?_⟩)
      rw [inV_eq rv hf.1 hr hf.2]
      exact hq _ w
    · split at w
      · rename_i q qs h1 h2
        split at w
        · rename_i h3
          simp only [Bool.and_eq_true] at h3
          exact .inr (.inr ⟨q, qs, (ra.hrep s).dp h1, .lst (SqL.of hp) (hr.dp h2), h3.1, h3.2, hq _ w⟩)
        · exact w.elim
      · exact w.elim
  · rename_i ys
    split at w
    · rename_i hf
      simp only [Bool.and_eq_true] at hf
      obtain ⟨p, vs, rfl, hp, hr⟩ := rb.tup_of
      have rv := ra.hrep s
      have hr := hr.mono s
      refine .inr (.inl ⟨p, vs, rfl, .inr (s.sqT hp), rv.flat hf.1, hr.flat hf.2, ?_⟩)
      rw [inV_eq rv hf.1 hr hf.2]
      exact hq _ w
    · exact w.elim
  · exact w.elim
/-- a comparison of two things that are read -/
theorem cmp_wp {F H : Hp} {oa ob : Ow} {o : Cop} {v u : V} {d e : D} {fp gp : List Addr} {Q : VK} {P : Bool → Prop} {Y : Nat → List D → Prop} (s : Sub F H) (ra : Rp x F H oa v d fp) (rb : Rp x F H ob u e gp) (w : Wp (cmpD o d e) P Y)
    (hq : ∀ k, P k → Q (.bl k) H) : cmpR x.K o v u H Q := by
  cases o with
  | eq =>
    obtain ⟨p, q, h1, h2, h3, h4, w⟩ := eqD_wp (show Wp (eqD d e) P Y from w)
    exact ⟨p, q, (ra.hrep s).dp h1, (rb.hrep s).dp h2, h3, h4, hq _ w⟩
  | ne =>
    have w : Wp (match eqD d e with
      | .ok b => R.ok (!b)
      | _ => .bad) P Y := w
    cases h : eqD d e with
    | ok k =>
      rw [h] at w
      obtain ⟨p, q, h1, h2, h3, h4, h5⟩ := eqD_wp (P := fun k' => k' = k) (Y := Y) (by rw [h]; rfl)
      subst h5
      exact ⟨p, q, (ra.hrep s).dp h1, (rb.hrep s).dp h2, h3, h4, hq _ w⟩
    | exc _ _ => rw [h] at w; exact w.elim
    | bad => rw [h] at w; exact w.elim
  | isin => exact inD_wp s ra rb (show Wp (inD d e) P Y from w) (Q := fun k => Q (.bl k) H) hq
  | notin =>
    have w : Wp (match inD d e with
      | .ok b => R.ok (!b)
      | _ => .bad) P Y := w
    cases h : inD d e with
    | ok k =>
      rw [h] at w
      have q := inD_wp (P := fun k' => k' = k) (Y := Y) s ra rb (by rw [h]; rfl) (Q := fun k' => Q (.bl (!k')) H) (fun k' e => by subst e; exact hq _ w)
      rcases q with q | q | q
      · exact .inl q
      · obtain ⟨p, xs, e1, e2, e3, e4, q⟩ := q
        exact .inr (.inl ⟨p, xs, e1, e2, e3, e4, by simpa using q⟩)
      · exact .inr (.inr q)
    | exc _ _ => rw [h] at w; exact w.elim
    | bad => rw [h] at w; exact w.elim
  | lt =>
    cases d <;> first | exact w.elim | skip
    cases e <;> first | exact w.elim | skip
    exact ⟨_, _, ra.int_of, rb.int_of, hq _ w⟩
  | le =>
    cases d <;> first | exact w.elim | skip
    cases e <;> first | exact w.elim | skip
    exact ⟨_, _, ra.int_of, rb.int_of, hq _ w⟩
  | gt =>
    cases d <;> first | exact w.elim | skip
    cases e <;> first | exact w.elim | skip
    exact ⟨_, _, ra.int_of, rb.int_of, hq _ w⟩
  | ge =>
    cases d <;> first | exact w.elim | skip
    cases e <;> first | exact w.elim | skip
    exact ⟨_, _, ra.int_of, rb.int_of, hq _ w⟩
theorem se_cmp {o : Cop} (hx : X.K = x.K) (hu : X.A.units + 65 < cLine) (ha : SE x T rt call Z X a a') (hb : SE x T rt call Z X b b') (hm : behindInMarks (copOf o) b = false) :
    SE x T rt call Z X (.Compare a [copOf o] [b] pos) (.cmp o a' b') := by
  have key : ∀ σ H (Q : VK), tV x T rt call Z true (.cmp o a' b') σ H Q → tOp (cmpR X.K o) (tV x T rt call Z true a') (tV x T rt call Z true b') σ H Q := fun σ H Q q => by
    obtain ⟨ρ, ω, F, φ, p, s, ok, w⟩ := q
    unfold okE at ok
    obtain ⟨oa, ob, h1, h2, rfl⟩ := ok2 ok
    refine two s h1 h2 w fun d e v u F' H' fp gp ex ra rb w => ?_
    rw [hx]
    exact cmp_wp ex.fh ra rb w.bind fun k w => w _ F' H' [] ex ⟨.bl k, rfl⟩ (fun z => nomatch z)
  refine ⟨v_of_b (pe_cmpR (op_cmp hu o) ha.b hb.b hm) (fun ω p ok => ?_) key, PE.imp (pe_cmpR (op_cmp hu o) ha.b hb.b hm) key, fun _ => PT.imp (pt_cmpR (op_cmp hu o) ha.b hb.b hm) fun σ H Q q => key σ H _ (tT_val σ H Q q)⟩
  unfold okE at ok ⊢
  obtain ⟨oa, ob, h1, h2, rfl⟩ := ok2 ok
  exact ⟨ok, rfl⟩
theorem ok3 {a' b' c' : E} {ω : Om} {o p : Ow} (ok : (do let _ ← okE rt true ω a'; let _ ← okE rt true ω b'; let _ ← okE rt true ω c'; some p : Option Ow) = some o) :
    ∃ oa ob oc, okE rt true ω a' = some oa ∧ okE rt true ω b' = some ob ∧ okE rt true ω c' = some oc ∧ p = o := by
  cases h : okE rt true ω a' with
  | none => rw [h] at ok; cases ok
  | some oa =>
    cases h2 : okE rt true ω b' with
    | none => rw [h, h2] at ok; cases ok
    | some ob =>
      cases h3 : okE rt true ω c' with
      | none => rw [h, h2, h3] at ok; cases ok
      | some oc => rw [h, h2, h3] at ok; cases ok; exact ⟨oa, ob, oc, rfl, rfl, rfl, rfl⟩
theorem se_chain {o p : Cop} (hx : X.K = x.K) (hu : X.A.units + 65 < cLine) (ha : SE x T rt call Z X a a') (hb : SE x T rt call Z X b b') (hc : SE x T rt call Z X c c') (hm : lastMarks [copOf o, copOf p] [b, c] = false) :
    SE x T rt call Z X (.Compare a [copOf o, copOf p] [b, c] pos) (.chain o p a' b' c') := by
  have key : ∀ σ H (Q : VK), tV x T rt call Z true (.chain o p a' b' c') σ H Q → tChain (cmpR X.K o) (cmpR X.K p) (tV x T rt call Z true a') (tV x T rt call Z true b') (tV x T rt call Z true c') σ H Q := fun σ H Q q => by
    obtain ⟨ρ, ω, F, φ, q', s, ok, w⟩ := q
    unfold okE at ok
    obtain ⟨oa, ob, oc, h1, h2, h3, rfl⟩ := ok3 ok
    refine two s h1 h2 w fun d e v u F' H' fp gp ex ra rb w => ?_
    rw [hx]
    refine cmp_wp ex.fh ra rb w.bind fun k w => ⟨k, rfl, ?_⟩
    cases k with
    | true =>
      refine one (s.ext ex) h3 (Wp.mono (show Wp (evE T call ρ c' >>= _) _ _ from w) (fun _ z => z) fun _ _ z F2 H2 e2 => z F2 H2 (ex.trans e2)) fun g z F2 H2 hp e2 rc _ w => ?_
      exact cmp_wp e2.fh (rb.ext e2) rc w.bind fun k w => w _ F2 H2 [] (ex.trans e2) ⟨.bl k, rfl⟩ (fun z => nomatch z)
    | false => exact w _ F' H' [] ex ⟨.bl false, rfl⟩ (fun z => nomatch z)
  refine ⟨v_of_b (pe_chain (op_cmp hu o) (op_cmp hu p) ha.b hb.b hc.b hm) (fun ω q' ok => ?_) key, PE.imp (pe_chain (op_cmp hu o) (op_cmp hu p) ha.b hb.b hc.b hm) key,
    fun _ => PT.imp (pt_chain (op_cmp hu o) (op_cmp hu p) ha.b hb.b hc.b hm) fun σ H Q q => key σ H _ (tT_val σ H Q q)⟩
  unfold okE at ok ⊢
  obtain ⟨oa, ob, oc, h1, h2, h3, rfl⟩ := ok3 ok
  exact ⟨ok, rfl⟩
end
end PV
/-! PV, part g: operators, displays, items, slices, fields. -/
namespace PV
open PySem PySem.Spec PyProof.Rows L2
section
variable {x : Lx} {T : Tab} {rt : Om} {call : Cal → List D → R D} {Z : Zx} {X : Cx} {pos : Pos} {a b c e : Expr} {a' b' c' e' : E}
/-- a new list, one's own (o = l fz) or nobody's -/
theorem Rp.newL {F H : Hp} {p : Addr} {vs : List V} {ds : List D} (r : Reps x F vs ds) (n : F p = none) : Rp x F (upd H p (.lst vs)) (.l .fz) (.ref p) (.lst ds) [p] := by
  have hf : ∀ n : Nat, (List.replicate n ([] : List Addr)).flatten = [] := by
    intro n
    induction n with
    | zero => rfl
    | succ n ih => rw [List.replicate_succ, List.flatten_cons, ih]; rfl
  refine ⟨p, vs, ds, List.replicate ds.length [], rfl, rfl, upd_same, n, r.length, by simp, fun k w e g a1 a2 a3 => ?_, by rw [hf], by simp⟩
  have hk : k < ds.length := (List.getElem?_eq_some_iff.mp a2).1
  rw [List.getElem?_replicate] at a3
  rw [if_pos hk] at a3
  cases a3
  obtain ⟨w', h1, h2⟩ := r.get a2
  rw [a1] at h1
  cases h1
  exact ⟨h2, rfl⟩
theorem newL_fin {F H F' H' : Hp} {p : Addr} {vs : List V} {ds : List D} {o : Ow} {bb : Bool} {Q : VK} (ex : Ext F H F' H') (r : Reps x F' vs ds) (np : H' p = none) (ho : o = .fz ∨ o = .l .fz)
    (w : ∀ v F2 H2 fp, Ext F H F2 H2 → Rp x F2 H2 o v (.lst ds) fp → (bb = false → ∀ a ∈ fp, H a = none) → Q v H2) : Q (.ref p) (upd H' p (.lst vs)) := by
  have nH : H p = none := by
    cases q : H p with
    | none => rfl
    | some u => rw [ex.h p u q] at np; cases np
  have nF : F' p = none := by
    cases q : F' p with
    | none => rfl
    | some u => rw [ex.fh p u q] at np; cases np
  rcases ho with rfl | rfl
  · exact w _ (upd F' p (.lst vs)) _ [] (ex.trans (Ext.alloc ex.fh np)) ⟨.lst upd_same (r.mono (Ext.alloc (o := .lst vs) ex.fh np).f), rfl⟩ fun _ _ h => nomatch h
  · refine w _ F' _ [p] (ex.trans (Ext.own ex.fh np)) (Rp.newL r nF) fun _ a ha => ?_
    have : a = p := by simpa using ha
    subst this
    exact nH
theorem newT_fin {F H F' H' : Hp} {p : Addr} {vs : List V} {ds : List D} {bb : Bool} {Q : VK} (ex : Ext F H F' H') (r : Reps x F' vs ds) (np : H' p = none)
    (w : ∀ v F2 H2 fp, Ext F H F2 H2 → Rp x F2 H2 .fz v (.tup ds) fp → (bb = false → ∀ a ∈ fp, H a = none) → Q v H2) : Q (.ref p) (upd H' p (.tup vs)) :=
  w _ (upd F' p (.tup vs)) _ [] (ex.trans (Ext.alloc ex.fh np)) ⟨.tup (SqT.of upd_same) (r.mono (Ext.alloc (o := .tup vs) ex.fh np).f), rfl⟩ fun _ _ h => nomatch h
def bopOf : Bop → Operator
  | .add => .Add | .sub => .Sub | .mul => .Mult | .fdiv => .FloorDiv | .mod => .Mod | .pow => .Pow
def binR (K : PySem.W.Frag) : Bop → R2
  | .add => fun x y H Q => rI0 (fun i j => .int (i + j)) x y H Q ∨ (∃ i j, x = .str i ∧ y = .str j ∧ i.length + j.length ≤ sizeLine ∧ Q (.str (i ++ j)) H) ∨ rCatA K x y H Q ∨ rCat x y H Q
  | .sub => rI0 fun i j => .int (i - j)
  | .mul => fun x y H Q => rI CMulW (fun i j => .int (i * j)) x y H Q ∨ rRep x y H Q
  | .fdiv => fun x y H Q => rI CDivW (fun i j => .int (i / j)) x y H Q ∨ rI CDivN (fun i j => .int (i.fdiv j)) x y H Q
  | .mod => fun x y H Q => rI (fun _ j => 0 < j) (fun i j => .int (i % j)) x y H Q ∨ rI (fun _ j => j ≠ 0) (fun i j => .int (i.fmod j)) x y H Q
  | .pow => rI CPow fun i j => .int (i ^ j.toNat)
theorem op_bin (o : Bop) : OpR X (binaryOp (bopOf o)) (binR X.K o) := by
  cases o with
  | add => exact op_add.or (op_add_str.or (op_catA.or op_cat))
  | sub => exact op_sub
  | mul => exact op_mulW.or op_rep
  | fdiv => exact op_fdivW.or op_fdivN
  | mod => exact op_mod.or op_modN
  | pow => exact op_pow
theorem compL_lst {tn : D → R (Option D)} : ∀ {xs : List D} {acc : List D} {d : D}, compL tn xs acc = .ok d → ∃ ds, d = .lst ds
  | [], acc, d, h => by cases h; exact ⟨_, rfl⟩
  | y :: ys, acc, d, h => by
    unfold compL at h
    split at h
    · exact compL_lst h
    · split at h
      · exact compL_lst h
      · cases h
    · cases h
theorem bind_ok {α β : Type} {r : R α} {f : α → R β} {y : β} (h : (r >>= f) = .ok y) : ∃ a, r = .ok a ∧ f a = .ok y := by
  cases r with
  | ok a => exact ⟨a, rfl, h⟩
  | exc c as => cases h
  | bad => cases h
theorem isL_lst {ρ : En} {d : D} (h : isL a' = true) (e : evE T call ρ a' = .ok d) : ∃ ds, d = .lst ds := by
  cases a' <;> first | cases h | skip
  · unfold evE at e
    obtain ⟨ds, _, e⟩ := bind_ok e
    split at e
    · cases e; exact ⟨_, rfl⟩
    · cases e
  · rename_i k es
    cases k <;> first | cases h | skip
    · unfold evE at e
      obtain ⟨ds, _, e⟩ := bind_ok e
      unfold biD at e
      split at e <;> first | cases e | skip
      all_goals first | exact ⟨_, rfl⟩ | (rename_i h1 _; cases h1)
    · unfold evE at e
      obtain ⟨ds, _, e⟩ := bind_ok e
      unfold biD at e
      split at e <;> first | (cases e; exact ⟨_, rfl⟩) | (cases e; done) | (rename_i h1 _; cases h1; done) | skip
      all_goals (split at e <;> first | (cases e; exact ⟨_, rfl⟩) | (cases e; done))
  · unfold evE at e
    obtain ⟨ds, _, e⟩ := bind_ok e
    exact compL_lst e
  · unfold evE at e
    obtain ⟨ds, _, e⟩ := bind_ok e
    exact compL_lst e
  · unfold evE at e
    obtain ⟨ds, _, e⟩ := bind_ok e
    split at e
    · cases e
      exact ⟨_, rfl⟩
    · cases e
end
end PV
/-! PV, part h: binary operators, conditional expressions, displays, items, slices, fields. -/
namespace PV
open PySem PySem.Spec PyProof.Rows L2
theorem Wp.monoE {α : Type} {r : R α} {P P' : α → Prop} {Z Z' : Nat → List D → Prop} (h : Wp r P Z) (p : ∀ a, r = .ok a → P a → P' a) (z : ∀ c as, Z c as → Z' c as) : Wp r P' Z' := by
  cases r with
  | ok a => exact p a rfl h
  | exc c as => exact z c as h
  | bad => exact h
section
variable {x : Lx} {T : Tab} {rt : Om} {call : Cal → List D → R D} {Z : Zx} {X : Cx} {pos : Pos} {a b c e : Expr} {a' b' c' e' : E}
theorem twoE {ρ : En} {ω : Om} {σ : L2.St} {F H : Hp} {φ : Nat → List Addr} {a c : E} {o o' : Ow} {β : Type} {f : D → D → R β} {P : β → Prop} {Rr : V → V → Hp → Prop} (s : SR x ρ ω σ F H φ) (ok : okE rt true ω a = some o) (ok' : okE rt true ω c = some o')
    (w : Wp (evE T call ρ a >>= fun d => evE T call ρ c >>= fun e => f d e) P (fun c as => ∀ F' H', Ext F H F' H' → Z σ c as F' H'))
    (k : ∀ d e v u F' H' fp gp, evE T call ρ a = .ok d → evE T call ρ c = .ok e → Ext F H F' H' → Rp x F' H' o v d fp → Rp x F' H' o' u e gp → Wp (f d e) P (fun c as => ∀ F2 H2, Ext F H F2 H2 → Z σ c as F2 H2) → Rr v u H') :
    tV x T rt call Z true a σ H fun v H1 => tV x T rt call Z true c σ H1 fun u H2 => Rr v u H2 :=
  ⟨ρ, ω, F, φ, o, s, ok, w.bind.monoE (fun d hd w1 v F1 H1 fp e1 r1 _ => ⟨ρ, ω, F1, φ, o', s.ext e1, ok', w1.bind.monoE (fun e he w2 u F2 H2 gp e2 r2 _ => k d e v u F2 H2 fp gp hd he (e1.trans e2) (r1.ext e2) r2 w2) fun _ _ z F2 H2 e2 => z F2 H2 (e1.trans e2)⟩) fun _ _ z => z⟩
theorem ok_bin {o : Bop} {bb : Bool} {ω : Om} {p : Ow} (ok : okE rt bb ω (.bin o a' b') = some p) : ∃ oa ob, okE rt true ω a' = some oa ∧ okE rt true ω b' = some ob ∧ oa.flat = true ∧ ob.flat = true ∧
    p = if (decide (o = .add) && (isL a' || isL b')) || (decide (o = .mul) && isL a') then .l .fz else .fz := by
  unfold okE at ok
  cases h : okE rt true ω a' with
  | none => rw [h] at ok; cases ok
  | some oa =>
    cases h2 : okE rt true ω b' with
    | none => rw [h, h2] at ok; cases ok
    | some ob =>
      rw [h, h2] at ok
      have ok : (if (oa.flat && ob.flat) = true then some (if (decide (o = .add) && (isL a' || isL b')) || (decide (o = .mul) && isL a') then Ow.l .fz else .fz) else none) = some p := ok
      split at ok
      · rename_i hf
        simp only [Bool.and_eq_true] at hf
        cases ok
        exact ⟨oa, ob, rfl, rfl, hf.1, hf.2, rfl⟩
      · cases ok
theorem se_bin {o : Bop} (hx : X.K = x.K) (ha : SE x T rt call Z X a a') (hb : SE x T rt call Z X b b') : SE x T rt call Z X (.BinOp a (bopOf o) b pos) (.bin o a' b') := by
  refine SE.of_v (PE.imp (pe_op (op_bin o) ha.b hb.b) fun σ H Q q => ?_) (fun _ => rfl) (fun _ => rfl)
  obtain ⟨ρ, ω, F, φ, p, s, ok, w⟩ := q
  obtain ⟨oa, ob, h1, h2, f1, f2, hp⟩ := ok_bin ok
  refine twoE s h1 h2 w fun d e v u F' H' fp gp ed ee ex ra rb w => ?_
  have hpo : p = .fz ∨ p = .l .fz := by
    rw [hp]
    split
    · exact .inr rfl
    · exact .inl rfl
  -- what is no list is nobody's own
  have nofz : (∀ ds, d ≠ .lst ds) → (∀ ds, e ≠ .lst ds) → p = .fz := fun n1 n2 => by
    rw [hp]
    have i1 : isL a' = false := by
      cases q : isL a' with
      | false => rfl
      | true =>
        obtain ⟨ds, h⟩ := isL_lst q ed
        exact absurd h (n1 ds)
    have i2 : isL b' = false := by
      cases q : isL b' with
      | false => rfl
      | true =>
        obtain ⟨ds, h⟩ := isL_lst q ee
        exact absurd h (n2 ds)
    rw [i1, i2]
    cases o <;> rfl
  have fin : ∀ (r : D) (z : V), (∀ F, Rep x F z r) → (∀ ds, d ≠ .lst ds) → (∀ ds, e ≠ .lst ds) → (∀ v F2 H2 fp, Ext F H F2 H2 → Rp x F2 H2 p v r fp → (false = false → ∀ a ∈ fp, H a = none) → Q v H2) → Q z H' := fun r z hr n1 n2 w => by
    refine w z F' H' [] ex ?_ fun _ _ h => nomatch h
    rw [nofz n1 n2]
    exact ⟨hr F', rfl⟩
  rw [hx]
  cases o with
  | add =>
    cases d <;> first | exact w.elim | skip
    · cases e <;> first | exact w.elim | skip
      exact .inl ⟨_, _, ra.int_of, rb.int_of, fin _ _ (fun _ => .int _) (fun _ h => nomatch h) (fun _ h => nomatch h) w⟩
    · rename_i i
      cases e <;> first | exact w.elim | skip
      rename_i j
      have w : Wp (if i.length + j.length ≤ sizeLine then R.ok (D.str (i ++ j)) else .bad) _ _ := w
      split at w
      · rename_i hz
        exact .inr (.inl ⟨_, _, ra.str_of, rb.str_of, hz, fin _ _ (fun _ => .str _) (fun _ h => nomatch h) (fun _ h => nomatch h) w⟩)
      · exact w.elim
    · rename_i i
      cases e <;> first | exact w.elim | skip
      rename_i j
      have w : Wp (if i.length + j.length ≤ sizeLine then R.ok (D.tup (i ++ j)) else .bad) _ _ := w
      split at w
      · rename_i hz
        have w : ∀ v F2 H2 fp, Ext F H F2 H2 → Rp x F2 H2 p v (.tup (i ++ j)) fp → (false = false → ∀ a ∈ fp, H a = none) → Q v H2 := w
        rw [nofz (fun _ h => nomatch h) (fun _ h => nomatch h)] at w
        obtain ⟨p1, vs, rfl, t1, r1⟩ := ra.tup_of
        obtain ⟨p2, us, rfl, t2, r2⟩ := rb.tup_of
        refine .inr (.inr (.inl ⟨p1, p2, vs, us, rfl, rfl, ex.fh.sqT t1, ex.fh.sqT t2, by rw [r1.length, r2.length]; exact hz, fun e => ?_, fun n e => ?_, fun n1 n2 q nq => newT_fin ex (r1.append r2) nq w⟩))
        · subst e
          cases r1
          exact w _ F' H' [] ex ⟨.tup t2 r2, rfl⟩ fun _ _ h => nomatch h
        · subst e
          cases r2
          refine w _ F' H' [] ex ⟨.tup t1 (by rw [List.append_nil]; exact r1), rfl⟩ fun _ _ h => nomatch h
      · exact w.elim
    · rename_i i
      cases e <;> first | exact w.elim | skip
      rename_i j
      have w : Wp (if i.length + j.length ≤ sizeLine then R.ok (D.lst (i ++ j)) else .bad) _ _ := w
      split at w
      · rename_i hz
        obtain ⟨p1, vs, rfl, t1, r1⟩ := ra.flatL ex.fh f1
        obtain ⟨p2, us, rfl, t2, r2⟩ := rb.flatL ex.fh f2
        exact .inr (.inr (.inr ⟨p1, p2, vs, us, rfl, rfl, t1, t2, by rw [r1.length, r2.length]; exact hz, fun q nq => newL_fin ex (r1.append r2) nq hpo w⟩))
      · exact w.elim
  | sub =>
    cases d <;> first | exact w.elim | skip
    cases e <;> first | exact w.elim | skip
    exact ⟨_, _, ra.int_of, rb.int_of, fin _ _ (fun _ => .int _) (fun _ h => nomatch h) (fun _ h => nomatch h) w⟩
  | mul =>
    cases d <;> first | exact w.elim | skip
    · rename_i i
      cases e <;> first | exact w.elim | skip
      rename_i j
      have w : Wp (if mulOk i j = true then R.ok (D.int (i * j)) else .bad) _ _ := w
      split at w
      · rename_i hz
        exact .inl ⟨_, _, ra.int_of, rb.int_of, of_decide_eq_true (p := i.natAbs.log2 + j.natAbs.log2 < 1000000) hz, fin _ _ (fun _ => .int _) (fun _ h => nomatch h) (fun _ h => nomatch h) w⟩
      · exact w.elim
    · rename_i i
      cases e <;> first | exact w.elim | skip
      rename_i j
      have w : Wp (if -(2 ^ 63) ≤ j ∧ j < 2 ^ 63 ∧ i.length * j.toNat ≤ sizeLine then R.ok (D.lst (List.replicate j.toNat i).flatten) else .bad) _ _ := w
      split at w
      · rename_i hz
        obtain ⟨p1, vs, rfl, t1, r1⟩ := ra.flatL ex.fh f1
        exact .inr ⟨p1, j, vs, rfl, rb.int_of, t1, hz.1, hz.2.1, by rw [r1.length]; exact hz.2.2, fun q nq => newL_fin ex (r1.rep _) nq hpo w⟩
      · exact w.elim
  | fdiv =>
    cases d <;> first | exact w.elim | skip
    rename_i i
    cases e <;> first | exact w.elim | skip
    rename_i j
    have w : Wp (if 0 < j ∧ j.natAbs.log2 < 9000 then R.ok (D.int (i / j)) else if j ≠ 0 ∧ j.natAbs < 1073741824 then .ok (.int (i.fdiv j)) else .bad) _ _ := w
    split at w
    · rename_i hz
      exact .inl ⟨_, _, ra.int_of, rb.int_of, hz, fin _ _ (fun _ => .int _) (fun _ h => nomatch h) (fun _ h => nomatch h) w⟩
    · split at w
      · rename_i hz
        exact .inr ⟨_, _, ra.int_of, rb.int_of, hz, fin _ _ (fun _ => .int _) (fun _ h => nomatch h) (fun _ h => nomatch h) w⟩
      · exact w.elim
  | mod =>
    cases d <;> first | exact w.elim | skip
    rename_i i
    cases e <;> first | exact w.elim | skip
    rename_i j
    have w : Wp (if 0 < j then R.ok (D.int (i % j)) else if j ≠ 0 then .ok (.int (i.fmod j)) else .bad) _ _ := w
    split at w
    · rename_i hz
      exact .inl ⟨_, _, ra.int_of, rb.int_of, hz, fin _ _ (fun _ => .int _) (fun _ h => nomatch h) (fun _ h => nomatch h) w⟩
    · split at w
      · rename_i hz
        exact .inr ⟨_, _, ra.int_of, rb.int_of, hz, fin _ _ (fun _ => .int _) (fun _ h => nomatch h) (fun _ h => nomatch h) w⟩
      · exact w.elim
  | pow =>
    cases d <;> first | exact w.elim | skip
    rename_i i
    cases e <;> first | exact w.elim | skip
    rename_i j
    have w : Wp (if 0 ≤ j ∧ j ≤ 1000000 ∧ i.natAbs < 2 ^ 64 then R.ok (D.int (i ^ j.toNat)) else .bad) _ _ := w
    split at w
    · rename_i hz
      exact ⟨_, _, ra.int_of, rb.int_of, hz, fin _ _ (fun _ => .int _) (fun _ h => nomatch h) (fun _ h => nomatch h) w⟩
    · exact w.elim
end
end PV
/-! PV, part i: arguments, displays, items, slices, fields, conditional expressions. -/
namespace PV
open PySem PySem.Spec PyProof.Rows L2
/-- no star -/
def noStar : Expr → Bool
  | .Starred _ _ => false
  | _ => true
theorem star_of {e : Expr} {es : List Expr} {env : Env} (h : noStar e = true) : starEach (e :: es) env = (false, eval e env) :: starEach es env := by
  cases e <;> first | rfl | cases h
section
variable {x : Lx} {T : Tab} {rt : Om} {call : Cal → List D → R D} {Z : Zx} {X : Cx} {pos : Pos} {a b c e : Expr} {a' b' c' e' : E} {es : List Expr} {es' : Es}
/-- arguments: handed on, read -/
structure SA (x : Lx) (T : Tab) (rt : Om) (call : Cal → List D → R D) (Z : Zx) (X : Cx) (es : List Expr) (es' : Es) : Prop where
  v : PA X es (tVs x T rt call Z es')
  b : PA X es (tBs x T rt call Z es')
  len : es.length = Es.len es'
theorem sa_nil : SA x T rt call Z X [] .nil := by
  refine ⟨PA.imp pa_nil fun σ H Q q => ?_, PA.imp pa_nil fun σ H Q q => ?_, rfl⟩
  · obtain ⟨ρ, ω, F, φ, os, s, ok, w⟩ := q
    have ok : some [] = some os := ok
    cases ok
    exact w [] F H [] (Ext.refl s.fh) .nil (fun _ h => nomatch h) List.nodup_nil
  · obtain ⟨ρ, ω, F, φ, s, ok, w⟩ := q
    exact w [] F H [] [] (Ext.refl s.fh) .nil (fun _ h => nomatch h)
theorem sa_cons (ha : SE x T rt call Z X a a') (hs : SA x T rt call Z X es es') (hn : noStar a = true) : SA x T rt call Z X (a :: es) (.cons a' es') := by
  refine ⟨PA.imp (pa_cons ha.v hs.v (star_of hn)) fun σ H Q q => ?_, PA.imp (pa_cons ha.b hs.b (star_of hn)) fun σ H Q q => ?_, congrArg (· + 1) hs.len⟩
  · obtain ⟨ρ, ω, F, φ, os, s, ok, w⟩ := q
    unfold okEs at ok
    cases h : okE rt false ω a' with
    | none => rw [h] at ok; cases ok
    | some oa =>
      cases h2 : okEs rt ω es' with
      | none => rw [h, h2] at ok; cases ok
      | some ot =>
        rw [h, h2] at ok
        cases ok
        refine one s h w fun d v F1 H1 fp e1 r1 n1 w1 => ?_
        refine ⟨ρ, ω, F1, φ, ot, s.ext e1, h2, w1.bind.mono (fun ds w vs F2 H2 fps e2 r2 n2 nd => ?_) fun _ _ z F2 H2 e2 => z F2 H2 (e1.trans e2)⟩
        refine w (v :: vs) F2 H2 (fp :: fps) (e1.trans e2) (.cons (r1.ext e2) r2) (fun p hp => ?_) ?_
        · rw [List.flatten_cons] at hp
          rcases List.mem_append.mp hp with hp | hp
          · exact n1 rfl p hp
          · have z := n2 p hp
            cases q : H p with
            | none => rfl
            | some u => rw [e1.h p u q] at z; cases z
        · rw [List.flatten_cons, List.nodup_append]
          refine ⟨r1.nd, nd, fun p hp q hq z => ?_⟩
          subst z
          exact (r1.there p hp).1 (n2 p hq)
  · obtain ⟨ρ, ω, F, φ, s, ok, w⟩ := q
    unfold okBs at ok
    cases h : okE rt true ω a' with
    | none => rw [h] at ok; cases ok
    | some oa =>
      cases h2 : okBs rt ω es' with
      | none => rw [h, h2] at ok; cases ok
      | some ot =>
        rw [h, h2] at ok
        have ok : some (oa.flat && ot) = some true := ok
        have ok := Option.some.inj ok
        simp only [Bool.and_eq_true] at ok
        obtain ⟨f1, rfl⟩ := ok
        refine one s h w fun d v F1 H1 fp e1 r1 n1 w1 => ?_
        refine ⟨ρ, ω, F1, φ, s.ext e1, h2, w1.bind.mono (fun ds w vs F2 H2 os fps e2 r2 fs => ?_) fun _ _ z F2 H2 e2 => z F2 H2 (e1.trans e2)⟩
        refine w (v :: vs) F2 H2 (oa :: os) (fp :: fps) (e1.trans e2) (.cons (r1.ext e2) r2) fun o ho => ?_
        rcases List.mem_cons.mp ho with rfl | ho
        · exact f1
        · exact fs o ho
/-- arguments that are handed on, all given up -/
theorem given {F H F' H' : Hp} {os : List Ow} {vs : List V} {ds : List D} {fps : List (List Addr)} (ex : Ext F H F' H') (r : Rps x F' H' os vs ds fps) (n : ∀ a ∈ fps.flatten, H a = none) :
    ∃ G, Ext F H G H' ∧ Reps x G vs ds := ⟨frz F' H' fps.flatten, ex.frz n, r.reps ex.fh fun _ h => h⟩
theorem se_tup {k : Nat} (ha : SA x T rt call Z X es es') : SE x T rt call Z X (.Tuple es k pos) (.tup es') := by
  refine SE.of_v (PE.imp (pe_tup ha.v) fun σ H Q q => ?_) (fun _ => rfl) (fun _ => rfl)
  obtain ⟨ρ, ω, F, φ, o, s, ok, w⟩ := q
  unfold okE at ok
  cases h : okEs rt ω es' with
  | none => rw [h] at ok; cases ok
  | some os =>
    rw [h] at ok
    cases ok
    refine ⟨ρ, ω, F, φ, os, s, h, w.bind.mono (fun ds w vs F' H' fps ex r n nd => ?_) fun _ _ z => z⟩
    have w : Wp (if ds.length ≤ sizeLine then R.ok (D.tup ds) else .bad) _ _ := w
    split at w
    · rename_i hz
      obtain ⟨G, eg, rg⟩ := given ex r n
      exact ⟨by rw [rg.length]; exact hz, fun p np => newT_fin eg rg np w⟩
    · exact w.elim
theorem se_lst (ha : SA x T rt call Z X es es') : SE x T rt call Z X (.List es pos) (.lst es') := by
  refine SE.of_v (PE.imp (pe_lst ha.v) fun σ H Q q => ?_) (fun _ => rfl) (fun _ => rfl)
  obtain ⟨ρ, ω, F, φ, o, s, ok, w⟩ := q
  unfold okE at ok
  cases h : okEs rt ω es' with
  | none => rw [h] at ok; cases ok
  | some os =>
    rw [h] at ok
    cases ok
    refine ⟨ρ, ω, F, φ, os, s, h, w.bind.mono (fun ds w vs F' H' fps ex r n nd => ?_) fun _ _ z => z⟩
    have w : Wp (if ds.length ≤ sizeLine then R.ok (D.lst ds) else .bad) _ _ := w
    split at w
    · rename_i hz
      refine ⟨by rw [r.lv]; exact hz, fun p np => ?_⟩
      obtain ⟨fq, fps', h1, h2, h3, h4, h5⟩ := Rps.lower ex.fh (meets os) r (fun q hq => meets_le hq) nd
      have n' : ∀ a ∈ fps'.flatten, H a = none := fun a ha => n a (h3.subset ha)
      have eg : Ext F H (frz F' H' fq) H' := ex.frz fun a ha => n a (h1 a ha)
      have np' : H p = none := by
        cases q : H p with
        | none => rfl
        | some u => rw [ex.h p u q] at np; cases np
      have e2 : Ext (frz F' H' fq) H' (frz F' H' fq) (upd H' p (.lst vs)) := Ext.own eg.fh np
      have nF : frz F' H' fq p = none := by
        cases q : frz F' H' fq p with
        | none => rfl
        | some u => rw [eg.fh p u q] at np; cases np
      have r5 := h5.ext e2
      refine w (.ref p) _ _ (p :: fps'.flatten) (eg.trans e2) ⟨p, vs, ds, fps', rfl, rfl, upd_same, nF, r5.lv, r5.lf, fun k w e g a1 a2 a3 => r5.at_ k _ w e g (by rw [List.getElem?_map, a2]; rfl) a1 a2 a3, rfl, ?_⟩ fun _ a ha => ?_
      · refine List.nodup_cons.mpr ⟨fun hp => ?_, h3.nodup nd⟩
        obtain ⟨g, hg, hpg⟩ := List.mem_flatten.mp hp
        obtain ⟨k, hk1, hk2⟩ := List.mem_iff_getElem.mp hg
        have l1 : k < vs.length := by rw [h5.lv, ← h5.lf]; exact hk1
        have l2 : k < ds.length := by rw [← h5.lf]; exact hk1
        exact (Rp.there (h5.at_ k (meets os) vs[k] ds[k] g (by simp [l2]) (by simp [l1]) (by simp [l2]) (by rw [← hk2]; simp [hk1])) p hpg).1 np
      · rcases List.mem_cons.mp ha with rfl | ha
        · exact np'
        · exact n' a ha
    · exact w.elim
/-! ### items -/
def plainSub : Expr → Bool
  | .Slice _ _ _ _ => false
  | _ => true
theorem plain_ix {b : Expr} (h : plainSub b = true) : PlainIx b := by
  intro o i
  cases b <;> first | rfl | cases h
theorem atI_map {α β : Type} {f : α → β} {xs : List α} {i : Int} : atI (xs.map f) i = (atI xs i).map f := by
  unfold atI
  rw [List.length_map]
  cases ixN xs.length i with
  | none => rfl
  | some j => simp
theorem Reps.atI {F : Hp} {vs : List V} {ds : List D} {i : Int} {d : D} (r : Reps x F vs ds) (h : L2.atI ds i = some d) : ∃ v, L2.atI vs i = some v ∧ Rep x F v d := by
  unfold L2.atI at h ⊢
  rw [r.length]
  cases q : ixN ds.length i with
  | none => rw [q] at h; cases h
  | some j =>
    rw [q] at h
    have h : ds[j]? = some d := h
    exact r.get h
def elemO : Ow → Option Ow
  | .fz => some .fz
  | .i => none
  | .l o => some o
theorem ok_sub {bb : Bool} {ω : Om} {p : Ow} (ok : okE rt bb ω (.sub a' b') = some p) : ∃ oa ob, okE rt true ω a' = some oa ∧ okE rt true ω b' = some ob ∧ elemO oa = some p ∧ (bb = false → p = .fz) := by
  unfold okE at ok
  cases h : okE rt true ω a' with
  | none => rw [h] at ok; cases ok
  | some oa =>
    cases h2 : okE rt true ω b' with
    | none => rw [h, h2] at ok; cases ok
    | some ob =>
      rw [h, h2] at ok
      cases oa with
      | fz => cases ok; exact ⟨_, _, rfl, rfl, rfl, fun _ => rfl⟩
      | i => cases ok
      | l o =>
        have ok : (if bb = true then some o else if o = .fz then some Ow.fz else none) = some p := ok
        cases bb with
        | true => rw [if_pos rfl] at ok; cases ok; exact ⟨_, _, rfl, rfl, rfl, fun z => nomatch z⟩
        | false =>
          rw [if_neg Bool.false_ne_true] at ok
          split at ok
          · rename_i e; cases ok; subst e; exact ⟨_, _, rfl, rfl, rfl, fun _ => rfl⟩
          · cases ok
theorem se_sub (hx : X.K = x.K) (ha : SE x T rt call Z X a a') (hb : SE x T rt call Z X b b') (hp : plainSub b = true) : SE x T rt call Z X (.Subscript a b pos) (.sub a' b') := by
  have key : ∀ (bb : Bool) σ H (Q : VK), tV x T rt call Z bb (.sub a' b') σ H Q → tOp (rIx X.K) (tV x T rt call Z true a') (tV x T rt call Z true b') σ H Q := fun bb σ H Q q => by
    obtain ⟨ρ, ω, F, φ, o, s, ok, w⟩ := q
    obtain ⟨oa, ob, h1, h2, h3, h4⟩ := ok_sub ok
    refine two s h1 h2 w fun d e v u F' H' fp gp ex ra rb w => ?_
    rw [hx]
    unfold subD at w
    split at w
    · rename_i ds i
      obtain ⟨z, hz, w⟩ := w.of
      obtain ⟨p, vs, rfl, hp, hr⟩ := ra.atL ex.fh
      obtain ⟨y, hy, ry⟩ := Reps.atI hr hz
      refine .inl ⟨p, vs, i, y, rfl, rb.int_of, SqL.of hp, hy, ?_⟩
      cases oa with
      | fz =>
        cases h3
        obtain ⟨ra, _⟩ := ra
        cases ra with
        | lst hf hr' =>
          have hp' := ex.fh _ _ hf
          rw [hp] at hp'
          cases hp'
          obtain ⟨y', hy', ry'⟩ := Reps.atI hr' hz
          rw [hy] at hy'
          cases hy'
          exact w y F' H' [] ex ⟨ry', rfl⟩ fun _ _ h => nomatch h
      | i => cases h3
      | l o' =>
        cases h3
        obtain ⟨p', vs', ds', fps, e1, e2, e3, e4, l1, l2, hk, _, _⟩ := ra
        cases e1
        cases e2
        rw [hp] at e3
        cases e3
        unfold L2.atI at hy
        have hz' : (ixN ds.length i).bind (fun j => ds[j]?) = some z := hz
        rw [l1] at hy
        cases hj : ixN ds.length i with
        | none => rw [hj] at hz'; cases hz'
        | some j =>
          rw [hj] at hy hz'
          have hz' : ds[j]? = some z := hz'
          have hy : vs[j]? = some y := hy
          have hlt : j < fps.length := by
            have := (List.getElem?_eq_some_iff.mp hz').1
            omega
          have rj := hk j y z fps[j] hy hz' (by simp [hlt])
          refine w y F' H' fps[j] ex rj fun hb a ha => ?_
          have := h4 hb
          subst this
          rw [rj.2] at ha
          cases ha
    · rename_i ds i
      obtain ⟨z, hz, w⟩ := w.of
      obtain ⟨p, vs, rfl, hp, hr⟩ := ra.tup_of
      obtain ⟨y, hy, ry⟩ := Reps.atI hr hz
      have : o = .fz := by
        cases oa with
        | fz => cases h3; rfl
        | i => cases h3
        | l o' => obtain ⟨_, _, _, _, _, e, _⟩ := ra; cases e
      subst this
      exact .inr (.inl ⟨p, vs, i, y, rfl, rb.int_of, ex.fh.sqT hp, hy, w y F' H' [] ex ⟨ry, rfl⟩ fun _ _ h => nomatch h⟩)
    · rename_i ns i
      obtain ⟨z, hz, w⟩ := w.of
      obtain ⟨p, rfl, hp⟩ := ra.scr_of
      have : o = .fz := by
        cases oa with
        | fz => cases h3; rfl
        | i => cases h3
        | l o' => obtain ⟨_, _, _, _, _, e, _⟩ := ra; cases e
      subst this
      cases hn : L2.atI ns i with
      | none =>
        have hz : (L2.atI ns i).map D.int = some z := hz
        rw [hn] at hz
        cases hz
      | some n =>
        have hz : (L2.atI ns i).map D.int = some z := hz
        rw [hn] at hz
        cases hz
        exact .inl ⟨p, ns.map V.int, i, .int n, rfl, rb.int_of, ex.fh.sqL hp, by rw [atI_map, hn]; rfl, w _ F' H' [] ex ⟨.int n, rfl⟩ fun _ _ h => nomatch h⟩
    · rename_i z i
      split at w
      · rename_i hl
        obtain ⟨k, hk, w⟩ := w.of
        cases hn : L2.atI z.cps.toList i with
        | none =>
          have hk : (L2.atI z.cps.toList i).map (fun c => D.str ⟨#[c]⟩) = some k := hk
          rw [hn] at hk
          cases hk
        | some n =>
          have hk : (L2.atI z.cps.toList i).map (fun c => D.str ⟨#[c]⟩) = some k := hk
          rw [hn] at hk
          cases hk
          have : o = .fz := by
            cases oa with
            | fz => cases h3; rfl
            | i => cases h3
            | l o' => obtain ⟨_, _, _, _, _, e, _⟩ := ra; cases e
          subst this
          exact .inr (.inr ⟨z, i, n, ra.str_of, rb.int_of, hl, hn, w _ F' H' [] ex ⟨.str _, rfl⟩ fun _ _ h => nomatch h⟩)
      · exact w.elim
    · exact w.elim
  have pb : PE X (.Subscript a b pos) (tV x T rt call Z true (.sub a' b')) := PE.imp (pe_ix ix_seq ha.b hb.b (plain_ix hp)) (key true)
  exact ⟨PE.imp (pe_ix ix_seq ha.b hb.b (plain_ix hp)) (key false), pb, fun _ => PT.imp (pt_val pb (fun _ => rfl)) tT_val⟩
end
end PV
/-! PV, part j: slices, fields, conditional expressions, built-ins. -/
namespace PV
open PySem PySem.Spec PyProof.Rows L2
section
variable {x : Lx} {T : Tab} {rt : Om} {call : Cal → List D → R D} {Z : Zx} {X : Cx} {pos : Pos} {a b c e : Expr} {a' b' c' e' : E} {es : List Expr} {es' : Es}
/-! ### slices -/
def rSlA3 (K : PySem.W.Frag) : V → Option Int → Option Int → Hp → VK → Prop := fun x lo hi H Q => rSlL K x lo hi H Q ∨ rSlA K x lo hi H Q ∨ rSlS x lo hi H Q
theorem sl_any : SlR X (rSlA3 X.K) := sl_list.or (sl_tupA.or sl_str)
theorem cut_reps {F : Hp} {vs : List V} {ds : List D} (r : Reps x F vs ds) (lo hi : Option Int) : Reps x F (cutV vs lo hi) (cutD ds lo hi) := by
  unfold cutV cutD
  rw [r.length]
  exact (r.drop _).take _
theorem slD_fin {F H F' H' : Hp} {oa : Ow} {v : V} {d : D} {fp : List Addr} {lo hi : Option Int} {Q : VK} {bb : Bool} {Y : Nat → List D → Prop} (ex : Ext F H F' H') (ra : Rp x F' H' oa v d fp) (fl : oa.flat = true)
    (w : Wp (slD d lo hi) (fun d => ∀ v F2 H2 fp, Ext F H F2 H2 → Rp x F2 H2 .fz v d fp → (bb = false → ∀ a ∈ fp, H a = none) → Q v H2) Y) : rSlA3 x.K v lo hi H' Q := by
  unfold slD at w
  split at w
  · obtain ⟨p, vs, rfl, hp, hr⟩ := ra.flatL ex.fh fl
    exact .inl ⟨p, vs, rfl, SqL.of hp, fun q nq => newL_fin ex (cut_reps hr lo hi) nq (.inl rfl) w⟩
  · obtain ⟨p, vs, rfl, hp, hr⟩ := ra.tup_of
    refine .inr (.inl ⟨p, vs, rfl, ex.fh.sqT hp, fun hw => ?_, fun _ q nq => newT_fin ex (cut_reps hr lo hi) nq w⟩)
    refine w _ F' H' [] ex ⟨.tup hp ?_, rfl⟩ fun _ _ h => nomatch h
    have e : cutV vs lo hi = vs := by
      unfold cutV
      rw [hw.1, hw.2]
      simp
    have := cut_reps hr lo hi
    rw [e] at this
    exact this
  · split at w
    · rename_i hz
      exact .inr (.inr ⟨_, ra.str_of, hz, w _ F' H' [] ex ⟨.str _, rfl⟩ fun _ _ h => nomatch h⟩)
    · exact w.elim
  · exact w.elim
theorem part_wp {d : D} {P : Option Int → Prop} {Y : Nat → List D → Prop} (w : Wp (partD d) P Y) : ∃ i, d = .int i ∧ P (some i) := by
  cases d <;> first | exact w.elim | exact ⟨_, rfl, w⟩
theorem ok_flat {a' : E} {ω : Om} {o : Ow} (ok : (do if (← okE rt true ω a').flat then some Ow.fz else none : Option Ow) = some o) : ∃ oa, okE rt true ω a' = some oa ∧ oa.flat = true ∧ o = .fz := by
  cases h : okE rt true ω a' with
  | none => rw [h] at ok; cases ok
  | some oa =>
    rw [h] at ok
    have ok : (if oa.flat = true then some Ow.fz else none) = some o := ok
    split at ok
    · rename_i hf; cases ok; exact ⟨oa, rfl, hf, rfl⟩
    · cases ok
theorem se_sl0 {p2 : Pos} (hx : X.K = x.K) (ha : SE x T rt call Z X a a') : SE x T rt call Z X (.Subscript a (.Slice none none none p2) pos) (.sl0 a') := by
  refine SE.of_v (PE.imp (pe_slice sl_any ha.b po_none po_none) fun σ H Q q => ?_) (fun _ => rfl) (fun _ => rfl)
  obtain ⟨ρ, ω, F, φ, o, s, ok, w⟩ := q
  unfold okE at ok
  obtain ⟨oa, h, fl, rfl⟩ := ok_flat ok
  refine one s h w fun d v F' H' fp ex r _ w => ?_
  rw [hx]
  exact slD_fin ex r fl w
theorem se_slL {p2 : Pos} (hx : X.K = x.K) (ha : SE x T rt call Z X a a') (hb : SE x T rt call Z X b b') : SE x T rt call Z X (.Subscript a (.Slice (some b) none none p2) pos) (.slL a' b') := by
  refine SE.of_v (PE.imp (pe_slice sl_any ha.b (po_some hb.b) po_none) fun σ H Q q => ?_) (fun _ => rfl) (fun _ => rfl)
  obtain ⟨ρ, ω, F, φ, o, s, ok, w⟩ := q
  unfold okE at ok
  cases h2 : okE rt true ω b' with
  | none => rw [h2] at ok; cases ok
  | some ob =>
    rw [h2] at ok
    obtain ⟨oa, h, fl, rfl⟩ := ok_flat ok
    refine one s h w fun d v F1 H1 fp e1 r1 _ w1 => ?_
    refine one (s.ext e1) h2 (Wp.mono (show Wp (evE T call ρ b' >>= _) _ _ from w1) (fun _ z => z) fun _ _ z F2 H2 e2 => z F2 H2 (e1.trans e2)) fun d2 v2 F2 H2 fp2 e2 r2 _ w2 => ?_
    obtain ⟨i, rfl, w3⟩ := part_wp w2.bind
    refine ⟨i, r2.int_of, ?_⟩
    rw [hx]
    exact slD_fin (e1.trans e2) (r1.ext e2) fl w3
theorem se_slH {p2 : Pos} (hx : X.K = x.K) (ha : SE x T rt call Z X a a') (hb : SE x T rt call Z X b b') : SE x T rt call Z X (.Subscript a (.Slice none (some b) none p2) pos) (.slH a' b') := by
  refine SE.of_v (PE.imp (pe_slice sl_any ha.b po_none (po_some hb.b)) fun σ H Q q => ?_) (fun _ => rfl) (fun _ => rfl)
  obtain ⟨ρ, ω, F, φ, o, s, ok, w⟩ := q
  unfold okE at ok
  cases h2 : okE rt true ω b' with
  | none => rw [h2] at ok; cases ok
  | some ob =>
    rw [h2] at ok
    obtain ⟨oa, h, fl, rfl⟩ := ok_flat ok
    refine one s h w fun d v F1 H1 fp e1 r1 _ w1 => ?_
    refine one (s.ext e1) h2 (Wp.mono (show Wp (evE T call ρ b' >>= _) _ _ from w1) (fun _ z => z) fun _ _ z F2 H2 e2 => z F2 H2 (e1.trans e2)) fun d2 v2 F2 H2 fp2 e2 r2 _ w2 => ?_
    obtain ⟨i, rfl, w3⟩ := part_wp w2.bind
    refine ⟨i, r2.int_of, ?_⟩
    rw [hx]
    exact slD_fin (e1.trans e2) (r1.ext e2) fl w3
theorem se_slB {p2 : Pos} (hx : X.K = x.K) (ha : SE x T rt call Z X a a') (hb : SE x T rt call Z X b b') (hc : SE x T rt call Z X c c') : SE x T rt call Z X (.Subscript a (.Slice (some b) (some c) none p2) pos) (.slB a' b' c') := by
  refine SE.of_v (PE.imp (pe_slice sl_any ha.b (po_some hb.b) (po_some hc.b)) fun σ H Q q => ?_) (fun _ => rfl) (fun _ => rfl)
  obtain ⟨ρ, ω, F, φ, o, s, ok, w⟩ := q
  unfold okE at ok
  cases h2 : okE rt true ω b' with
  | none => rw [h2] at ok; cases ok
  | some ob =>
    cases h3 : okE rt true ω c' with
    | none => rw [h2, h3] at ok; cases ok
    | some oc =>
      rw [h2, h3] at ok
      obtain ⟨oa, h, fl, rfl⟩ := ok_flat ok
      refine one s h w fun d v F1 H1 fp e1 r1 _ w1 => ?_
      refine one (s.ext e1) h2 (Wp.mono (show Wp (evE T call ρ b' >>= _) _ _ from w1) (fun _ z => z) fun _ _ z F2 H2 e2 => z F2 H2 (e1.trans e2)) fun d2 v2 F2 H2 fp2 e2 r2 _ w2 => ?_
      obtain ⟨i, rfl, w3⟩ := part_wp w2.bind
      refine ⟨i, r2.int_of, ?_⟩
      have e12 := e1.trans e2
      refine one ((s.ext e1).ext e2) h3 (Wp.mono (show Wp (evE T call ρ c' >>= _) _ _ from w3) (fun _ z => z) fun _ _ z F3 H3 e3 => z F3 H3 (e2.trans e3)) fun d3 v3 F3 H3 fp3 e3 r3 _ w4 => ?_
      obtain ⟨j, rfl, w5⟩ := part_wp w4.bind
      refine ⟨j, r3.int_of, ?_⟩
      rw [hx]
      exact slD_fin (e12.trans e3) ((r1.ext e2).ext e3) fl w5
/-! ### conditional expressions -/
theorem se_ife (hc : SE x T rt call Z X c c') (hn : notIf c' = true) (ha : SE x T rt call Z X a a') (hb : SE x T rt call Z X b b') : SE x T rt call Z X (.IfExp c a b pos) (.ife c' a' b') := by
  have p : PE X (.IfExp c a b pos) (tV x T rt call Z false (.ife c' a' b')) := PE.imp (pe_ifExp (hc.t hn) ha.v hb.v) fun σ H Q q => by
    obtain ⟨ρ, ω, F, φ, o, s, ok, w⟩ := q
    unfold okE at ok
    cases h1 : okE rt true ω c' with
    | none => rw [h1] at ok; cases ok
    | some oc =>
      cases h2 : okE rt false ω a' with
      | none => rw [h1, h2] at ok; cases ok
      | some oa =>
        cases h3 : okE rt false ω b' with
        | none => rw [h1, h2, h3] at ok; cases ok
        | some ob =>
          rw [h1, h2, h3] at ok
          cases ok
          refine ⟨ρ, ω, F, φ, oc, s, h1, w.bind.mono (fun d w F1 H1 e1 => ?_) fun _ _ z => z⟩
          obtain ⟨k, rfl, w⟩ := bool_wp w.bind
          refine ⟨k, rfl, ?_⟩
          have low : ∀ {o' : Ow} {d : D} {v : V} {F2 H2 : Hp} {fp : List Addr}, (oa.meet ob).le o' = true → Ext F1 H1 F2 H2 → Rp x F2 H2 o' v d fp → (∀ a ∈ fp, H1 a = none) →
              (∀ v F' H' fp, Ext F H F' H' → Rp x F' H' (oa.meet ob) v d fp → (false = false → ∀ a ∈ fp, H a = none) → Q v H') → Q v H2 := fun {o' d v F2 H2 fp} le e2 r n w => by
            obtain ⟨fq, fp', i1, i2, i3, i4⟩ := Rp.lower (o' := oa.meet ob) e2.fh r le r.nd
            have up : ∀ a, H1 a = none → H a = none := fun a z => by
              cases q : H a with
              | none => rfl
              | some u => rw [e1.h a u q] at z; cases z
            exact w v (frz F2 H2 fq) H2 fp' (e1.trans (e2.frz fun a ha => n a (i1 a ha))) i4 fun _ a ha => up a (n a (i2.subset ha))
          cases k with
          | true =>
            show (if true = true then tV x T rt call Z false a' σ H1 Q else tV x T rt call Z false b' σ H1 Q)
            rw [if_pos rfl]
            exact ⟨ρ, ω, F1, φ, oa, s.ext e1, h2, Wp.mono (show Wp (evE T call ρ a') _ _ from w) (fun d w v F2 H2 fp e2 r n => low (Ow.meet_le _ _) e2 r (n rfl) w) fun _ _ z F2 H2 e2 => z F2 H2 (e1.trans e2)⟩
          | false =>
            show (if false = true then tV x T rt call Z false a' σ H1 Q else tV x T rt call Z false b' σ H1 Q)
            rw [if_neg Bool.false_ne_true]
            exact ⟨ρ, ω, F1, φ, ob, s.ext e1, h3, Wp.mono (show Wp (evE T call ρ b') _ _ from w) (fun d w v F2 H2 fp e2 r n => low (Ow.meet_le2 _ _) e2 r (n rfl) w) fun _ _ z F2 H2 e2 => z F2 H2 (e1.trans e2)⟩
  exact ⟨p, PE.imp p (tV_up fun _ => rfl), fun z => nomatch z⟩
/-! ### fields -/
theorem lookup_an {F : Hp} (inj : ∀ f g, x.an f = x.an g → f = g) {f : Nat} {d : D} : ∀ {fvs : List (Str × V)} {fs : List (Nat × D)}, fvs.map (·.1) = fs.map (fun p => x.an p.1) → Reps x F (fvs.map (·.2)) (fs.map (·.2)) → lookF f fs = some d →
    ∃ v, fvs.lookup (x.an f) = some v ∧ Rep x F v d
  | [], [], _, _, h => nomatch h
  | (y, v) :: fvs, (g, e) :: fs, hm, hr, h => by
    have h1 : y = x.an g := (List.cons.inj hm).1
    have h2 := (List.cons.inj hm).2
    subst h1
    cases hr with
    | cons r t =>
      unfold lookF at h
      by_cases hfg : f = g
      · subst hfg
        simp at h
        subst h
        exact ⟨v, by simp [List.lookup], r⟩
      · have hb : (f == g) = false := by simpa using hfg
        rw [hb] at h
        obtain ⟨w, hw, rw'⟩ := lookup_an inj h2 t (by simpa using h)
        refine ⟨w, ?_, rw'⟩
        have hne : (x.an f == x.an g) = false := by
          simp only [beq_eq_false_iff_ne, ne_eq]
          exact fun z => hfg (inj _ _ z)
        simp only [List.lookup, hne]
        exact hw
  | [], _ :: _, hm, _, _ => nomatch hm
  | _ :: _, [], hm, _, _ => nomatch hm
def plainAtt : Expr → Bool
  | .Call (.Name _ _) [] [] _ => false
  | _ => true
theorem att_base {o : Expr} {f : Str} {env : Env} {whole : Sem Value} (h : plainAtt o = true) : attributeBase o f env whole = whole := by
  unfold attributeBase
  split
  · cases h
  · rfl
/-- what the module says of a plain class -/
structure ClsF (K : PySem.W.Frag) (C : Addr) : Prop where
  cl : Cls K C
  ca : PySem.W.findIn K (.ref C) "__class__" = some (some (.builtin "object.__class__"))
  cg : PySem.W.specialIn K (.builtin "object.__class__") "__get__" = some (some (.builtin "getset_descriptor.__get__"))
  ct : PySem.W.takesIn K (.builtin "object.__class__") = some true
  cm : PySem.W.mroIn K C (.type "object") = some true
theorem Rp.no_exn {F H : Hp} {o : Ow} {v : V} {k : Nat} {as : List D} {fp : List Addr} (h : Rp x F H o v (.exn k as) fp) : False := by
  cases o with
  | fz => obtain ⟨h, _⟩ := h; cases h
  | i => obtain ⟨_, _, _, _, _, _, e, _⟩ := h; cases e
  | l o => obtain ⟨_, _, _, _, _, e, _⟩ := h; cases e
theorem se_attr {f : Nat} {y : Str} (hx : X.K = x.K) (inj : ∀ f g, x.an f = x.an g → f = g) (hy : x.an f = y)
    (hc : ∀ c q, T.cls[c]? = some q → f ∈ q.flds → Cls x.K (x.cA c) ∧ NoAttr x.K (x.cA c) (x.an f)) (ha : SE x T rt call Z X a a') (hp : plainAtt a = true) :
    SE x T rt call Z X (.Attribute a y pos) (.attr a' f) := by
  subst hy
  refine SE.of_v (PE.imp (pe_fld ha.b (att_base hp)) fun σ H Q q => ?_) (fun _ => rfl) (fun _ => rfl)
  obtain ⟨ρ, ω, F, φ, o, s, ok, w⟩ := q
  unfold okE at ok
  cases h : okE rt true ω a' with
  | none => rw [h] at ok; cases ok
  | some oa =>
    rw [h] at ok
    have ho : o = .fz ∧ ∀ p, oa ≠ .l p := by
      cases oa <;> first | (cases ok; exact ⟨rfl, fun _ z => nomatch z⟩) | cases ok
    obtain ⟨rfl, hl⟩ := ho
    refine ⟨ρ, ω, F, φ, oa, s, h, w.bind.monoE (fun d hd w v F' H' fp ex r _ => ?_) fun _ _ z => z⟩
    rw [hx]
    cases d <;> first | exact w.elim | skip
    · rename_i c fs
      have w : Wp (if ((T.cls[c]?).map fun q => q.flds.contains f) = some true then R.of (lookF f fs) else .bad) _ _ := w
      split at w
      · rename_i hq
        obtain ⟨z, hz, w⟩ := w.of
        cases hT : T.cls[c]? with
        | none => rw [hT] at hq; cases hq
        | some q =>
          rw [hT] at hq
          have hq : some (q.flds.contains f) = some true := hq
          have hf : f ∈ q.flds := by simpa using Option.some.inj hq
          obtain ⟨C1, C2⟩ := hc c q hT hf
          have rh := r
          cases oa with
          | l p => exact absurd rfl (hl p)
          | fz =>
            obtain ⟨r, _⟩ := r
            cases r with
            | ins e1 e2 e3 =>
              obtain ⟨u, hu, ru⟩ := lookup_an inj e2 e3 hz
              exact ⟨_, _, _, _, u, rfl, ex.fh _ _ e1, C1, C2, hu, w u F' H' [] ex ⟨ru, rfl⟩ fun _ _ h => nomatch h⟩
          | i =>
            obtain ⟨p, dx, c2, fvs, fs2, rfl, e0, e1, _, e2, e3, _⟩ := r
            cases e0
            obtain ⟨u, hu, ru⟩ := lookup_an inj e2 e3 hz
            exact ⟨_, _, _, _, u, rfl, e1, C1, C2, hu, w u F' H' [] ex ⟨ru, rfl⟩ fun _ _ h => nomatch h⟩
      · exact w.elim
    · exact r.no_exn.elim
end
end PV
/-! PV, part k: calls of defs, of classes. -/
namespace PV
open PySem PySem.Spec PyProof.Rows L2
/-- what an exception wants that leaves -/
def Zof (x : Lx) (T : Tab) (W : WX) : Zx := fun σ c as F' H' => ∀ dd, XRep x T F' H' c as dd → W (.ref (x.cA c)) dd σ H'
/-- a def's promise: what its call, reckoned, gives -/
def spD (x : Lx) (T : Tab) (rt : Om) (call : Cal → List D → R D) (f np : Nat) : Sp := fun vs H Q E => ∃ (F : Hp) (ds : List D), Sub F H ∧ Reps x F vs ds ∧ ds.length = np ∧
  Wp (call (.fn f) ds) (fun d => ∀ v F' H' fp, Ext F H F' H' → Rp x F' H' (og rt f) v d fp → (∀ a ∈ fp, H a = none) → Q v H') (fun c as => ∀ F' H' dd, Ext F H F' H' → XRep x T F' H' c as dd → E (.ref (x.cA c)) dd H')
/-- .. of an __init__: the instance is filled -/
def spI (x : Lx) (T : Tab) (call : Cal → List D → R D) (c np : Nat) : Sp := fun vs H Q E => ∃ (F : Hp) (ds : List D) (us : List V) (a dx : Addr), Sub F H ∧ vs = .ref a :: us ∧ H a = some (.ins (x.cA c) dx []) ∧ F a = none ∧ Reps x F us ds ∧ ds.length + 1 = np ∧
  Wp (call (.ini c) ds) (fun d => ∀ F' H', Sub F F' → Sub F' H' → (∀ b o, b ≠ a → H b = some o → H' b = some o) → (∀ b o, F' b = some o → F b = none → b ≠ a → H b = none) → Rp x F' H' .i (.ref a) d [a] → Q .non H')
    (fun k as => ∀ F' H' dd, Sub F F' → Sub F' H' → (∀ b o, b ≠ a → H b = some o → H' b = some o) → (∀ b o, F' b = some o → F b = none → b ≠ a → H b = none) → XRep x T F' H' k as dd → E (.ref (x.cA k)) dd H')
section
variable {X : Cx} {CX : CXT} {k : Nat} {f C : Addr} {fd : FuncData} {ps : List Str} {sp : Sp} {dvs : List V} {ds : List Value} {E : L2.St → XK} {y : Str} {p pos : Pos} {e : Expr} {es : List Expr} {t : TA}
theorem pe_call0SD (F : FnOk X.prog X.w X.K X.mg X.base CX k f fd ps sp) (hr : Room k X.A) (hg : Gl X y) (hm : X.mg y = some (.ref f)) (hk : PySem.W.keepIn X.K (.ref f) = true) (hb : Binds X.K fd ps ds) (hd : Vals dvs ds) (hx : ∀ σ, PassesAt CX X σ (E σ))
    (hdb : (y == ("__debug__" : Str)) = false) : PE X (.Call (.Name y p) [] [] pos) (tCallSD sp dvs E tNil) := by
  refine ⟨fun pins s σ H Q I h => ?_⟩
  refine wpAny_Call_Name_kw (ld_glob I hg hm ?_ hdb)
  exact PySem.W.callWith_K0 I.kIn hk (run_fnSD (us := []) F hr hb hd (hx σ) I .nil h)
def tMakeSD (C : Addr) (sp : Sp) (dvs : List V) (E : L2.St → XK) (t : TA) : TE := fun σ H Q => t σ H fun vs H1 => ∀ x dx, H1 x = none → H1 dx = none → dx ≠ x →
  sp (.ref x :: (vs ++ dvs)) (upd (upd H1 dx (.own x)) x (.ins C dx [])) (fun v H2 => v = .non ∧ Q (.ref x) H2) (E σ)
theorem run_makeSD {pins : List (Addr × Obj)} {σ : L2.St} {H : Hp} {s : Shared} {Q : VK} {us : List Value} {vs : List V} (M : Mk X.K C f) (F : FnOk X.prog X.w X.K X.mg X.base CX k f fd ps sp) (hr : Room (k + 1) X.A) (hb : Binds X.K fd ps ds) (hd : Vals dvs ds)
    (hx : PassesAt CX X σ (E σ)) (I : Inv X pins σ H s) (r : Vals vs us)
    (h : ∀ x dx, H x = none → H dx = none → dx ≠ x → sp (.ref x :: (vs ++ dvs)) (upd (upd H dx (.own x)) x (.ins C dx [])) (fun v H2 => v = .non ∧ Q (.ref x) H2) (E σ)) :
    wpAny (model X.prog X.w) X.A (PySem.call (.ref C) us) (EP X pins σ Q) X.xe s := by
  have hq := h (s.heap.objs.size + 1) s.heap.objs.size (I.hok.fresh (Nat.le_succ _)) (I.hok.fresh (Nat.le_refl _)) (Nat.ne_of_lt (Nat.lt_succ_self _))
  have I2 := Inv.made (C := C) I
  have r2 : Vals (V.ref (s.heap.objs.size + 1) :: (vs ++ dvs)) (Value.ref (s.heap.objs.size + 1) :: (us ++ ds)) := .cons rfl (r.append hd)
  have hl : (Value.ref (s.heap.objs.size + 1) :: us ++ ds).length = ps.length := by
    have e := r2.length
    rw [F.len _ _ _ _ hq] at e
    exact e.symm
  refine wpAny_call (make_map (f := f) I.kIn M.makes M.init (beq_iff_eq.mp M.fn) (codeAny_mono (F.run _ X.stack _ _ ⟨Value.ref (s.heap.objs.size + 1) :: us, []⟩ (Value.ref (s.heap.objs.size + 1) :: (us ++ ds)) _ _ (E σ) (hr.make C us [])
    (I2.env0.make C us []) (hb _ (Value.ref (s.heap.objs.size + 1) :: us) I2.kIn hl) r2 hq) fun r s' hq' => ?_))
  cases r with
  | error e => exact hx pins _ _ e s' I2 hq'
  | ok fl =>
    cases fl with
    | ret u =>
      obtain ⟨v, H', I3, rv, ev, q3⟩ := I2.after hq'
      subst ev
      exact ⟨rv, ⟨V.ref (s.heap.objs.size + 1), H', I3, rfl, q3⟩⟩
    | next => exact False.elim hq'
    | brk => exact False.elim hq'
    | cont => exact False.elim hq'
theorem pe_makeSD (M : Mk X.K C f) (F : FnOk X.prog X.w X.K X.mg X.base CX k f fd ps sp) (hr : Room (k + 1) X.A) (hg : Gl X y) (hm : X.mg y = some (.ref C)) (hb : Binds X.K fd ps ds) (hd : Vals dvs ds) (hx : ∀ σ, PassesAt CX X σ (E σ))
    (ha : PA X (e :: es) t) (hdb : (y == ("__debug__" : Str)) = false) (he : starEach (e :: es) X.env = (false, eval e X.env) :: starEach es X.env) (hpl : (backTo pos (starEach es X.env)).any (·.1) = false) :
    PE X (.Call (.Name y p) (e :: es) [] pos) (tMakeSD C sp dvs E t) := by
  refine ⟨fun pins s σ H Q I h => ?_⟩
  refine wpAny_Call_Name_kw (ld_glob I hg hm ?_ hdb)
  refine PySem.W.callWith_K (h₀ := X.base) I.ok.mod.kin M.kp (thn (ha.run pos pins s σ H _ I h) fun us s1 ⟨vs, H1, I1, r, q⟩ => ⟨I1.kIn, ?_⟩) he hpl
  exact run_makeSD M F hr hb hd (hx σ) I1 r q
theorem pe_make0SD (M : Mk X.K C f) (F : FnOk X.prog X.w X.K X.mg X.base CX k f fd ps sp) (hr : Room (k + 1) X.A) (hg : Gl X y) (hm : X.mg y = some (.ref C)) (hb : Binds X.K fd ps ds) (hd : Vals dvs ds) (hx : ∀ σ, PassesAt CX X σ (E σ))
    (hdb : (y == ("__debug__" : Str)) = false) : PE X (.Call (.Name y p) [] [] pos) (tMakeSD C sp dvs E tNil) := by
  refine ⟨fun pins s σ H Q I h => ?_⟩
  refine wpAny_Call_Name_kw (ld_glob I hg hm ?_ hdb)
  exact PySem.W.callWith_K0 I.kIn M.kp (run_makeSD (us := []) M F hr hb hd (hx σ) I .nil h)
end
def noStars : List Expr → Bool
  | [] => true
  | e :: es => noStar e && noStars es
theorem stars_any {pos : Pos} {env : Env} : ∀ {es : List Expr}, noStars es = true → (backTo pos (starEach es env)).any (·.1) = false
  | [], _ => rfl
  | e :: es, h => by
    unfold noStars at h
    simp only [Bool.and_eq_true] at h
    rw [star_of h.1]
    show (false || (backTo pos (starEach es env)).any (·.1)) = false
    rw [stars_any h.2]
    rfl
section
variable {x : Lx} {T : Tab} {rt : Om} {call : Cal → List D → R D} {W : WX} {X : Cx} {pos : Pos} {es : List Expr} {es' : Es}
/-- what is known of a def -/
structure FnF (X : Cx) (x : Lx) (T : Tab) (rt : Om) (call : Cal → List D → R D) (n f : Nat) (y : Str) : Prop where
  ex : ∃ (a : Addr) (fd : FuncData) (ps : List Str) (F : Fn), T.fns[f]? = some F ∧ X.mg y = some (.ref a) ∧ PySem.W.keepIn X.K (.ref a) = true ∧ FnOk X.prog X.w X.K X.mg X.base (L2.CX X.prog X.w) n a fd ps (spD x T rt call f F.np) ∧ Room n X.A ∧
    ∀ k, k ≤ F.np → F.np ≤ k + F.dfl.length → ∃ (dvs : List V) (ds : List Value), Binds X.K fd ps ds ∧ Vals dvs ds ∧ Reps x (fun _ => none) dvs (F.dfl.drop (F.dfl.length - (F.np - k))) ∧
      ∀ es : List D, es.length = k → call (.fn f) (es ++ F.dfl.drop (F.dfl.length - (F.np - k))) = call (.fn f) es
theorem evEs_len {ρ : En} : ∀ {es' : Es} {ds : List D}, evEs T call ρ es' = .ok ds → ds.length = Es.len es'
  | .nil, ds, h => by cases h; rfl
  | .cons e es, ds, h => by
    unfold evEs at h
    obtain ⟨d, _, h⟩ := bind_ok h
    obtain ⟨ds', h2, h⟩ := bind_ok h
    cases h
    exact congrArg (· + 1) (evEs_len h2)
theorem Es.nil_of : ∀ {es' : Es}, Es.len es' = 0 → es' = .nil
  | .nil, _ => rfl
  | .cons _ _, h => nomatch h
theorem no_up {F H F' H' : Hp} (e : Ext F H F' H') {a : Addr} (z : H' a = none) : H a = none := by
  cases q : H a with
  | none => rfl
  | some u => rw [e.h a u q] at z; cases z
theorem ok_call {bb : Bool} {ω : Om} {f : Nat} {o : Ow} (ok : okE rt bb ω (.call f es') = some o) : ∃ os, okEs rt ω es' = some os ∧ o = og rt f := by
  unfold okE at ok
  cases h : okEs rt ω es' with
  | none => rw [h] at ok; cases ok
  | some os => rw [h] at ok; cases ok; exact ⟨os, rfl, rfl⟩
theorem se_call {n f : Nat} {y : Str} {p : Pos} (hg : Gl X y) (hd : (y == ("__debug__" : Str)) = false) (tk : Takes X W) (FF : FnF X x T rt call n f y) (ha : SA x T rt call (Zof x T W) X es es') (hs : noStars es = true)
    (hk : ∀ F, T.fns[f]? = some F → Es.len es' ≤ F.np ∧ F.np ≤ Es.len es' + F.dfl.length) : SE x T rt call (Zof x T W) X (.Call (.Name y p) es [] pos) (.call f es') := by
  obtain ⟨a, fd, ps, F, hF, hm, hkp, FO, hr, hb⟩ := FF.ex
  obtain ⟨k1, k2⟩ := hk F hF
  obtain ⟨dvs, dds, hB, hV, hR, hC⟩ := hb _ k1 k2
  have P : PE X (.Call (.Name y p) es [] pos) (tCallSD (spD x T rt call f F.np) dvs (WE W) (tVs x T rt call (Zof x T W) es')) := by
    cases es with
    | nil =>
      have e : es' = .nil := Es.nil_of ha.len.symm
      subst e
      refine PE.imp (pe_call0SD FO hr hg hm hkp hB hV (fun σ => passAt tk σ) hd) fun σ H Q q => ?_
      obtain ⟨ρ, ω, G, φ, os, s, ok, w⟩ := q
      have ok : some [] = some os := ok
      cases ok
      exact w [] G H [] (Ext.refl s.fh) .nil (fun _ h => nomatch h) List.nodup_nil
    | cons e es =>
      unfold noStars at hs
      simp only [Bool.and_eq_true] at hs
      exact pe_callSD FO hr hg hm hkp hB hV (fun σ => passAt tk σ) ha.v hd (star_of hs.1) (stars_any hs.2)
  refine SE.of_v (PE.imp P fun σ H Q q => ?_) (fun _ => rfl) (fun _ => rfl)
  obtain ⟨ρ, ω, G, φ, o, s, ok, w⟩ := q
  obtain ⟨os, h, rfl⟩ := ok_call ok
  refine ⟨ρ, ω, G, φ, os, s, h, w.bind.monoE (fun ds hds w vs F' H' fps ex r nn nd => ?_) fun _ _ z => z⟩
  obtain ⟨G2, eg, rg⟩ := given ex r nn
  have hl := evEs_len hds
  refine ⟨G2, ds ++ F.dfl.drop (F.dfl.length - (F.np - Es.len es')), eg.fh, rg.append (hR.mono fun _ _ h => by cases h), ?_, ?_⟩
  · rw [List.length_append, List.length_drop, hl]
    omega
  · rw [hC ds hl]
    exact w.mono (fun d w v F2 H2 fp e2 r2 n2 => w v F2 H2 fp (eg.trans e2) r2 fun _ a ha => no_up eg (n2 a ha)) fun c as z F2 H2 dd e2 xr => z F2 H2 (eg.trans e2) dd xr
/-- what is known of a class that is made -/
structure MkF (X : Cx) (x : Lx) (T : Tab) (call : Cal → List D → R D) (n c : Nat) (y : Str) : Prop where
  ex : ∃ (call0 : Cal → List D → R D) (a : Addr) (fd : FuncData) (ps : List Str) (F : Fn) (q : Cl) (f : Nat), T.cls[c]? = some q ∧ q.init = some f ∧ T.fns[f]? = some F ∧ X.mg y = some (.ref (x.cA c)) ∧ Mk X.K (x.cA c) a ∧
    FnOk X.prog X.w X.K X.mg X.base (L2.CX X.prog X.w) n a fd ps (spI x T call0 c F.np) ∧ Room (n + 1) X.A ∧ (∀ ds, call (.mk c) ds = call0 (.ini c) ds) ∧
    ∀ k, k + 1 + F.dfl.length = F.np → ∃ (dvs : List V) (ds : List Value), Binds X.K fd ps ds ∧ Vals dvs ds ∧ Reps x (fun _ => none) dvs (F.dfl.drop (F.dfl.length - (F.np - (k + 1)))) ∧
      ∀ es : List D, es.length = k → call0 (.ini c) (es ++ F.dfl.drop (F.dfl.length - (F.np - (k + 1)))) = call0 (.ini c) es
/-- what stands behind a class is made -/
theorem mk_fin {c np : Nat} {F H F' H' : Hp} {vs : List V} {ds : List D} {σ : L2.St} {Q : VK} (ex : Ext F H F' H') (r : Reps x F' vs ds) (hl : ds.length + 1 = np)
    (w : Wp (call (.ini c) ds) (fun d => ∀ v F2 H2 fp, Ext F H F2 H2 → Rp x F2 H2 .fz v d fp → (false = false → ∀ a ∈ fp, H a = none) → Q v H2) (fun k as => ∀ F2 H2, Ext F H F2 H2 → Zof x T W σ k as F2 H2)) :
    ∀ a dx, H' a = none → H' dx = none → dx ≠ a → spI x T call c np (.ref a :: vs) (upd (upd H' dx (.own a)) a (.ins (x.cA c) dx [])) (fun v H2 => v = .non ∧ Q (.ref a) H2) (WE W σ) := fun a dx na ndx hne => by
  have nF : ∀ {b}, H' b = none → F' b = none := fun {b} z => by
    cases q : F' b with
    | none => rfl
    | some u => rw [ex.fh b u q] at z; cases z
  have old : ∀ b o, H' b = some o → (upd (upd H' dx (.own a)) a (.ins (x.cA c) dx [])) b = some o := fun b o q => by
    rw [upd_ne (ne_of_none q na), upd_ne (ne_of_none q ndx)]; exact q
  have eN : Ext F' H' F' (upd (upd H' dx (.own a)) a (.ins (x.cA c) dx [])) := ⟨fun _ _ h => h, old, fun b o q => old b o (ex.fh b o q), fun b o q n => by rw [n] at q; cases q⟩
  have back : ∀ {F2 H2 : Hp}, Sub F' F2 → Sub F2 H2 → (∀ b o, b ≠ a → (upd (upd H' dx (.own a)) a (.ins (x.cA c) dx [])) b = some o → H2 b = some o) →
      (∀ b o, F2 b = some o → F' b = none → b ≠ a → (upd (upd H' dx (.own a)) a (.ins (x.cA c) dx [])) b = none) → Ext F' H' F2 H2 := fun {F2 H2} s1 s2 k nw =>
    ⟨s1, fun b o q => k b o (ne_of_none q na) (old b o q), s2, fun b o q n => by
      by_cases hba : b = a
      · rw [hba]; exact na
      have z := nw b o q n hba
      cases q2 : H' b with
      | none => rfl
      | some u => rw [old b u q2] at z; cases z⟩
  refine ⟨F', ds, vs, a, dx, eN.fh, rfl, upd_same, nF na, r, hl, w.mono (fun d w F2 H2 s1 s2 k nw ri => ⟨rfl, ?_⟩) fun k2 as z F2 H2 dd s1 s2 k nw xr => z F2 H2 (ex.trans (back s1 s2 k nw)) dd xr⟩
  have e2 := back s1 s2 k nw
  refine w (.ref a) (frz F2 H2 [a]) H2 [] (ex.trans (e2.frz fun b hb => ?_)) ⟨ri.rep s2, rfl⟩ fun _ _ h => nomatch h
  have : b = a := by simpa using hb
  subst this
  exact na
theorem se_mk {n c : Nat} {y : Str} {p : Pos} (hg : Gl X y) (hd : (y == ("__debug__" : Str)) = false) (tk : Takes X W) (FF : MkF X x T call n c y) (ha : SA x T rt call (Zof x T W) X es es') (hs : noStars es = true)
    (hk : ∀ q f F, T.cls[c]? = some q → q.init = some f → T.fns[f]? = some F → Es.len es' + 1 + F.dfl.length = F.np) : SE x T rt call (Zof x T W) X (.Call (.Name y p) es [] pos) (.mk c es') := by
  obtain ⟨call0, a, fd, ps, F, q, f, hq, hf, hF, hm, M, FO, hr, hcm, hb⟩ := FF.ex
  have k1 := hk q f F hq hf hF
  obtain ⟨dvs, dds, hB, hV, hR, hC⟩ := hb _ k1
  have P : PE X (.Call (.Name y p) es [] pos) (tMakeSD (x.cA c) (spI x T call0 c F.np) dvs (WE W) (tVs x T rt call (Zof x T W) es')) := by
    cases es with
    | nil =>
      have e : es' = .nil := Es.nil_of ha.len.symm
      subst e
      refine PE.imp (pe_make0SD M FO hr hg hm hB hV (fun σ => passAt tk σ) hd) fun σ H Q q => ?_
      obtain ⟨ρ, ω, G, φ, os, s, ok, w⟩ := q
      have ok : some [] = some os := ok
      cases ok
      exact w [] G H [] (Ext.refl s.fh) .nil (fun _ h => nomatch h) List.nodup_nil
    | cons e es =>
      unfold noStars at hs
      simp only [Bool.and_eq_true] at hs
      exact pe_makeSD M FO hr hg hm hB hV (fun σ => passAt tk σ) ha.v hd (star_of hs.1) (stars_any hs.2)
  refine SE.of_v (PE.imp P fun σ H Q q => ?_) (fun _ => rfl) (fun _ => rfl)
  obtain ⟨ρ, ω, G, φ, o, s, ok, w⟩ := q
  have ok2 : ∃ os, okEs rt ω es' = some os ∧ o = .fz := by
    unfold okE at ok
    cases h : okEs rt ω es' with
    | none => rw [h] at ok; cases ok
    | some os => rw [h] at ok; cases ok; exact ⟨os, rfl, rfl⟩
  obtain ⟨os, h, rfl⟩ := ok2
  refine ⟨ρ, ω, G, φ, os, s, h, w.bind.monoE (fun ds hds w vs F' H' fps ex r nn nd => ?_) fun _ _ z => z⟩
  obtain ⟨G2, eg, rg⟩ := given ex r nn
  have hl := evEs_len hds
  refine mk_fin (T := T) eg (rg.append (hR.mono fun _ _ h => by cases h)) ?_ ?_
  · rw [List.length_append, List.length_drop, hl]
    omega
  · rw [hC ds hl, ← hcm]
    exact w
end
end PV
/-! PV, part l: classes made with keywords, built-ins, isinstance. -/
namespace PV
open PySem PySem.Spec PyProof.Rows L2
section
variable {X : Cx} {CX : CXT} {k n : Nat} {f C : Addr} {fd : FuncData} {ps ks : List Str} {sp : Sp} {E : L2.St → XK} {y : Str} {p pos : Pos} {e : Expr} {es : List Expr} {kws : List Keyword} {t tk : TA} {g : List Value → List Value → List Value} {gV : List V → List V → List V}
def tMakeKS (C : Addr) (n m : Nat) (sp : Sp) (gV : List V → List V → List V) (E : L2.St → XK) (t tk : TA) : TE := fun σ H Q => t σ H fun vs H1 => tk σ H1 fun zs H2 => vs.length = n ∧ zs.length = m ∧
  ∀ x dx, H2 x = none → H2 dx = none → dx ≠ x → sp (gV (.ref x :: vs) zs) (upd (upd H2 dx (.own x)) x (.ins C dx [])) (fun v H3 => v = .non ∧ Q (.ref x) H3) (E σ)
theorem run_makeKS {pins : List (Addr × Obj)} {σ : L2.St} {H : Hp} {s : Shared} {Q : VK} {us ws : List Value} {vs zs : List V} (M : Mk X.K C f) (F : FnOk X.prog X.w X.K X.mg X.base CX k f fd ps sp) (hr : Room (k + 1) X.A) (hb : KBn X.K fd ps (n + 1) ks g gV)
    (hx : PassesAt CX X σ (E σ)) (I : Inv X pins σ H s) (r : Vals vs us) (rz : Vals zs ws) (l1 : vs.length = n) (l2 : zs.length = ks.length)
    (h : ∀ x dx, H x = none → H dx = none → dx ≠ x → sp (gV (.ref x :: vs) zs) (upd (upd H dx (.own x)) x (.ins C dx [])) (fun v H2 => v = .non ∧ Q (.ref x) H2) (E σ)) :
    wpAny (model X.prog X.w) X.A (PySem.call (.ref C) us (ks.zip ws)) (EP X pins σ Q) X.xe s := by
  have hq := h (s.heap.objs.size + 1) s.heap.objs.size (I.hok.fresh (Nat.le_succ _)) (I.hok.fresh (Nat.le_refl _)) (Nat.ne_of_lt (Nat.lt_succ_self _))
  have I2 := Inv.made (C := C) I
  have r1 : Vals (V.ref (s.heap.objs.size + 1) :: vs) (Value.ref (s.heap.objs.size + 1) :: us) := .cons rfl r
  have r2 := hb.rel r1 rz
  have e1 : (Value.ref (s.heap.objs.size + 1) :: us).length = n + 1 := r1.length.symm.trans (congrArg Nat.succ l1)
  have e2 : ws.length = ks.length := rz.length.symm.trans l2
  refine wpAny_call (make_map (f := f) I.kIn M.makes M.init (beq_iff_eq.mp M.fn) (codeAny_mono (F.run _ X.stack _ _ ⟨Value.ref (s.heap.objs.size + 1) :: us, ks.zip ws⟩ (g (Value.ref (s.heap.objs.size + 1) :: us) ws) _ _ (E σ) (hr.make C us (ks.zip ws))
    (I2.env0.make C us (ks.zip ws)) (hb.to _ (Value.ref (s.heap.objs.size + 1) :: us) ws I2.kIn e1 e2) r2 hq) fun r s' hq' => ?_))
  cases r with
  | error e => exact hx pins _ _ e s' I2 hq'
  | ok fl =>
    cases fl with
    | ret u =>
      obtain ⟨v, H', I3, rv, ev, q3⟩ := I2.after hq'
      subst ev
      exact ⟨rv, ⟨V.ref (s.heap.objs.size + 1), H', I3, rfl, q3⟩⟩
    | next => exact False.elim hq'
    | brk => exact False.elim hq'
    | cont => exact False.elim hq'
theorem pe_makeKS (M : Mk X.K C f) (F : FnOk X.prog X.w X.K X.mg X.base CX k f fd ps sp) (hr : Room (k + 1) X.A) (hg : Gl X y) (hm : X.mg y = some (.ref C)) (hb : KBn X.K fd ps (n + 1) ks g gV) (hx : ∀ σ, PassesAt CX X σ (E σ))
    (ha : PA X (e :: es) t) (hkw : PK X kws tk) (hall : (backToKw pos (keywordEach kws X.env)).all (·.1.isSome) = true) (hks : (backToKw pos (keywordEach kws X.env)).filterMap (·.1) = ks)
    (hdb : (y == ("__debug__" : Str)) = false) (he : starEach (e :: es) X.env = (false, eval e X.env) :: starEach es X.env)
    (hpl : ((backTo pos (starEach (e :: es) X.env)).any (·.1) || (backToKw pos (keywordEach kws X.env)).any (·.1.isNone)) = false) :
    PE X (.Call (.Name y p) (e :: es) kws pos) (tMakeKS C n ks.length sp gV E t tk) := by
  refine ⟨fun pins s σ H Q I h => ?_⟩
  refine wpAny_Call_Name_kw (ld_glob I hg hm ?_ hdb)
  refine PySem.W.callWith_KW (h₀ := X.base) I.ok.mod.kin M.kp hall (thn (ha.run pos pins s σ H _ I h) fun us s1 ⟨vs, H1, I1, r, q⟩ => ?_) hpl he
  refine thn (hkw.run pos pins s1 σ H1 _ I1 q) fun ws s2 ⟨zs, H2, I2, rz, l1, l2, q2⟩ => ⟨I2.kIn, ?_⟩
  rw [hks]
  exact run_makeKS M F hr hb (hx σ) I2 r rz l1 l2 q2
end
/-- the keywords' names, each there -/
def kwNames : List Keyword → Option (List Str)
  | [] => some []
  | ⟨some y, _, _⟩ :: r => (kwNames r).map (y :: ·)
  | _ => none
theorem kwN_some {pos : Pos} {env : Env} : ∀ {kws : List Keyword} {ks : List Str}, kwNames kws = some ks →
    (backToKw pos (keywordEach kws env)).all (·.1.isSome) = true ∧ (backToKw pos (keywordEach kws env)).filterMap (·.1) = ks ∧ (backToKw pos (keywordEach kws env)).any (·.1.isNone) = false
  | [], ks, h => by cases h; exact ⟨rfl, rfl, rfl⟩
  | ⟨some y, v, q⟩ :: r, ks, h => by
    unfold kwNames at h
    cases hr : kwNames r with
    | none => rw [hr] at h; cases h
    | some ks' =>
      rw [hr] at h
      cases h
      obtain ⟨h1, h2, h3⟩ := kwN_some (pos := pos) (env := env) hr
      refine ⟨?_, ?_, ?_⟩
      · show (true && (backToKw pos (keywordEach r env)).all (·.1.isSome)) = true
        rw [h1]; rfl
      · show y :: (backToKw pos (keywordEach r env)).filterMap (·.1) = y :: ks'
        rw [h2]
      · show (false || (backToKw pos (keywordEach r env)).any (·.1.isNone)) = false
        rw [h3]; rfl
  | ⟨none, _, _⟩ :: _, _, h => nomatch h
theorem PK.imp {X : Cx} {kws : List Keyword} {t t' : TA} (h : PK X kws t) (k : ∀ σ H Q, t' σ H Q → t σ H Q) : PK X kws t' := ⟨fun pos pins s σ H Q I q => h.run pos pins s σ H Q I (k σ H Q q)⟩
section
variable {x : Lx} {T : Tab} {rt : Om} {call : Cal → List D → R D} {Z : Zx} {W : WX} {X : Cx} {pos : Pos} {a b c e : Expr} {a' b' c' e' : E} {es : List Expr} {es' ks' : Es} {kws : List Keyword}
structure SK (x : Lx) (T : Tab) (rt : Om) (call : Cal → List D → R D) (Z : Zx) (X : Cx) (kws : List Keyword) (es' : Es) : Prop where
  v : PK X kws (tVs x T rt call Z es')
  len : kws.length = Es.len es'
theorem sk_nil : SK x T rt call Z X [] .nil := by
  refine ⟨PK.imp pk_nil fun σ H Q q => ?_, rfl⟩
  obtain ⟨ρ, ω, F, φ, os, s, ok, w⟩ := q
  have ok : some [] = some os := ok
  cases ok
  exact w [] F H [] (Ext.refl s.fh) .nil (fun _ h => nomatch h) List.nodup_nil
theorem tVs_cons (σ : L2.St) (H : Hp) (Q : List V → Hp → Prop) (q : tVs x T rt call Z (.cons a' es') σ H Q) : tCons (tV x T rt call Z false a') (tVs x T rt call Z es') σ H Q := by
  obtain ⟨ρ, ω, F, φ, os, s, ok, w⟩ := q
  unfold okEs at ok
  cases h : okE rt false ω a' with
  | none => rw [h] at ok; cases ok
  | some oa =>
    cases h2 : okEs rt ω es' with
    | none => rw [h, h2] at ok; cases ok
    | some ot =>
      rw [h, h2] at ok
      cases ok
      refine one s h w fun d v F1 H1 fp e1 r1 n1 w1 => ?_
      refine ⟨ρ, ω, F1, φ, ot, s.ext e1, h2, w1.bind.mono (fun ds w vs F2 H2 fps e2 r2 n2 nd => ?_) fun _ _ z F2 H2 e2 => z F2 H2 (e1.trans e2)⟩
      refine w (v :: vs) F2 H2 (fp :: fps) (e1.trans e2) (.cons (r1.ext e2) r2) (fun p hp => ?_) ?_
      · rw [List.flatten_cons] at hp
        rcases List.mem_append.mp hp with hp | hp
        · exact n1 rfl p hp
        · exact no_up e1 (n2 p hp)
      · rw [List.flatten_cons, List.nodup_append]
        refine ⟨r1.nd, nd, fun p hp q hq z => ?_⟩
        subst z
        exact (r1.there p hp).1 (n2 p hq)
theorem sk_cons {nm : Option Str} {kp : Pos} (ha : SE x T rt call Z X a a') (hs : SK x T rt call Z X kws es') : SK x T rt call Z X (⟨nm, a, kp⟩ :: kws) (.cons a' es') :=
  ⟨PK.imp (pk_cons ha.v hs.v) tVs_cons, congrArg (· + 1) hs.len⟩
/-- what is known of a class that is made with keywords -/
structure MkKF (X : Cx) (x : Lx) (T : Tab) (call : Cal → List D → R D) (n c : Nat) (y : Str) (m : Nat) (ks : List Str) : Prop where
  ex : ∃ (call0 : Cal → List D → R D) (a : Addr) (fd : FuncData) (ps : List Str) (F : Fn) (q : Cl) (f : Nat) (g : List Value → List Value → List Value), T.cls[c]? = some q ∧ q.init = some f ∧ T.fns[f]? = some F ∧ X.mg y = some (.ref (x.cA c)) ∧ Mk X.K (x.cA c) a ∧
    FnOk X.prog X.w X.K X.mg X.base (L2.CX X.prog X.w) n a fd ps (spI x T call0 c F.np) ∧ Room (n + 1) X.A ∧ (∀ ds, call (.mk c) ds = call0 (.ini c) ds) ∧ m + ks.length + 1 = F.np ∧ KBn X.K fd ps (m + 1) ks g (fun vs zs => vs ++ zs)
theorem se_mkK {n c : Nat} {y : Str} {p : Pos} {ks : List Str} (hg : Gl X y) (hd : (y == ("__debug__" : Str)) = false) (tk : Takes X W) (FF : MkKF X x T call n c y (Es.len es') ks) (ha : SA x T rt call (Zof x T W) X es es') (hs : noStars es = true) (hne : es ≠ [])
    (hkw : SK x T rt call (Zof x T W) X kws ks') (hks : kwNames kws = some ks) (hl : ks.length = Es.len ks') : SE x T rt call (Zof x T W) X (.Call (.Name y p) es kws pos) (.mkK c es' ks') := by
  obtain ⟨call0, a, fd, ps, F, q, f, g, hq, hf, hF, hm, M, FO, hr, hcm, hnp, hb⟩ := FF.ex
  obtain ⟨i1, i2, i3⟩ := kwN_some (pos := pos) (env := X.env) hks
  have P : PE X (.Call (.Name y p) es kws pos) (tMakeKS (x.cA c) (Es.len es') ks.length (spI x T call0 c F.np) (fun vs zs => vs ++ zs) (WE W) (tVs x T rt call (Zof x T W) es') (tVs x T rt call (Zof x T W) ks')) := by
    cases es with
    | nil => exact absurd rfl hne
    | cons e es =>
      have hs2 := hs
      unfold noStars at hs
      simp only [Bool.and_eq_true] at hs
      refine pe_makeKS M FO hr hg hm hb (fun σ => passAt tk σ) ha.v hkw.v i1 i2 hd (star_of hs.1) ?_
      rw [i3, stars_any hs2]
      rfl
  refine SE.of_v (PE.imp P fun σ H Q q => ?_) (fun _ => rfl) (fun _ => rfl)
  obtain ⟨ρ, ω, G, φ, o, s, ok, w⟩ := q
  have ok2 : ∃ os os2, okEs rt ω es' = some os ∧ okEs rt ω ks' = some os2 ∧ o = .fz := by
    unfold okE at ok
    cases h : okEs rt ω es' with
    | none => rw [h] at ok; cases ok
    | some os =>
      cases h2 : okEs rt ω ks' with
      | none => rw [h, h2] at ok; cases ok
      | some os2 => rw [h, h2] at ok; cases ok; exact ⟨os, os2, rfl, rfl, rfl⟩
  obtain ⟨os, os2, h, h2, rfl⟩ := ok2
  refine ⟨ρ, ω, G, φ, os, s, h, w.bind.monoE (fun ds hds w vs F1 H1 fps e1 r1 n1 nd1 => ?_) fun _ _ z => z⟩
  refine ⟨ρ, ω, F1, φ, os2, s.ext e1, h2, w.bind.monoE (fun gs hgs w zs F2 H2 gps e2 r2 n2 nd2 => ?_) fun _ _ z F2 H2 e2 => z F2 H2 (e1.trans e2)⟩
  obtain ⟨G1, eg1, rg1⟩ := given e1 r1 n1
  have l1 := evEs_len hds
  have l2 := evEs_len hgs
  refine ⟨by rw [r1.lv, l1], by rw [r2.lv, l2, hl], ?_⟩
  -- both rows are given up
  have e12 := e1.trans e2
  have eg : Ext G H (frz (frz F2 H2 fps.flatten) H2 gps.flatten) H2 := (e12.frz n1).frz fun a ha => no_up e1 (n2 a ha)
  have rr : Reps x (frz (frz F2 H2 fps.flatten) H2 gps.flatten) (vs ++ zs) (ds ++ gs) := by
    refine Reps.append (((r1.ext e2).reps e2.fh fun _ h => h).mono (sub_frz (frz_sub e2.fh _) _)) ?_
    refine (r2.reps e2.fh (fq := gps.flatten) fun _ h => h).mono ?_
    intro p o q
    by_cases z : p ∈ gps.flatten
    · rw [frz_in z] at q ⊢; exact q
    · rw [frz_out z] at q; rw [frz_out z]; exact sub_frz e2.fh _ _ _ q
  refine mk_fin (T := T) eg rr ?_ ?_
  · rw [List.length_append, l1, l2, ← hl]
    exact hnp
  · rw [← hcm]
    exact w
end
end PV
/-! PV, part m: built-ins, isinstance, index. -/
namespace PV
open PySem PySem.Spec PyProof.Rows L2
theorem insI_perm (y : Int) : ∀ xs : List Int, (insI y xs).Perm (y :: xs)
  | [] => List.Perm.refl _
  | z :: zs => by
    unfold insI
    split
    · exact List.Perm.refl _
    · exact ((insI_perm y zs).cons z).trans (List.Perm.swap y z zs)
theorem sortI_perm : ∀ xs : List Int, (sortI xs).Perm xs
  | [] => List.Perm.refl _
  | y :: xs => (insI_perm y (sortI xs)).trans ((sortI_perm xs).cons y)
theorem insI_sorted (y : Int) : ∀ xs : List Int, xs.Pairwise (· ≤ ·) → (insI y xs).Pairwise (· ≤ ·)
  | [], _ => by simp [insI]
  | z :: zs, h => by
    unfold insI
    split
    · rename_i hle
      refine List.pairwise_cons.mpr ⟨fun w hw => ?_, h⟩
      rcases List.mem_cons.mp hw with rfl | hw
      · exact hle
      · exact Int.le_trans hle ((List.pairwise_cons.mp h).1 w hw)
    · rename_i hle
      refine List.pairwise_cons.mpr ⟨fun w hw => ?_, insI_sorted y zs (List.pairwise_cons.mp h).2⟩
      rcases List.mem_cons.mp ((insI_perm y zs).mem_iff.mp hw) with rfl | hw
      · omega
      · exact (List.pairwise_cons.mp h).1 w hw
theorem sortI_sorted : ∀ xs : List Int, (sortI xs).Pairwise (· ≤ ·)
  | [] => List.Pairwise.nil
  | y :: xs => insI_sorted y _ (sortI_sorted xs)
theorem maxI_ge (y : Int) : ∀ xs : List Int, y ≤ maxI y xs ∧ ∀ z ∈ xs, z ≤ maxI y xs := by
  intro xs
  induction xs generalizing y with
  | nil => exact ⟨Int.le_refl _, fun _ h => nomatch h⟩
  | cons z zs ih =>
    have e : maxI y (z :: zs) = maxI (if z > y then z else y) zs := rfl
    rw [e]
    obtain ⟨h1, h2⟩ := ih (if z > y then z else y)
    have h3 : y ≤ (if z > y then z else y) ∧ z ≤ (if z > y then z else y) := by split <;> omega
    exact ⟨Int.le_trans h3.1 h1, fun w hw => (List.mem_cons.mp hw).elim (fun q => by rw [q]; exact Int.le_trans h3.2 h1) (h2 w)⟩
theorem maxI_mem (y : Int) : ∀ xs : List Int, maxI y xs ∈ y :: xs := by
  intro xs
  induction xs generalizing y with
  | nil => exact List.mem_cons_self
  | cons z zs ih =>
    have e : maxI y (z :: zs) = maxI (if z > y then z else y) zs := rfl
    rw [e]
    rcases List.mem_cons.mp (ih (if z > y then z else y)) with h | h
    · rw [h]
      split
      · exact List.mem_cons_of_mem _ List.mem_cons_self
      · exact List.mem_cons_self
    · exact List.mem_cons_of_mem _ (List.mem_cons_of_mem _ h)
theorem minI_le (y : Int) : ∀ xs : List Int, minI y xs ≤ y ∧ ∀ z ∈ xs, minI y xs ≤ z := by
  intro xs
  induction xs generalizing y with
  | nil => exact ⟨Int.le_refl _, fun _ h => nomatch h⟩
  | cons z zs ih =>
    have e : minI y (z :: zs) = minI (if z < y then z else y) zs := rfl
    rw [e]
    obtain ⟨h1, h2⟩ := ih (if z < y then z else y)
    have h3 : (if z < y then z else y) ≤ y ∧ (if z < y then z else y) ≤ z := by split <;> omega
    exact ⟨Int.le_trans h1 h3.1, fun w hw => (List.mem_cons.mp hw).elim (fun q => by rw [q]; exact Int.le_trans h1 h3.2) (h2 w)⟩
theorem minI_mem (y : Int) : ∀ xs : List Int, minI y xs ∈ y :: xs := by
  intro xs
  induction xs generalizing y with
  | nil => exact List.mem_cons_self
  | cons z zs ih =>
    have e : minI y (z :: zs) = minI (if z < y then z else y) zs := rfl
    rw [e]
    rcases List.mem_cons.mp (ih (if z < y then z else y)) with h | h
    · rw [h]
      split
      · exact List.mem_cons_of_mem _ List.mem_cons_self
      · exact List.mem_cons_self
    · exact List.mem_cons_of_mem _ (List.mem_cons_of_mem _ h)
section
variable {x : Lx} {T : Tab} {rt : Om} {call : Cal → List D → R D} {Z : Zx} {W : WX} {X : Cx} {pos : Pos} {a b c e : Expr} {a' b' c' e' : E} {es : List Expr} {es' ks' : Es}
theorem Rps.one {F H : Hp} {os : List Ow} {vs : List V} {d : D} {fps : List (List Addr)} (h : Rps x F H os vs [d] fps) : ∃ o v g, os = [o] ∧ vs = [v] ∧ fps = [g] ∧ Rp x F H o v d g := by
  obtain ⟨l1, l2, l3, at_⟩ := h
  match os, vs, fps, l1, l2, l3, at_ with
  | [o], [v], [g], _, _, _, at_ => exact ⟨o, v, g, rfl, rfl, rfl, at_ 0 o v d g rfl rfl rfl rfl⟩
theorem Rps.two {F H : Hp} {os : List Ow} {vs : List V} {d e : D} {fps : List (List Addr)} (h : Rps x F H os vs [d, e] fps) : ∃ o v g p w k, os = [o, p] ∧ vs = [v, w] ∧ fps = [g, k] ∧ Rp x F H o v d g ∧ Rp x F H p w e k := by
  obtain ⟨l1, l2, l3, at_⟩ := h
  match os, vs, fps, l1, l2, l3, at_ with
  | [o, p], [v, w], [g, k], _, _, _, at_ => exact ⟨o, v, g, p, w, k, rfl, rfl, rfl, at_ 0 o v d g rfl rfl rfl rfl, at_ 1 p w e k rfl rfl rfl rfl⟩
def biO : Bi → Ow
  | .list => .l .fz
  | .sorted => .l .fz
  | _ => .fz
theorem ok_bi {bb : Bool} {ω : Om} {k : Bi} {o : Ow} (ok : okE rt bb ω (.bi k es') = some o) : okBs rt ω es' = some true ∧ o = biO k := by
  unfold okE at ok
  cases h : okBs rt ω es' with
  | none => rw [h] at ok; cases ok
  | some q =>
    rw [h] at ok
    cases q with
    | false => cases ok
    | true =>
      refine ⟨rfl, ?_⟩
      cases k <;> (cases ok; rfl)
/-- what a built-in wants of values that are read -/
def BiOk (x : Lx) (k : Bi) (r : List V → Hp → VK → Prop) : Prop := ∀ (F H F' H' : Hp) (vs : List V) (ds : List D) (os : List Ow) (fps : List (List Addr)) (Q : VK) (Y : Nat → List D → Prop), Ext F H F' H' → Rps x F' H' os vs ds fps → (∀ o ∈ os, Ow.flat o = true) →
  Wp (biD k ds) (fun d => ∀ v F2 H2 fp, Ext F H F2 H2 → Rp x F2 H2 (biO k) v d fp → (false = false → ∀ a ∈ fp, H a = none) → Q v H2) Y → r vs H' Q
theorem se_bi {k : Bi} {r : List V → Hp → VK → Prop} {f : Expr} (P : ∀ t, PA X es t → PE X (.Call f es [] pos) (tCB r t)) (hb : BiOk x k r) (ha : SA x T rt call Z X es es') : SE x T rt call Z X (.Call f es [] pos) (.bi k es') := by
  refine SE.of_v (PE.imp (P _ ha.b) fun σ H Q q => ?_) (fun _ => rfl) (fun _ => rfl)
  obtain ⟨ρ, ω, F, φ, o, s, ok, w⟩ := q
  obtain ⟨h, rfl⟩ := ok_bi ok
  exact ⟨ρ, ω, F, φ, s, h, w.bind.mono (fun ds w vs F' H' os fps ex r fl => hb F H F' H' vs ds os fps Q _ ex r fl w) fun _ _ z => z⟩
theorem w_bad {P : D → Prop} {Y : Nat → List D → Prop} {r : R D} (w : Wp r P Y) (e : r = .bad) : False := by
  rw [e] at w
  exact w
theorem bi_len : BiOk x .len (fun xs H Q => ∃ y n, xs = [y] ∧ LenV x.K y H n ∧ Q (.int n) H) := by
  intro F H F' H' vs ds os fps Q Y ex r fl w
  rcases ds with _ | ⟨d, _ | ⟨d2, ds⟩⟩
  · exact (w_bad w rfl).elim
  · obtain ⟨o, v, g, rfl, rfl, rfl, rp⟩ := r.one
    cases d <;> first | exact (w_bad w rfl).elim | skip
    · rename_i z
      have w : Wp (if z.length ≤ sizeLine then R.ok (D.int z.length) else .bad) _ _ := w
      split at w
      · rename_i hz
        exact ⟨_, _, rfl, by rw [rp.str_of]; exact ⟨hz, rfl⟩, w _ F' H' [] ex ⟨.int _, rfl⟩ fun _ _ h => nomatch h⟩
      · exact w.elim
    · obtain ⟨p, us, rfl, hp, hr⟩ := rp.tup_of
      exact ⟨_, _, rfl, .inr ⟨us, ex.fh.sqT hp, rfl⟩, by rw [hr.length]; exact w _ F' H' [] ex ⟨.int _, rfl⟩ fun _ _ h => nomatch h⟩
    · obtain ⟨p, us, rfl, hp, hr⟩ := rp.atL ex.fh
      exact ⟨_, _, rfl, .inl ⟨us, SqL.of hp, rfl⟩, by rw [hr.length]; exact w _ F' H' [] ex ⟨.int _, rfl⟩ fun _ _ h => nomatch h⟩
    · obtain ⟨p, rfl, hp⟩ := rp.scr_of
      exact ⟨_, _, rfl, .inl ⟨_, ex.fh.sqL hp, rfl⟩, by rw [List.length_map]; exact w _ F' H' [] ex ⟨.int _, rfl⟩ fun _ _ h => nomatch h⟩
  · exact (w_bad w (by cases d <;> rfl)).elim
theorem bi_int : BiOk x .int (fun xs H Q => (∃ i, xs = [.int i] ∧ Q (.int i) H) ∨ ∃ k, xs = [.bl k] ∧ Q (.int (if k then 1 else 0)) H) := by
  intro F H F' H' vs ds os fps Q Y ex r fl w
  rcases ds with _ | ⟨d, _ | ⟨d2, ds⟩⟩
  · exact (w_bad w rfl).elim
  · obtain ⟨o, v, g, rfl, rfl, rfl, rp⟩ := r.one
    cases d <;> first | exact (w_bad w rfl).elim | skip
    · exact .inr ⟨_, by rw [rp.bl_of], w _ F' H' [] ex ⟨.int _, rfl⟩ fun _ _ h => nomatch h⟩
    · exact .inl ⟨_, by rw [rp.int_of], w _ F' H' [] ex ⟨.int _, rfl⟩ fun _ _ h => nomatch h⟩
  · exact (w_bad w (by cases d <;> rfl)).elim
theorem bi_abs : BiOk x .abs (fun xs H Q => ∃ i, xs = [.int i] ∧ Q (.int (if i < 0 then -i else i)) H) := by
  intro F H F' H' vs ds os fps Q Y ex r fl w
  rcases ds with _ | ⟨d, _ | ⟨d2, ds⟩⟩
  · exact (w_bad w rfl).elim
  · obtain ⟨o, v, g, rfl, rfl, rfl, rp⟩ := r.one
    cases d <;> first | exact (w_bad w rfl).elim | skip
    exact ⟨_, by rw [rp.int_of], w _ F' H' [] ex ⟨.int _, rfl⟩ fun _ _ h => nomatch h⟩
  · exact (w_bad w (by cases d <;> rfl)).elim
theorem bi_str : BiOk x .str (fun xs H Q => ∃ i, xs = [.int i] ∧ i.natAbs.log2 < 1920 ∧ Q (.str (toString i)) H) := by
  intro F H F' H' vs ds os fps Q Y ex r fl w
  rcases ds with _ | ⟨d, _ | ⟨d2, ds⟩⟩
  · exact (w_bad w rfl).elim
  · obtain ⟨o, v, g, rfl, rfl, rfl, rp⟩ := r.one
    cases d <;> first | exact (w_bad w rfl).elim | skip
    rename_i i
    have w : Wp (if i.natAbs.log2 < 1920 then R.ok (D.str (toString i)) else .bad) _ _ := w
    split at w
    · rename_i hz
      exact ⟨_, by rw [rp.int_of], hz, w _ F' H' [] ex ⟨.str _, rfl⟩ fun _ _ h => nomatch h⟩
    · exact w.elim
  · exact (w_bad w (by cases d <;> rfl)).elim
theorem bi_gcd : BiOk x .gcd rGcd := by
  intro F H F' H' vs ds os fps Q Y ex r fl w
  rcases ds with _ | ⟨d, _ | ⟨d2, _ | ⟨d3, ds⟩⟩⟩
  · exact (w_bad w rfl).elim
  · exact (w_bad w (by cases d <;> rfl)).elim
  · obtain ⟨o, v, g, p, u, k, rfl, rfl, rfl, ra, rb⟩ := r.two
    cases d <;> first | exact (w_bad w rfl).elim | skip
    cases d2 <;> first | exact (w_bad w rfl).elim | skip
    exact ⟨_, _, by rw [ra.int_of, rb.int_of], w _ F' H' [] ex ⟨.int _, rfl⟩ fun _ _ h => nomatch h⟩
  · exact (w_bad w (by cases d <;> cases d2 <;> rfl)).elim
theorem bi_tuple : BiOk x .tuple (fun xs H Q => ∃ p ys, xs = [.ref p] ∧ ((SqL x.K H p ys ∧ ∀ l, H l = none → Q (.ref l) (upd H l (.tup ys))) ∨ (SqT x.K H p ys ∧ Q (.ref p) H))) := by
  intro F H F' H' vs ds os fps Q Y ex r fl w
  rcases ds with _ | ⟨d, _ | ⟨d2, ds⟩⟩
  · exact (w_bad w rfl).elim
  · obtain ⟨o, v, g, rfl, rfl, rfl, rp⟩ := r.one
    cases d <;> first | exact (w_bad w rfl).elim | skip
    · obtain ⟨p, us, rfl, hp, hr⟩ := rp.tup_of
      exact ⟨p, us, rfl, .inr ⟨ex.fh.sqT hp, w _ F' H' [] ex ⟨.tup hp hr, rfl⟩ fun _ _ h => nomatch h⟩⟩
    · obtain ⟨p, us, rfl, hp, hr⟩ := rp.flatL ex.fh (fl o (by simp))
      exact ⟨p, us, rfl, .inl ⟨SqL.of hp, fun l nl => newT_fin ex hr nl w⟩⟩
  · exact (w_bad w (by cases d <;> rfl)).elim
theorem bi_list : BiOk x .list (fun xs H Q => ∃ p ys, xs = [.ref p] ∧ (SqL x.K H p ys ∨ SqT x.K H p ys) ∧ ∀ l, H l = none → Q (.ref l) (upd H l (.lst ys))) := by
  intro F H F' H' vs ds os fps Q Y ex r fl w
  rcases ds with _ | ⟨d, _ | ⟨d2, ds⟩⟩
  · exact (w_bad w rfl).elim
  · obtain ⟨o, v, g, rfl, rfl, rfl, rp⟩ := r.one
    cases d <;> first | exact (w_bad w rfl).elim | skip
    · obtain ⟨p, us, rfl, hp, hr⟩ := rp.tup_of
      exact ⟨p, us, rfl, .inr (ex.fh.sqT hp), fun l nl => newL_fin ex hr nl (.inr rfl) w⟩
    · obtain ⟨p, us, rfl, hp, hr⟩ := rp.flatL ex.fh (fl o (by simp))
      exact ⟨p, us, rfl, .inl (SqL.of hp), fun l nl => newL_fin ex hr nl (.inr rfl) w⟩
  · exact (w_bad w (by cases d <;> rfl)).elim
theorem bi_sum : BiOk x .sum (rSum x.K) := by
  intro F H F' H' vs ds os fps Q Y ex r fl w
  rcases ds with _ | ⟨d, _ | ⟨d2, ds⟩⟩
  · exact (w_bad w rfl).elim
  · obtain ⟨o, v, g, rfl, rfl, rfl, rp⟩ := r.one
    cases d <;> first | exact (w_bad w rfl).elim | skip
    rename_i ys
    have w : Wp (match intsD ys with
      | some r => R.ok (D.int r.sum)
      | _ => .bad) _ _ := w
    obtain ⟨p, us, rfl, hp, hr⟩ := rp.atL ex.fh
    split at w
    · rename_i ns hn
      have e := hr.ints hn
      subst e
      exact ⟨p, ns, rfl, SqL.of hp, w _ F' H' [] ex ⟨.int _, rfl⟩ fun _ _ h => nomatch h⟩
    · exact w.elim
  · exact (w_bad w (by cases d <;> rfl)).elim
theorem bi_sorted : BiOk x .sorted (rSortedI x.K) := by
  intro F H F' H' vs ds os fps Q Y ex r fl w
  rcases ds with _ | ⟨d, _ | ⟨d2, ds⟩⟩
  · exact (w_bad w rfl).elim
  · obtain ⟨o, v, g, rfl, rfl, rfl, rp⟩ := r.one
    cases d <;> first | exact (w_bad w rfl).elim | skip
    rename_i ys
    have w : Wp (match intsD ys with
      | some r => R.ok (D.lst ((sortI r).map .int))
      | _ => .bad) _ _ := w
    obtain ⟨p, us, rfl, hp, hr⟩ := rp.atL ex.fh
    split at w
    · rename_i ns hn
      have e := hr.ints hn
      subst e
      refine ⟨p, ns, rfl, SqL.of hp, fun ns' q pm so nq => ?_⟩
      have e : ns' = sortI ns := PySem.W.ksm_same (pm.trans (sortI_perm ns).symm) so (sortI_sorted ns)
      subst e
      exact newL_fin ex (Reps.of_ints _) nq (.inr rfl) w
    · exact w.elim
  · exact (w_bad w (by cases d <;> rfl)).elim
theorem bi_max : BiOk x .max (fun xs H Q => rMax x.K xs H Q ∨ ∃ i j, xs = [.int i, .int j] ∧ Q (.int (if j > i then j else i)) H) := by
  intro F H F' H' vs ds os fps Q Y ex r fl w
  rcases ds with _ | ⟨d, _ | ⟨d2, _ | ⟨d3, ds⟩⟩⟩
  · exact (w_bad w rfl).elim
  · obtain ⟨o, v, g, rfl, rfl, rfl, rp⟩ := r.one
    cases d <;> first | exact (w_bad w rfl).elim | skip
    rename_i ys
    have w : Wp (match intsD ys with
      | some (i :: r) => R.ok (D.int (maxI i r))
      | _ => .bad) _ _ := w
    obtain ⟨p, us, rfl, hp, hr⟩ := rp.atL ex.fh
    split at w
    · rename_i i ns hn
      have e := hr.ints hn
      subst e
      refine .inl ⟨p, i :: ns, rfl, SqL.of hp, Nat.succ_pos _, fun m hm hle => ?_⟩
      have e : m = maxI i ns := by
        have h1 := hle _ (maxI_mem i ns)
        have h2 : m ≤ maxI i ns := (List.mem_cons.mp hm).elim (fun q => by rw [q]; exact (maxI_ge i ns).1) ((maxI_ge i ns).2 m)
        omega
      subst e
      exact w _ F' H' [] ex ⟨.int _, rfl⟩ fun _ _ h => nomatch h
    · exact w.elim
  · obtain ⟨o, v, g, p, u, k, rfl, rfl, rfl, ra, rb⟩ := r.two
    cases d <;> first | exact (w_bad w rfl).elim | skip
    cases d2 <;> first | exact (w_bad w rfl).elim | skip
    exact .inr ⟨_, _, by rw [ra.int_of, rb.int_of], w _ F' H' [] ex ⟨.int _, rfl⟩ fun _ _ h => nomatch h⟩
  · exact (w_bad w (by cases d <;> cases d2 <;> rfl)).elim
theorem bi_min : BiOk x .min (fun xs H Q => rMin x.K xs H Q ∨ ∃ i j, xs = [.int i, .int j] ∧ Q (.int (if j < i then j else i)) H) := by
  intro F H F' H' vs ds os fps Q Y ex r fl w
  rcases ds with _ | ⟨d, _ | ⟨d2, _ | ⟨d3, ds⟩⟩⟩
  · exact (w_bad w rfl).elim
  · obtain ⟨o, v, g, rfl, rfl, rfl, rp⟩ := r.one
    cases d <;> first | exact (w_bad w rfl).elim | skip
    rename_i ys
    have w : Wp (match intsD ys with
      | some (i :: r) => R.ok (D.int (minI i r))
      | _ => .bad) _ _ := w
    obtain ⟨p, us, rfl, hp, hr⟩ := rp.atL ex.fh
    split at w
    · rename_i i ns hn
      have e := hr.ints hn
      subst e
      refine .inl ⟨p, i :: ns, rfl, SqL.of hp, Nat.succ_pos _, fun m hm hle => ?_⟩
      have e : m = minI i ns := by
        have h1 := hle _ (minI_mem i ns)
        have h2 : minI i ns ≤ m := (List.mem_cons.mp hm).elim (fun q => by rw [q]; exact (minI_le i ns).1) ((minI_le i ns).2 m)
        omega
      subst e
      exact w _ F' H' [] ex ⟨.int _, rfl⟩ fun _ _ h => nomatch h
    · exact w.elim
  · obtain ⟨o, v, g, p, u, k, rfl, rfl, rfl, ra, rb⟩ := r.two
    cases d <;> first | exact (w_bad w rfl).elim | skip
    cases d2 <;> first | exact (w_bad w rfl).elim | skip
    exact .inr ⟨_, _, by rw [ra.int_of, rb.int_of], w _ F' H' [] ex ⟨.int _, rfl⟩ fun _ _ h => nomatch h⟩
  · exact (w_bad w (by cases d <;> cases d2 <;> rfl)).elim
/-! ### the names of built-ins -/
theorem pe_callBs {id : String} {r : List V → Hp → VK → Prop} {y : Str} {p : Pos} (hc : CallR X (.builtin id) r) (hg : Gl X y) (hm : X.mg y = none) (hv : bootBuiltins y = some (.builtin id)) (hne : es ≠ []) (hs : noStars es = true)
    (hn : y ≠ "__name__") (hdb : (y == ("__debug__" : Str)) = false) (t : TA) (ha : PA X es t) : PE X (.Call (.Name y p) es [] pos) (tCB r t) := by
  cases es with
  | nil => exact absurd rfl hne
  | cons e es =>
    unfold noStars at hs
    simp only [Bool.and_eq_true] at hs
    exact pe_callB hc hg hm hv ha hn hdb (star_of hs.1) (stars_any hs.2)
theorem pe_callTs {id : String} {r : List V → Hp → VK → Prop} {y : Str} {p : Pos} (hc : CallR X (.type id) r) (hg : Gl X y) (hm : X.mg y = none) (hv : bootBuiltins y = some (.type id)) (hne : es ≠ []) (hs : noStars es = true)
    (hn : y ≠ "__name__") (hdb : (y == ("__debug__" : Str)) = false) (t : TA) (ha : PA X es t) : PE X (.Call (.Name y p) es [] pos) (tCB r t) := by
  cases es with
  | nil => exact absurd rfl hne
  | cons e es =>
    unfold noStars at hs
    simp only [Bool.and_eq_true] at hs
    exact pe_callTy hc hg hm hv ha hn hdb (star_of hs.1) (stars_any hs.2)
end
end PV
/-! PV, part n: isinstance, index. -/
namespace PV
open PySem PySem.Spec PyProof.Rows L2
def tyS : Ty → String
  | .int => "int" | .bool => "bool" | .str => "str" | .list => "list" | .tuple => "tuple" | .cls _ => ""
def tyVal (x : Lx) : Ty → Value
  | .cls c => .ref (x.cA c)
  | t => .type (tyS t)
def tyV' (x : Lx) : Ty → V
  | .cls c => .ref (x.cA c)
  | t => .ty (tyS t)
theorem tyV_cls (x : Lx) (t : Ty) : ClsV (tyV' x t) (tyVal x t) := by
  cases t <;> first | exact .ty _ | exact .own _
theorem tyVs_cls (x : Lx) : ∀ ts : List Ty, Paired ClsV (ts.map (tyV' x)) (ts.map (tyVal x))
  | [] => .nil
  | t :: ts => .cons (tyV_cls x t) (tyVs_cls x ts)
def tCs (vs : List V) : TA := fun _ H Q => Q vs H
section
variable {x : Lx} {T : Tab} {rt : Om} {call : Cal → List D → R D} {Z : Zx} {W : WX} {X : Cx} {pos : Pos} {a b c e : Expr} {a' b' c' e' : E} {es : List Expr} {es' ks' : Es}
/-- own classes: what isinstance asks -/
structure IsF (x : Lx) (T : Tab) : Prop where
  cl : ∀ k q, T.cls[k]? = some q → q.isi = true → ClsF x.K (x.cA k)
  kit : ∀ k c q, T.cls[k]? = some q → q.isi = true → c < T.cls.length → PySem.W.kitOne x.K (.ref (x.cA k)) (.ref (x.cA c)) = some (q.up.contains c)
theorem kitD {d : D} {t : Ty} {k : Bool} {F H : Hp} {o : Ow} {v : V} {fp : List Addr} (s : Sub F H) (r : Rp x F H o v d fp) (h : isTyB d t = some k) : ∃ n : String, TyX x.K H v (.type n) ∧ PySem.W.kitOne x.K (.type n) (tyVal x t) = some k := by
  cases d <;> first | cases h | skip
  · refine ⟨"NoneType", by rw [r.non_of]; exact .base .non, ?_⟩
    cases t <;> cases h <;> exact kit_ty (by decide +kernel)
  · refine ⟨"bool", by rw [r.bl_of]; exact .base (.bl _), ?_⟩
    cases t <;> cases h <;> exact kit_ty (by decide +kernel)
  · refine ⟨"int", by rw [r.int_of]; exact .base (.int _), ?_⟩
    cases t <;> cases h <;> exact kit_ty (by decide +kernel)
  · refine ⟨"str", by rw [r.str_of]; exact .base (.str _), ?_⟩
    cases t <;> cases h <;> exact kit_ty (by decide +kernel)
  · refine ⟨"tuple", ?_, ?_⟩
    · obtain ⟨p, us, rfl, hp, hr⟩ := r.tup_of
      rcases s.sqT hp with (q | ⟨ob, q⟩) | ⟨ob, its, n, q, hc, _⟩
      · exact .base (.tup q)
      · exact .fTuple q
      · exact .kTuple q hc
    · cases t <;> cases h <;> exact kit_ty (by decide +kernel)
  · refine ⟨"list", ?_, ?_⟩
    · obtain ⟨p, us, rfl, hp, hr⟩ := r.atL s
      exact .base (.lst hp)
    · cases t <;> cases h <;> exact kit_ty (by decide +kernel)
theorem kitTs (I : IsF x T) {d : D} : ∀ {ts : List Ty} {k : Bool} {n : Value}, isTys T d ts = some k → (∀ t ∈ ts, ∀ b, isTy T d t = some b → PySem.W.kitOne x.K n (tyVal x t) = some b) → PySem.W.kitAny x.K n (ts.map (tyVal x)) = some k
  | [], k, n, h, _ => by cases h; exact kitAny_nil
  | t :: ts, k, n, h, hk => by
    unfold isTys at h
    split at h
    · rename_i h1
      cases h
      exact kitAny_cons (hk t List.mem_cons_self true h1) (fun z => nomatch z) fun _ => rfl
    · rename_i h1
      exact kitAny_cons (hk t List.mem_cons_self false h1) (fun _ => kitTs I h fun t' ht' => hk t' (List.mem_cons_of_mem _ ht')) fun z => nomatch z
    · cases h
/-- one type fixes the value's type -/
theorem ty_any (I : IsF x T) {d : D} {ts : List Ty} {k : Bool} {F H : Hp} {o : Ow} {v : V} {fp : List Addr} (s : Sub F H) (hts : ts ≠ []) (ht : ∀ t ∈ ts, ∀ c, t = .cls c → c < T.cls.length) (r : Rp x F H o v d fp)
    (h : isTys T d ts = some k) : ∃ n : Value, TyX x.K H v n ∧ PySem.W.kitAny x.K n (ts.map (tyVal x)) = some k := by
  -- the value's type, by the kind of the thing
  have fixed : ∃ n, TyX x.K H v n ∧ ∀ t ∈ ts, ∀ b, isTy T d t = some b → PySem.W.kitOne x.K n (tyVal x t) = some b := by
    cases ts with
    | nil => exact absurd rfl hts
    | cons t0 ts0 =>
      have h0 : ∃ b, isTy T d t0 = some b := by
        unfold isTys at h
        split at h
        · exact ⟨true, by assumption⟩
        · exact ⟨false, by assumption⟩
        · cases h
      obtain ⟨b0, h0⟩ := h0
      by_cases hin : ∃ c fs, d = .ins c fs
      · obtain ⟨c, fs, rfl⟩ := hin
        have qq : ∃ q, T.cls[c]? = some q ∧ q.isi = true := by
          cases t0 <;> first | (cases h0; done) | skip
          rename_i c0
          have h0 : ((T.cls[c]?).bind fun q => if q.isi = true then some (q.up.contains c0) else none) = some b0 := h0
          cases hT : T.cls[c]? with
          | none => rw [hT] at h0; cases h0
          | some q =>
            rw [hT] at h0
            have h0 : (if q.isi = true then some (q.up.contains c0) else none) = some b0 := h0
            split at h0
            · exact ⟨q, rfl, by assumption⟩
            · cases h0
        obtain ⟨q, hq, hqi⟩ := qq
        have cl := I.cl c q hq hqi
        have at_ : ∃ p dx fvs, v = .ref p ∧ H p = some (.ins (x.cA c) dx fvs) := by
          cases o with
          | fz =>
            obtain ⟨r, _⟩ := r
            cases r with
            | ins e1 e2 e3 => exact ⟨_, _, _, rfl, s _ _ e1⟩
          | i =>
            obtain ⟨p, dx, c2, fvs, fs2, rfl, e0, e1, _⟩ := r
            cases e0
            exact ⟨p, dx, fvs, rfl, e1⟩
          | l o => obtain ⟨_, _, _, _, _, e, _⟩ := r; cases e
        obtain ⟨p, dx, fvs, rfl, hp⟩ := at_
        refine ⟨_, .base (.ins hp cl.cl cl.ca cl.cg cl.ct cl.cm), fun t hm b hb => ?_⟩
        cases t <;> first | cases hb; done | skip
        rename_i k'
        have hb : ((T.cls[c]?).bind fun q => if q.isi = true then some (q.up.contains k') else none) = some b := hb
        rw [hq] at hb
        have hb : (if q.isi = true then some (q.up.contains k') else none) = some b := hb
        rw [if_pos hqi] at hb
        cases hb
        exact I.kit c k' q hq hqi (ht _ hm k' rfl)
      · have hB : ∀ t b, isTy T d t = some b → isTyB d t = some b := fun t b hb => by
          unfold isTy at hb
          split at hb
          · exact absurd ⟨_, _, rfl⟩ hin
          · exact hb
        cases d <;> first | (exact absurd ⟨_, _, rfl⟩ hin) | skip
        · refine ⟨.type "NoneType", by rw [r.non_of]; exact .base .non, fun t _ b hb => ?_⟩
          have hb := hB t b hb
          cases t <;> cases hb <;> exact kit_ty (by decide +kernel)
        · refine ⟨.type "bool", by rw [r.bl_of]; exact .base (.bl _), fun t _ b hb => ?_⟩
          have hb := hB t b hb
          cases t <;> cases hb <;> exact kit_ty (by decide +kernel)
        · refine ⟨.type "int", by rw [r.int_of]; exact .base (.int _), fun t _ b hb => ?_⟩
          have hb := hB t b hb
          cases t <;> cases hb <;> exact kit_ty (by decide +kernel)
        · refine ⟨.type "str", by rw [r.str_of]; exact .base (.str _), fun t _ b hb => ?_⟩
          have hb := hB t b hb
          cases t <;> cases hb <;> exact kit_ty (by decide +kernel)
        · refine ⟨.type "tuple", ?_, fun t _ b hb => ?_⟩
          · obtain ⟨p, us, rfl, hp, hr⟩ := r.tup_of
            rcases s.sqT hp with (q | ⟨ob, q⟩) | ⟨ob, its, n, q, hc, _⟩
            · exact .base (.tup q)
            · exact .fTuple q
            · exact .kTuple q hc
          · have hb := hB t b hb
            cases t <;> cases hb <;> exact kit_ty (by decide +kernel)
        · refine ⟨.type "list", ?_, fun t _ b hb => ?_⟩
          · obtain ⟨p, us, rfl, hp, hr⟩ := r.atL s
            exact .base (.lst hp)
          · have hb := hB t b hb
            cases t <;> cases hb <;> exact kit_ty (by decide +kernel)
        · have hb := hB t0 b0 h0
          cases hb
        · have hb := hB t0 b0 h0
          cases hb
  obtain ⟨n, h1, h2⟩ := fixed
  exact ⟨n, h1, kitTs I h h2⟩
theorem pa_tCs {ts : List Ty} : ∀ {es : List Expr}, es.length = ts.length → noStars es = true → (∀ (k : Nat) (e : Expr) (t : Ty), es[k]? = some e → ts[k]? = some t → PE X e (tC (tyV' x t))) → PA X es (tCs (ts.map (tyV' x))) := by
  induction ts with
  | nil =>
    intro es hl _ _
    cases es with
    | nil => exact PA.imp pa_nil fun σ H Q q => q
    | cons e es => simp at hl
  | cons t ts ih =>
    intro es hl hs h
    cases es with
    | nil => simp at hl
    | cons e es =>
      unfold noStars at hs
      simp only [Bool.and_eq_true] at hs
      exact PA.imp (pa_cons (h 0 e t rfl rfl) (ih (by simpa using hl) hs.2 fun k e t a b => h (k + 1) e t (by simpa using a) (by simpa using b)) (star_of hs.1)) fun σ H Q q => q
theorem ok_isi {bb : Bool} {ω : Om} {ts : List Ty} {o : Ow} (ok : okE rt bb ω (.isi a' ts) = some o) : ∃ oa, okE rt true ω a' = some oa ∧ o = .fz := by
  unfold okE at ok
  obtain ⟨oa, h, rfl⟩ := ok1 ok
  exact ⟨oa, h, rfl⟩
/-- isinstance(a, T) -/
theorem se_isi1 {t : Ty} {p : Pos} (hx : X.K = x.K) (I : IsF x T) (ht : ∀ c, t = .cls c → c < T.cls.length)
    (hg : Gl X "isinstance") (hm : X.mg "isinstance" = none) (ha : SE x T rt call Z X a a') (hn : noStar a = true) (hb : PE X b (tC (tyV' x t))) (hn2 : noStar b = true) :
    SE x T rt call Z X (.Call (.Name "isinstance" p) [a, b] [] pos) (.isi a' [t]) := by
  have P := pe_callB (pos := pos) (p := p) call_isi hg hm (by decide +kernel) (pa_cons ha.b (pa_cons hb pa_nil (star_of hn2)) (star_of hn)) (by decide) (by decide) (star_of hn) (stars_any (by simp [noStars, hn2]))
  refine SE.of_v (PE.imp P fun σ H Q q => ?_) (fun _ => rfl) (fun _ => rfl)
  obtain ⟨ρ, ω, F, φ, o, s, ok, w⟩ := q
  obtain ⟨oa, h, rfl⟩ := ok_isi ok
  refine ⟨ρ, ω, F, φ, oa, s, h, w.bind.monoE (fun d hd w v F' H' fp ex r _ => ?_) fun _ _ z => z⟩
  obtain ⟨d2, hd2, w⟩ := w.of
  cases hk : isTys T d [t] with
  | none => rw [hk] at hd2; cases hd2
  | some k =>
    rw [hk] at hd2
    cases hd2
    obtain ⟨n, h1, h2⟩ := ty_any I ex.fh (by simp) (fun t' ht' c hc => by
      have : t' = t := by simpa using ht'
      subst this
      exact ht c hc) r hk
    have h3 : PySem.W.kitOne x.K n (tyVal x t) = some k := by
      have h2 : PySem.W.kitAny x.K n [tyVal x t] = some k := h2
      unfold PySem.W.kitAny at h2
      cases h4 : PySem.W.kitOne x.K n (tyVal x t) with
      | none => rw [h4] at h2; cases h2
      | some b' =>
        rw [h4] at h2
        cases b' with
        | true => exact h2
        | false => exact h2
    show rIsi X.K [v, tyV' x t] H' Q
    rw [hx]
    exact ⟨v, _, n, _, k, rfl, tyV_cls x t, h1, h3, w _ F' H' [] ex ⟨.bl k, rfl⟩ fun _ _ h => nomatch h⟩
/-- isinstance(a, (T, ..)) -/
theorem se_isiT {ts : List Ty} {p p2 : Pos} {k2 : Nat} (hx : X.K = x.K) (I : IsF x T) (ht : ∀ t ∈ ts, ∀ c, t = .cls c → c < T.cls.length) (hne : ts ≠ [])
    (hz : ts.length ≤ 100) (hg : Gl X "isinstance") (hm : X.mg "isinstance" = none) (ha : SE x T rt call Z X a a') (hn : noStar a = true) (hb : PA X es (tCs (ts.map (tyV' x)))) :
    SE x T rt call Z X (.Call (.Name "isinstance" p) [a, .Tuple es k2 p2] [] pos) (.isi a' ts) := by
  have P := pe_callB (pos := pos) (p := p) call_isiT hg hm (by decide +kernel) (pa_cons ha.b (pa_cons (pe_tup (x1 := k2) (pos := p2) hb) pa_nil (star_of rfl)) (star_of hn)) (by decide) (by decide) (star_of hn) (stars_any rfl)
  refine SE.of_v (PE.imp P fun σ H Q q => ?_) (fun _ => rfl) (fun _ => rfl)
  obtain ⟨ρ, ω, F, φ, o, s, ok, w⟩ := q
  obtain ⟨oa, h, rfl⟩ := ok_isi ok
  refine ⟨ρ, ω, F, φ, oa, s, h, w.bind.monoE (fun d hd w v F' H' fp ex r _ => ?_) fun _ _ z => z⟩
  obtain ⟨d2, hd2, w⟩ := w.of
  cases hk : isTys T d ts with
  | none => rw [hk] at hd2; cases hd2
  | some k =>
    rw [hk] at hd2
    cases hd2
    refine ⟨?_, fun tp ntp => ?_⟩
    · rw [List.length_map, sizeLine_eq]
      omega
    · have e2 : Ext F' H' F' (upd H' tp (.tup (ts.map (tyV' x)))) := Ext.own ex.fh ntp
      obtain ⟨n, h1, h2⟩ := ty_any I e2.fh hne ht (r.ext e2) hk
      show rIsiT X.K [v, .ref tp] _ Q
      rw [hx]
      refine ⟨v, tp, ts.map (tyV' x), n, ts.map (tyVal x), k, rfl, upd_same, ?_, h1, h2, w _ F' _ [] (ex.trans e2) ⟨.bl k, rfl⟩ fun _ _ h => nomatch h⟩
      exact tyVs_cls x ts
end
end PV
/-! PV, part o: what is walked, targets, comprehensions. -/
namespace PV
open PySem PySem.Spec PyProof.Rows L2
/-- an iterator yields just these things, as long as its source stands -/
structure Walks (x : Lx) (J : L2.It) (xs : List D) (F : Hp) (st : Hp → Prop) : Prop where
  go : ∀ i H2, st H2 → i < xs.length → J.go i H2
  stop : ∀ H2, st H2 → J.stop xs.length H2
  yld : ∀ i F2 H2 v H3, Sub F F2 → Sub F2 H2 → st H2 → J.yld i H2 v H3 → i < xs.length → ∃ d F3, xs[i]? = some d ∧ Ext F2 H2 F3 H3 ∧ Rep x F3 v d
section
variable (x : Lx) (T : Tab) (rt : Om) (call : Cal → List D → R D) (Z : Zx)
/-- a walk's reading: b: the source is only read (nothing of it changes) -/
def tI (b : Bool) (it : It) : TI := fun σ H Rr => ∃ (ρ : En) (ω : Om) (F : Hp) (φ : Nat → List Addr), SR x ρ ω σ F H φ ∧ okIt rt b ω it = some true ∧
  Wp (evIt T call ρ it) (fun xs => ∀ J F' H', Ext F H F' H' → Walks x J xs F' (if b = true then Sub H' else Sub F') → Rr J H') (fun c as => ∀ F' H', Ext F H F' H' → Z σ c as F' H')
end
theorem PI.imp {X : Cx} {tg e : Expr} {t t' : TI} (h : PI X tg e t) (k : ∀ σ H Q, t' σ H Q → t σ H Q) : PI X tg e t' := ⟨fun pins s σ H Q I q => h.run pins s σ H Q I (k σ H Q q)⟩
theorem PI.or {X : Cx} {tg e : Expr} {t t' : TI} (h : PI X tg e t) (h' : PI X tg e t') : PI X tg e (fun σ H Q => t σ H Q ∨ t' σ H Q) := ⟨fun pins s σ H Q I q => q.elim (h.run pins s σ H Q I) (h'.run pins s σ H Q I)⟩
section
variable {x : Lx} {T : Tab} {rt : Om} {call : Cal → List D → R D} {Z : Zx} {W : WX} {X : Cx} {pos : Pos} {a b c e tg : Expr} {a' b' c' e' : E} {es : List Expr} {es' ks' : Es}
theorem walks_listS {F : Hp} {p : Addr} {vs : List V} {xs : List D} {st : Hp → Prop} (r : Reps x F vs xs) (hs : ∀ H2, st H2 → SqL x.K H2 p vs) : Walks x (Itl x.K p) xs F st where
  go := fun i H2 h hi => by
    have hl : i < vs.length := by rw [r.length]; exact hi
    exact ⟨vs, vs[i], hs H2 h, by simp [hl]⟩
  stop := fun H2 h => ⟨vs, hs H2 h, by rw [r.length]; exact Nat.le_refl _⟩
  yld := fun i F2 H2 v H3 s1 s2 h y hi => by
    obtain ⟨rfl, y⟩ := y
    have e := y vs (hs _ h)
    obtain ⟨w, h1, h2⟩ := r.get (show xs[i]? = some xs[i] by simp [hi])
    rw [e] at h1
    cases h1
    exact ⟨xs[i], F2, by simp [hi], Ext.refl s2, h2.mono s1⟩
theorem walks_tup {F : Hp} {p : Addr} {vs : List V} {xs : List D} {st : Hp → Prop} (r : Reps x F vs xs) (hs : ∀ H2, st H2 → SqT x.K H2 p vs) : Walks x (Itt x.K p) xs F st where
  go := fun i H2 h hi => by
    have hl : i < vs.length := by rw [r.length]; exact hi
    exact ⟨vs, vs[i], hs H2 h, by simp [hl]⟩
  stop := fun H2 h => ⟨vs, hs H2 h, by rw [r.length]; exact Nat.le_refl _⟩
  yld := fun i F2 H2 v H3 s1 s2 h y hi => by
    obtain ⟨rfl, y⟩ := y
    have e := y vs (hs _ h)
    obtain ⟨w, h1, h2⟩ := r.get (show xs[i]? = some xs[i] by simp [hi])
    rw [e] at h1
    cases h1
    exact ⟨xs[i], F2, by simp [hi], Ext.refl s2, h2.mono s1⟩
theorem walks_rng {F : Hp} {lo : Int} {n : Nat} {st : Hp → Prop} : Walks x (Itr lo n) ((List.range n).map fun k => D.int (lo + (k : Nat))) F st where
  go := fun i H2 h hi => by
    show i < n
    simpa using hi
  stop := fun H2 h => by
    show n ≤ _
    simp
  yld := fun i F2 H2 v H3 s1 s2 h y hi => by
    obtain ⟨rfl, rfl⟩ := y
    have hi' : i < n := by simpa using hi
    exact ⟨.int (lo + (i : Nat)), F2, by simp [hi'], Ext.refl s2, .int _⟩
theorem walks_str {F : Hp} {z : Str} {st : Hp → Prop} : Walks x (Its z) (z.cps.toList.map fun c => D.str ⟨#[c]⟩) F st where
  go := fun i H2 h hi => by
    show i < z.cps.size
    simpa using hi
  stop := fun H2 h => by
    show z.cps.size ≤ _
    simp
  yld := fun i F2 H2 v H3 s1 s2 h y hi => by
    obtain ⟨rfl, c, hc, rfl⟩ := y
    refine ⟨.str ⟨#[c]⟩, F2, ?_, Ext.refl s2, .str _⟩
    rw [List.getElem?_map, Array.getElem?_toList, hc]
    rfl
theorem walks_revL {F : Hp} {p : Addr} {vs : List V} {xs : List D} {st : Hp → Prop} (r : Reps x F vs xs) (hs : ∀ H2, st H2 → SqL x.K H2 p vs) : Walks x (Itv x.K p vs.length) xs.reverse F st where
  go := fun i H2 h hi => by
    have hl : i < vs.length := by rw [r.length]; simpa using hi
    have h2 : vs.length - 1 - i < vs.length := by omega
    exact ⟨hl, vs, vs[vs.length - 1 - i], hs H2 h, by simp [h2]⟩
  stop := fun H2 h => by
    show vs.length ≤ _
    rw [List.length_reverse, r.length]
    exact Nat.le_refl _
  yld := fun i F2 H2 v H3 s1 s2 h y hi => by
    obtain ⟨rfl, y⟩ := y
    have e := y vs (hs _ h)
    have hl : i < xs.length := by simpa using hi
    have hlv := r.length
    have h2 : xs.length - 1 - i < xs.length := by omega
    obtain ⟨w, h1, h2'⟩ := r.get (show xs[xs.length - 1 - i]? = some xs[xs.length - 1 - i] by simp [h2])
    rw [hlv, h1] at e
    cases e
    exact ⟨xs[xs.length - 1 - i], F2, by rw [List.getElem?_reverse hl]; simp [h2], Ext.refl s2, h2'.mono s1⟩
theorem walks_revT {F : Hp} {p : Addr} {vs : List V} {xs : List D} {st : Hp → Prop} (r : Reps x F vs xs) (hs : ∀ H2, st H2 → SqT x.K H2 p vs) : Walks x (RT.ItvT x.K p vs.length) xs.reverse F st where
  go := fun i H2 h hi => by
    have hl : i < vs.length := by rw [r.length]; simpa using hi
    have h2 : vs.length - 1 - i < vs.length := by omega
    exact ⟨hl, vs, vs[vs.length - 1 - i], hs H2 h, by simp [h2]⟩
  stop := fun H2 h => by
    show vs.length ≤ _
    rw [List.length_reverse, r.length]
    exact Nat.le_refl _
  yld := fun i F2 H2 v H3 s1 s2 h y hi => by
    obtain ⟨rfl, y⟩ := y
    have e := y vs (hs _ h)
    have hl : i < xs.length := by simpa using hi
    have hlv := r.length
    have h2 : xs.length - 1 - i < xs.length := by omega
    obtain ⟨w, h1, h2'⟩ := r.get (show xs[xs.length - 1 - i]? = some xs[xs.length - 1 - i] by simp [h2])
    rw [hlv, h1] at e
    cases e
    exact ⟨xs[xs.length - 1 - i], F2, by rw [List.getElem?_reverse hl]; simp [h2], Ext.refl s2, h2'.mono s1⟩
/-- the source as it stands behind its evaluation -/
def stS (b : Bool) (F H : Hp) : Hp → Prop := if b = true then Sub H else Sub F
theorem stS_sq {b : Bool} {F H : Hp} {o : Ow} {v : V} {xs : List D} {fp : List Addr} (s : Sub F H) (r : Rp x F H o v (.lst xs) fp) (fl : o.flat = true) (hb : b = false → o = .fz) : ∃ p vs, v = .ref p ∧ Reps x F vs xs ∧ (∃ q, SqL x.K H p q) ∧ SqL x.K H p vs ∧ ∀ H2, stS b F H H2 → SqL x.K H2 p vs := by
  obtain ⟨p, vs, rfl, hp, hr⟩ := r.flatL s fl
  refine ⟨p, vs, rfl, hr, ⟨vs, SqL.of hp⟩, SqL.of hp, fun H2 h => ?_⟩
  cases b with
  | true => exact SqL.of (h _ _ hp)
  | false =>
    have := hb rfl
    subst this
    obtain ⟨r, _⟩ := r
    cases r with
    | lst hf hr' =>
      have e := s _ _ hf
      rw [hp] at e
      cases e
      exact SqL.of (h _ _ hf)
theorem stS_sub {b : Bool} {F H H2 : Hp} (s : Sub F H) (h : stS b F H H2) : Sub F H2 := by
  cases b with
  | true => exact s.trans h
  | false => exact h
/-- for x in xs (a list, a tuple, a text, the script) -/
theorem pi_seq (hx : X.K = x.K) (ha : SE x T rt call Z X a a') (bb : Bool) : PI X tg a (tI x T rt call Z bb (.seq a')) := by
  have hv : PE X a (tV x T rt call Z bb a') := by cases bb <;> first | exact ha.v | exact ha.b
  refine PI.imp (PI.or (pi_list (tg := tg) hv) (PI.or (pi_tup (tg := tg) hv) (pi_str (tg := tg) hv))) fun σ H Q q => ?_
  obtain ⟨ρ, ω, F, φ, s, ok, w⟩ := q
  unfold okIt at ok
  cases h : okE rt bb ω a' with
  | none => rw [h] at ok; cases ok
  | some oa =>
    rw [h] at ok
    have fl : oa.flat = true := Option.some.inj ok
    rw [hx]
    -- the kind of the thing decides
    cases ed : evE T call ρ a' with
    | bad =>
      replace w : Wp (evE T call ρ a' >>= itemsD) _ _ := w
      rw [ed] at w
      exact w.elim
    | exc k as =>
      replace w : Wp (evE T call ρ a' >>= itemsD) _ _ := w
      rw [ed] at w
      exact .inl ⟨ρ, ω, F, φ, oa, s, h, by rw [ed]; exact w⟩
    | ok d =>
      replace w : Wp (evE T call ρ a' >>= itemsD) _ _ := w
      rw [ed] at w
      replace w : Wp (itemsD d) _ _ := w
      cases d <;> first | exact w.elim | skip
      · refine .inr (.inr ⟨ρ, ω, F, φ, oa, s, h, ?_⟩)
        rw [ed]
        intro v F' H' fp ex r _
        exact ⟨_, r.str_of, w _ F' H' ex walks_str⟩
      · rename_i xs
        refine .inr (.inl ⟨ρ, ω, F, φ, oa, s, h, ?_⟩)
        rw [ed]
        intro v F' H' fp ex r _
        obtain ⟨p, vs, rfl, hp, hr⟩ := r.tup_of
        exact ⟨p, rfl, ⟨vs, ex.fh.sqT hp⟩, w _ F' H' ex (walks_tup hr fun H2 h2 => (stS_sub (b := bb) ex.fh h2).sqT hp)⟩
      · rename_i xs
        refine .inl ⟨ρ, ω, F, φ, oa, s, h, ?_⟩
        rw [ed]
        intro v F' H' fp ex r n
        obtain ⟨G, o2, fp2, eg, rg, fg, hg⟩ : ∃ G o2 fp2, Ext F H G H' ∧ Rp x G H' o2 v (.lst xs) fp2 ∧ o2.flat = true ∧ (bb = false → o2 = .fz) := by
          cases bb with
          | true => exact ⟨F', oa, fp, ex, r, fl, fun z => nomatch z⟩
          | false => exact ⟨frz F' H' fp, .fz, [], ex.frz (n rfl), ⟨r.rep ex.fh, rfl⟩, rfl, fun _ => rfl⟩
        obtain ⟨p, vs, rfl, hr, hq, _, hs⟩ := stS_sq eg.fh rg fg hg
        exact ⟨p, rfl, hq, w _ G H' eg (walks_listS hr hs)⟩
      · rename_i ns
        refine .inl ⟨ρ, ω, F, φ, oa, s, h, ?_⟩
        rw [ed]
        intro v F' H' fp ex r _
        obtain ⟨p, rfl, hp⟩ := r.scr_of
        exact ⟨p, rfl, ⟨_, ex.fh.sqL hp⟩, w _ F' H' ex (walks_listS (Reps.of_ints ns) fun H2 h2 => (stS_sub (b := bb) ex.fh h2).sqL hp)⟩
theorem rng_wp {lo hi : Int} {P : List D → Prop} {Y : Nat → List D → Prop} (w : Wp (rngD lo hi) P Y) : (-(2 ^ 62) ≤ lo ∧ lo < 2 ^ 62 ∧ -(2 ^ 62) ≤ hi ∧ hi < 2 ^ 62) ∧ P ((List.range (hi - lo).toNat).map fun k => .int (lo + (k : Nat))) := by
  unfold rngD at w
  split at w
  · rename_i h; exact ⟨h, w⟩
  · exact w.elim
theorem pi_rng1E {p : Pos} {bb : Bool} (hg : Gl X "range") (hm : X.mg "range" = none) (ha : SE x T rt call Z X a a') (hn : noStar a = true) : PI X tg (.Call (.Name "range" p) [a] [] pos) (tI x T rt call Z bb (.rng1 a')) := by
  refine PI.imp (pi_range1 (tg := tg) hg hm (pa_cons ha.b pa_nil (star_of hn)) (star_of hn)) fun σ H Q q => ?_
  obtain ⟨ρ, ω, F, φ, s, ok, w⟩ := q
  unfold okIt at ok
  cases h : okE rt true ω a' with
  | none => rw [h] at ok; cases ok
  | some oa =>
    refine ⟨ρ, ω, F, φ, oa, s, h, w.bind.mono (fun d w v F' H' fp ex r _ => ?_) fun _ _ z => z⟩
    cases d <;> first | exact w.elim | skip
    rename_i j
    obtain ⟨⟨h1, h2, h3, h4⟩, w⟩ := rng_wp w
    refine ⟨j, by rw [r.int_of], h3, h4, ?_⟩
    have e : (j - 0).toNat = j.toNat := by simp
    rw [e] at w
    exact w _ F' H' ex walks_rng
theorem pi_rng2E {p : Pos} {bb : Bool} (hg : Gl X "range") (hm : X.mg "range" = none) (ha : SE x T rt call Z X a a') (hn : noStar a = true) (hb : SE x T rt call Z X b b') (hn2 : noStar b = true) :
    PI X tg (.Call (.Name "range" p) [a, b] [] pos) (tI x T rt call Z bb (.rng2 a' b')) := by
  refine PI.imp (pi_range2 (tg := tg) hg hm (pa_cons ha.b (pa_cons hb.b pa_nil (star_of hn2)) (star_of hn)) (by rw [star_of hn, star_of hn2]; rfl) (star_of hn2)) fun σ H Q q => ?_
  obtain ⟨ρ, ω, F, φ, s, ok, w⟩ := q
  unfold okIt at ok
  cases h : okE rt true ω a' with
  | none => rw [h] at ok; cases ok
  | some oa =>
    cases h2 : okE rt true ω b' with
    | none => rw [h, h2] at ok; cases ok
    | some ob =>
      refine two s h h2 w fun d e v u F' H' fp gp ex ra rb w => ?_
      cases d <;> first | exact w.elim | skip
      cases e <;> first | exact w.elim | skip
      rename_i i j
      obtain ⟨hr, w⟩ := rng_wp w
      exact ⟨i, j, by rw [ra.int_of, rb.int_of], hr, w _ F' H' ex walks_rng⟩
theorem pi_revE {p : Pos} {bb : Bool} (hx : X.K = x.K) (hg : Gl X "reversed") (hm : X.mg "reversed" = none) (ha : SE x T rt call Z X a a') (hn : noStar a = true) : PI X tg (.Call (.Name "reversed" p) [a] [] pos) (tI x T rt call Z bb (.rev a')) := by
  have hv : PE X a (tV x T rt call Z bb a') := by cases bb <;> first | exact ha.v | exact ha.b
  refine PI.imp (RT.pi_revA (tg := tg) hg hm hv (star_of hn)) fun σ H Q q => ?_
  obtain ⟨ρ, ω, F, φ, s, ok, w⟩ := q
  unfold okIt at ok
  cases h : okE rt bb ω a' with
  | none => rw [h] at ok; cases ok
  | some oa =>
    rw [h] at ok
    have fl : oa.flat = true := Option.some.inj ok
    rw [hx]
    refine ⟨ρ, ω, F, φ, oa, s, h, w.bind.mono (fun d w v F' H' fp ex r n => ?_) fun _ _ z => z⟩
    cases d <;> first | exact w.elim | skip
    · rename_i xs
      obtain ⟨p, vs, rfl, hp, hr⟩ := r.tup_of
      exact ⟨p, vs, rfl, .inr ⟨ex.fh.sqT hp, w _ F' H' ex (walks_revT hr fun H2 h2 => (stS_sub (b := bb) ex.fh h2).sqT hp)⟩⟩
    · rename_i xs
      obtain ⟨G, o2, fp2, eg, rg, fg, hg⟩ : ∃ G o2 fp2, Ext F H G H' ∧ Rp x G H' o2 v (.lst xs) fp2 ∧ o2.flat = true ∧ (bb = false → o2 = .fz) := by
        cases bb with
        | true => exact ⟨F', oa, fp, ex, r, fl, fun z => nomatch z⟩
        | false => exact ⟨frz F' H' fp, .fz, [], ex.frz (n rfl), ⟨r.rep ex.fh, rfl⟩, rfl, fun _ => rfl⟩
      obtain ⟨p, vs, rfl, hr, hq, hs0, hs⟩ := stS_sq eg.fh rg fg hg
      exact ⟨p, vs, rfl, .inl ⟨hs0, w _ G H' eg (walks_revL hr hs)⟩⟩
/-! ### targets -/
theorem SR.set {ρ : En} {ω : Om} {σ : L2.St} {F H : Hp} {φ : Nat → List Addr} {i : Nat} {d : D} {v : V} (s : SR x ρ ω σ F H φ) (ho : og ω i = .fz) (r : Rep x F v d) (hi : i < ρ.length) (hφ : φ i = []) : SR x (ρ.set i (some d)) ω (σ.set i (some v)) F H φ := by
  have hl : i < σ.length := by rw [s.len]; exact hi
  refine ⟨s.fh, by rw [List.length_set, List.length_set]; exact s.len, by rw [List.length_set]; exact s.lo, fun j e he => ?_, s.apart, fun j hj => ?_, fun w hw h0 => ?_⟩
  · by_cases hij : i = j
    · subst hij
      rw [List.getElem?_set_self hi] at he
      cases he
      exact ⟨v, by rw [List.getElem?_set_self hl], by rw [ho, hφ]; exact ⟨r, rfl⟩⟩
    · rw [List.getElem?_set_ne hij] at he
      rw [List.getElem?_set_ne hij]
      exact s.at_ j e he
  · by_cases hij : i = j
    · subst hij
      exact hφ
    · refine s.no j fun e he => hj e ?_
      rw [List.getElem?_set_ne hij]
      exact he
  · have : i ≠ 0 := fun z => by rw [z, h0] at ho; cases ho
    rw [List.getElem?_set_ne this]
    exact s.sf w hw h0
/-- a target's reading -/
def gT (K : PySem.W.Frag) : Tg → TG
  | .one i => gName i
  | .many is => gTup K is.length (is.foldr (fun i u => gCons (gName i) u) gNil)
theorem setMany_ok {is : List Nat} : ∀ {ds : List D} {vs : List V} {ρ ρ' : En} {ω : Om} {σ : L2.St} {F H : Hp} {φ : Nat → List Addr} {Q : L2.St → Hp → Prop}, SR x ρ ω σ F H φ → setMany is ds ρ = .ok ρ' → Reps x F vs ds → (∀ i ∈ is, og ω i = .fz ∧ i < ρ.length ∧ φ i = []) →
    (∀ σ', SR x ρ' ω σ' F H φ → (∀ j, j ∉ is → σ'[j]? = σ[j]?) → Q σ' H) → (is.foldr (fun i u => gCons (gName i) u) gNil) vs σ H Q := by
  induction is with
  | nil =>
    intro ds vs ρ ρ' ω σ F H φ Q s e r hi k
    cases r with
    | nil => cases e; exact ⟨rfl, k σ s fun _ _ => rfl⟩
    | cons _ _ => cases e
  | cons i is ih =>
    intro ds vs ρ ρ' ω σ F H φ Q s e r hi k
    cases r with
    | nil => cases e
    | @cons v d vs ds r t =>
      refine ⟨v, vs, rfl, ?_⟩
      obtain ⟨h1, h2, h3⟩ := hi i List.mem_cons_self
      have s' := s.set h1 r h2 h3
      refine ih s' e t (fun j hj => ?_) fun σ' s2 hk => k σ' s2 fun j hj => ?_
      · obtain ⟨a1, a2, a3⟩ := hi j (List.mem_cons_of_mem _ hj)
        exact ⟨a1, by rw [List.length_set]; exact a2, a3⟩
      · have hj' : j ≠ i ∧ j ∉ is := by simpa using hj
        rw [hk j hj'.2, List.getElem?_set_ne (Ne.symm hj'.1)]
theorem setMany_len : ∀ {is : List Nat} {ds : List D} {ρ ρ' : En}, setMany is ds ρ = .ok ρ' → is.length = ds.length
  | [], [], _, _, _ => rfl
  | _ :: is, _ :: ds, _, _, e => congrArg (· + 1) (setMany_len (is := is) (ds := ds) e)
  | [], _ :: _, _, _, e => nomatch e
  | _ :: _, [], _, _, e => nomatch e
theorem setT_ok {t : Tg} {d : D} {v : V} {ρ ρ' : En} {ω : Om} {σ : L2.St} {F H : Hp} {φ : Nat → List Addr} {Q : L2.St → Hp → Prop} (s : SR x ρ ω σ F H φ) (e : setT t d ρ = .ok ρ') (r : Rep x F v d) (hi : ∀ i ∈ t.ix, og ω i = .fz ∧ i < ρ.length ∧ φ i = [])
    (k : ∀ σ', SR x ρ' ω σ' F H φ → (∀ j, j ∉ t.ix → σ'[j]? = σ[j]?) → Q σ' H) : gT x.K t v σ H Q := by
  cases t with
  | one i =>
    cases e
    obtain ⟨h1, h2, h3⟩ := hi i (by simp [Tg.ix])
    refine k _ (s.set h1 r h2 h3) fun j hj => ?_
    have : i ≠ j := fun z => hj (by simp [Tg.ix, z])
    rw [List.getElem?_set_ne this]
  | many is =>
    cases d <;> first | cases e; done | skip
    rename_i ds
    have e : setMany is ds ρ = .ok ρ' := e
    cases r with
    | tup hq hr =>
      rename_i p vs
      refine ⟨p, vs, rfl, s.fh.sqT hq, ?_, setMany_ok s e hr hi k⟩
      rw [hr.length]
      exact (setMany_len e).symm
end
end PV
/-! PV, part p: comprehensions. -/
namespace PV
open PySem PySem.Spec PyProof.Rows L2
theorem wipe_get {σ : L2.St} {i : Nat} : ∀ {vs : List Nat}, (wipe σ vs)[i]? = if i ∈ vs then (if i < σ.length then some none else none) else σ[i]?
  | [] => by simp [wipe]
  | v :: vs => by
    unfold wipe
    by_cases h : v = i
    · subst h
      by_cases hl : v < σ.length
      · rw [List.getElem?_set_self (by rw [wipe_length]; exact hl)]
        simp [hl]
      · rw [List.getElem?_eq_none (by rw [List.length_set, wipe_length]; omega)]
        simp [hl]
    · rw [List.getElem?_set_ne h, wipe_get (vs := vs)]
      have : (i ∈ v :: vs) ↔ i ∈ vs := by simp [Ne.symm h]
      by_cases q : i ∈ vs
      · rw [if_pos q, if_pos (this.mpr q)]
      · rw [if_neg q, if_neg (fun z => q (this.mp z))]
theorem wipeE_get {ρ : En} {i : Nat} : ∀ {vs : List Nat}, (wipeE ρ vs)[i]? = if i ∈ vs then (if i < ρ.length then some none else none) else ρ[i]?
  | [] => by simp [wipeE]
  | v :: vs => by
    have len : ∀ vs : List Nat, (wipeE ρ vs).length = ρ.length := by
      intro vs
      induction vs with
      | nil => rfl
      | cons v vs ih => unfold wipeE; rw [List.length_set, ih]
    unfold wipeE
    by_cases h : v = i
    · subst h
      by_cases hl : v < ρ.length
      · rw [List.getElem?_set_self (by rw [len]; exact hl)]
        simp [hl]
      · rw [List.getElem?_eq_none (by rw [List.length_set, len]; omega)]
        simp [hl]
    · rw [List.getElem?_set_ne h, wipeE_get (vs := vs)]
      have : (i ∈ v :: vs) ↔ i ∈ vs := by simp [Ne.symm h]
      by_cases q : i ∈ vs
      · rw [if_pos q, if_pos (this.mpr q)]
      · rw [if_neg q, if_neg (fun z => q (this.mp z))]
theorem wipeE_len {ρ : En} : ∀ vs : List Nat, (wipeE ρ vs).length = ρ.length
  | [] => rfl
  | v :: vs => by unfold wipeE; rw [List.length_set, wipeE_len vs]
theorem setsO_len {ω : Om} : ∀ vs : List Nat, (setsO ω vs).length = ω.length
  | [] => rfl
  | v :: vs => by unfold setsO; rw [List.length_set, setsO_len vs]
theorem setsO_get {ω : Om} {i : Nat} : ∀ {vs : List Nat}, og (setsO ω vs) i = if i ∈ vs then .fz else og ω i
  | [] => by simp [setsO]
  | v :: vs => by
    unfold setsO
    have ih := setsO_get (ω := ω) (i := i) (vs := vs)
    unfold og at ih ⊢
    by_cases h : v = i
    · subst h
      rw [List.getD_eq_getElem?_getD, List.getElem?_set]
      simp
      split <;> rfl
    · rw [List.getD_eq_getElem?_getD, List.getElem?_set_ne h, ← List.getD_eq_getElem?_getD, ih]
      have : (i ∈ v :: vs) ↔ i ∈ vs := by simp [Ne.symm h]
      by_cases q : i ∈ vs
      · rw [if_pos q, if_pos (this.mpr q)]
      · rw [if_neg q, if_neg (fun z => q (this.mp z))]
theorem wipe_of {σ σ2 : L2.St} {vs : List Nat} (hl : σ2.length = σ.length) (h : ∀ j, j ∉ vs → σ2[j]? = (wipe σ vs)[j]?) : wipe σ2 vs = wipe σ vs := by
  apply List.ext_getElem?
  intro i
  rw [wipe_get, wipe_get]
  by_cases q : i ∈ vs
  · rw [if_pos q, if_pos q, hl]
  · rw [if_neg q, if_neg q]
    have := h i q
    rw [wipe_get, if_neg q] at this
    exact this
section
variable {x : Lx} {T : Tab} {rt : Om} {call : Cal → List D → R D} {Z : Zx} {W : WX} {X : Cx} {pos : Pos} {a b c e tg iter elt : Expr} {a' b' c' e' elt' : E} {es : List Expr} {es' ks' : Es}
theorem SR.wipe {ρ : En} {ω : Om} {σ : L2.St} {F H : Hp} {φ : Nat → List Addr} (s : SR x ρ ω σ F H φ) (vs : List Nat) : SR x (wipeE ρ vs) (setsO ω vs) (L2.wipe σ vs) F H (fun i => if i ∈ vs then [] else φ i) := by
  refine ⟨s.fh, by rw [wipe_length, wipeE_len]; exact s.len, by rw [setsO_len, wipeE_len]; exact s.lo, fun i d h => ?_, fun i j p hi hj => ?_, fun i hi => ?_, fun w hw h0 => ?_⟩
  · rw [wipeE_get] at h
    by_cases q : i ∈ vs
    · rw [if_pos q] at h
      split at h <;> cases h
    · rw [if_neg q] at h
      obtain ⟨v, h1, h2⟩ := s.at_ i d h
      refine ⟨v, by rw [wipe_get, if_neg q]; exact h1, ?_⟩
      rw [setsO_get, if_neg q]
      show Rp x F H (og ω i) v d (if i ∈ vs then [] else φ i)
      rw [if_neg q]
      exact h2
  · have hi : p ∈ (if i ∈ vs then [] else φ i) := hi
    have hj : p ∈ (if j ∈ vs then [] else φ j) := hj
    split at hi
    · cases hi
    · split at hj
      · cases hj
      · exact s.apart i j p hi hj
  · show (if i ∈ vs then [] else φ i) = []
    split
    · rfl
    · rename_i q
      refine s.no i fun d hd => hi d ?_
      rw [wipeE_get, if_neg q]
      exact hd
  · rw [setsO_get] at h0
    by_cases q : 0 ∈ vs
    · rw [if_pos q] at h0; cases h0
    · rw [if_neg q] at h0
      rw [wipe_get, if_neg q]
      exact s.sf w hw h0
/-- no exception leaves a block -/
def W0 : WX := fun _ _ _ _ => False
theorem Z0_of {σ : L2.St} {k : Nat} {as : List D} {F H : Hp} : Zof x T W0 σ k as F H ↔ ∀ dd, ¬ XRep x T F H k as dd := Iff.rfl
/-- the items so far, D's new list: what holds between two turns -/
structure CompSt (x : Lx) (o : Ow) (F1 H1 F2 H2 : Hp) (L : Addr) (acc : List D) (vs : List V) (fps : List (List Addr)) : Prop where
  ext : Ext F1 H1 F2 H2
  at_ : H2 L = some (.lst vs)
  nf : F2 L = none
  items : Rps x F2 H2 (acc.map fun _ => o) vs acc fps
  new : ∀ a ∈ fps.flatten, H1 a = none
  nd : (L :: fps.flatten).Nodup
/-- the turn's reckoning -/
def tnE (T : Tab) (call : Cal → List D → R D) (ρ : En) (own : List Nat) (t : Tg) (elt' : E) (oc : Option E) : D → R (Option D) := fun y => setT t y (wipeE ρ own) >>= fun ρ' =>
  match oc with
  | none => evE T call ρ' elt' >>= fun z => .ok (some z)
  | some c => evE T call ρ' c >>= fun k => bool_ k >>= fun k => if k = true then (evE T call ρ' elt' >>= fun z => .ok (some z)) else .ok none
/-- a comprehension's test -/
def tCt (x : Lx) (T : Tab) (rt : Om) (call : Cal → List D → R D) : Option E → TT
  | none => tYes
  | some c => tT x T rt call (Zof x T W0) c
theorem comp_turn {ρ : En} {ω : Om} {σ : L2.St} {F H F1 H1 : Hp} {φ : Nat → List Addr} {own : List Nat} {t : Tg} {oc : Option E} {o : Ow} (s : SR x ρ ω σ F H φ) (e1 : Ext F H F1 H1) (hto : ∀ i ∈ t.ix, i ∈ own) (hlen : ∀ i ∈ own, i < ρ.length)
    (ho : okE rt false (setsO ω own) elt' = some o) (hc : ∀ c, oc = some c → ∃ p, okE rt true (setsO ω own) c = some p)
    {P : D → Prop} {Y : Nat → List D → Prop} {L : Addr} (nL : H1 L = none) {y : D} {ys acc : List D} {vs : List V} {fps : List (List Addr)} {F2 H2 : Hp} (cs : CompSt x o F1 H1 F2 H2 L acc vs fps)
    (w : Wp (compL (tnE T call ρ own t elt' oc) (y :: ys) acc) P Y) {F3 H3 : Hp} {v : V} (e3 : Ext F2 H2 F3 H3) (r : Rep x F3 v y) {Nx : Hp → Prop}
    (hN : ∀ acc' vs' fps' F4 H4, CompSt x o F1 H1 F4 H4 L acc' vs' fps' → Wp (compL (tnE T call ρ own t elt' oc) ys acc') P Y → Nx H4) :
    gT x.K t v (L2.wipe σ own) H3 fun σ2 H2 => L2.wipe σ2 own = L2.wipe σ own ∧ tCt x T rt call oc σ2 H2 fun b H3 =>
      if b = true then tV x T rt call (Zof x T W0) false elt' σ2 H3 fun y H4 => ∃ acc, H4 L = some (.lst acc) ∧ acc.length < sizeLine ∧ Nx (upd H4 L (.lst (acc ++ [y]))) else Nx H3 := by
  have e13 := cs.ext.trans e3
  have sw := (((s.ext e1).ext e13)).wipe own
  unfold compL at w
  -- the turn's result
  cases hs : setT t y (wipeE ρ own) with
  | bad =>
    have : tnE T call ρ own t elt' oc y = .bad := by unfold tnE; rw [hs]; rfl
    rw [this] at w
    exact w.elim
  | exc k as =>
    have : tnE T call ρ own t elt' oc y = .exc k as := by unfold tnE; rw [hs]; rfl
    rw [this] at w
    exact w.elim
  | ok ρ' =>
    refine setT_ok sw hs r (fun i hi => ?_) fun σ2 s2 hk => ?_
    · refine ⟨by rw [setsO_get, if_pos (hto i hi)], by rw [wipeE_len]; exact hlen i (hto i hi), ?_⟩
      show (if i ∈ own then [] else φ i) = []
      rw [if_pos (hto i hi)]
    · have hw : L2.wipe σ2 own = L2.wipe σ own := by
        refine wipe_of ?_ fun j hj => hk j fun z => hj (hto j z)
        have l1 := s2.len
        have l2 := sw.len
        rw [wipe_length] at l2
        have l3 : ρ'.length = (wipeE ρ own).length := by
          clear hk w
          cases t with
          | one i => cases hs; rw [List.length_set]
          | many is =>
            cases y <;> first | cases hs; done | skip
            rename_i ds
            have e : setMany is ds (wipeE ρ own) = .ok ρ' := hs
            have gen : ∀ {is : List Nat} {ds : List D} {ρ ρ' : En}, setMany is ds ρ = .ok ρ' → ρ'.length = ρ.length := by
              intro is
              induction is with
              | nil =>
                intro ds ρ ρ' e
                cases ds with
                | nil => cases e; rfl
                | cons _ _ => cases e
              | cons i is ih =>
                intro ds ρ ρ' e
                cases ds with
                | nil => cases e
                | cons d ds => rw [ih e, List.length_set]
            exact gen e
        omega
      refine ⟨hw, ?_⟩
      -- the element, where the turn's test is met
      have elem : ∀ {F4 H4 : Hp}, Ext F3 H3 F4 H4 → tnE T call ρ own t elt' oc y = (evE T call ρ' elt' >>= fun z => .ok (some z)) →
          tV x T rt call (Zof x T W0) false elt' σ2 H4 fun y H4 => ∃ acc, H4 L = some (.lst acc) ∧ acc.length < sizeLine ∧ Nx (upd H4 L (.lst (acc ++ [y]))) := fun {F4 H4} e4 he => by
        rw [he] at w
        refine ⟨ρ', setsO ω own, F4, _, o, s2.ext e4, ho, ?_⟩
        cases hz : evE T call ρ' elt' with
        | bad => rw [hz] at w; exact w.elim
        | exc k as => rw [hz] at w; exact w.elim
        | ok z =>
          rw [hz] at w
          have w : Wp (if acc.length < sizeLine then compL (tnE T call ρ own t elt' oc) ys (acc ++ [z]) else .bad) P Y := w
          intro u F5 H5 fp e5 ru nu
          split at w
          · rename_i hz2
            have e35 := e4.trans e5
            have e25 := e3.trans e35
            have c5 := cs.items.ext e25
            have nu := nu rfl
            have at5 : H5 L = some (.lst vs) := e25.h _ _ cs.at_
            have nf5 : F5 L = none := e25.nn cs.nf (by rw [cs.at_]; exact fun z => nomatch z)
            refine ⟨vs, at5, by rw [cs.items.lv]; exact hz2, ?_⟩
            -- the list grows
            have no4 : ∀ a, H4 a = none → H1 a = none := fun a z => by
              cases q : H1 a with
              | none => rfl
              | some u => rw [(e13.trans e4).h a u q] at z; cases z
            have key : ∀ {o' : Ow} {v' : V} {d' : D} {fp' : List Addr}, Rp x F5 H5 o' v' d' fp' → L ∉ fp' → Rp x F5 (upd H5 L (.lst (vs ++ [u]))) o' v' d' fp' := fun {o' v' d' fp'} r' nl => Rp.updH nl r'
            have nLfp : L ∉ fp := fun z => by
              have := nu L z
              rw [(e3.trans e4).h L _ cs.at_] at this
              cases this
            have nLfps : L ∉ fps.flatten := (List.nodup_cons.mp cs.nd).1
            refine hN (acc ++ [z]) (vs ++ [u]) (fps ++ [fp]) F5 _ ⟨⟨(cs.ext.trans e25).f, fun a ob q => ?_, fun a ob q => ?_, (cs.ext.trans e25).new⟩, upd_same, nf5, ?_, ?_, ?_⟩ w
            · by_cases h : a = L
              · subst h; rw [nL] at q; cases q
              · rw [upd_ne h]; exact (cs.ext.trans e25).h a ob q
            · by_cases h : a = L
              · subst h; rw [nf5] at q; cases q
              · rw [upd_ne h]; exact (cs.ext.trans e25).fh a ob q
            · refine ⟨by simp [c5.lv], by simp, by simp [c5.lf], fun k p v' d' g a1 a2 a3 a4 => ?_⟩
              have hp : p = o := by
                have : ((acc ++ [z]).map fun _ => o)[k]? = some p := a1
                rw [List.getElem?_map] at this
                cases h : (acc ++ [z])[k]? with
                | none => rw [h] at this; cases this
                | some _ => rw [h] at this; exact (Option.some.inj this).symm
              rw [hp]
              by_cases hk : k < acc.length
              · have b2 : vs[k]? = some v' := by rw [List.getElem?_append_left (by rw [c5.lv]; exact hk)] at a2; exact a2
                have b3 : acc[k]? = some d' := by rw [List.getElem?_append_left hk] at a3; exact a3
                have b4 : fps[k]? = some g := by rw [List.getElem?_append_left (by rw [c5.lf]; exact hk)] at a4; exact a4
                refine key (c5.at_ k o v' d' g (by rw [List.getElem?_map, b3]; rfl) b2 b3 b4) fun z => nLfps (List.mem_flatten.mpr ⟨g, List.mem_of_getElem? b4, z⟩)
              · have hk2 : k = acc.length := by
                  have := (List.getElem?_eq_some_iff.mp a3).1
                  simp at this
                  omega
                subst hk2
                rw [List.getElem?_append_right (by rw [c5.lv]; exact Nat.le_refl _), c5.lv] at a2
                rw [List.getElem?_append_right (Nat.le_refl _)] at a3
                rw [List.getElem?_append_right (by rw [c5.lf]; exact Nat.le_refl _), c5.lf] at a4
                simp at a2 a3 a4
                subst a2 a3 a4
                exact key ru nLfp
            · intro a ha
              rw [List.flatten_append] at ha
              rcases List.mem_append.mp ha with ha | ha
              · exact cs.new a ha
              · exact no4 a (nu a (by simpa using ha))
            · rw [List.flatten_append, List.flatten_cons, List.flatten_nil, List.append_nil]
              refine List.nodup_cons.mpr ⟨fun z => ?_, List.nodup_append.mpr ⟨(List.nodup_cons.mp cs.nd).2, ru.nd, fun a ha b hb z => ?_⟩⟩
              · rcases List.mem_append.mp z with z | z
                · exact nLfps z
                · exact nLfp z
              · subst z
                obtain ⟨g, hg, hag⟩ := List.mem_flatten.mp ha
                obtain ⟨k, hk1, hk2⟩ := List.mem_iff_getElem.mp hg
                have l1 : k < vs.length := by rw [cs.items.lv, ← cs.items.lf]; exact hk1
                have l2 : k < acc.length := by rw [← cs.items.lf]; exact hk1
                have q := (Rp.there (cs.items.at_ k o vs[k] acc[k] g (by simp [l2]) (by simp [l1]) (by simp [l2]) (by rw [← hk2]; simp [hk1])) a hag).1
                have := nu a hb
                cases hq : H2 a with
                | none => exact q hq
                | some ob => rw [(e3.trans e4).h a ob hq] at this; cases this
          · exact w.elim
      cases oc with
      | none =>
        exact (show (if true = true then tV x T rt call (Zof x T W0) false elt' σ2 H3 (fun y H4 => ∃ acc, H4 L = some (.lst acc) ∧ acc.length < sizeLine ∧ Nx (upd H4 L (.lst (acc ++ [y])))) else Nx H3) from L2.iteT (elem (Ext.refl e3.fh) (by unfold tnE; rw [hs]; rfl)))
      | some c =>
        obtain ⟨p, hp⟩ := hc c rfl
        refine ⟨ρ', setsO ω own, F3, _, p, s2, hp, ?_⟩
        have et : tnE T call ρ own t elt' (some c) y = (evE T call ρ' c >>= fun k => bool_ k >>= fun k => if k = true then (evE T call ρ' elt' >>= fun z => .ok (some z)) else .ok none) := by
          unfold tnE
          rw [hs]
          rfl
        cases hz : evE T call ρ' c with
        | bad => rw [et, hz] at w; exact w.elim
        | exc k as => rw [et, hz] at w; exact w.elim
        | ok k =>
          have w2 := w
          rw [et, hz] at w2
          intro F4 H4 e4
          cases k <;> first | exact w2.elim | skip
          rename_i k
          refine ⟨k, rfl, ?_⟩
          cases k with
          | true =>
            rw [if_pos rfl]
            exact elem e4 (by rw [et, hz]; rfl)
          | false =>
            rw [if_neg Bool.false_ne_true]
            have w2 : Wp (compL (tnE T call ρ own t elt' (some c)) ys acc) P Y := w2
            have e24 := e3.trans e4
            exact hN acc vs fps F4 H4 ⟨cs.ext.trans e24, e24.h _ _ cs.at_, e24.nn cs.nf (by rw [cs.at_]; exact fun z => nomatch z), cs.items.ext e24, cs.new, cs.nd⟩ w2
/-- the comprehension, turn by turn -/
theorem comp_all {ρ : En} {ω : Om} {σ : L2.St} {F H : Hp} {φ : Nat → List Addr} {own : List Nat} {t : Tg} {oc : Option E} {o : Ow} {it : It} {Q : VK} (s : SR x ρ ω σ F H φ) (hit : okIt rt true ω it = some true) (hto : ∀ i ∈ t.ix, i ∈ own) (hlen : ∀ i ∈ own, i < ρ.length)
    (ho : okE rt false (setsO ω own) elt' = some o) (hc : ∀ c, oc = some c → ∃ p, okE rt true (setsO ω own) c = some p)
    (w : Wp (evIt T call ρ it >>= fun xs => compL (tnE T call ρ own t elt' oc) xs []) (fun d => ∀ v F' H' fp, Ext F H F' H' → Rp x F' H' (.l o) v d fp → (false = false → ∀ a ∈ fp, H a = none) → Q v H') (fun c as => ∀ F' H', Ext F H F' H' → Z σ c as F' H')) :
    tLc (tI x T rt call Z true it) (gT x.K t) (tCt x T rt call oc) (tV x T rt call (Zof x T W0) false elt') own σ H Q := by
  refine ⟨ρ, ω, F, φ, s, hit, w.bind.mono (fun xs w J F1 H1 e1 wk L nL => ?_) fun _ _ z => z⟩
  have wk : Walks x J xs F1 (Sub H1) := wk
  have nF : F1 L = none := by
    cases q : F1 L with
    | none => rfl
    | some u => rw [e1.fh L u q] at nL; cases nL
  refine ⟨fun i m H2 => m = xs.length - i ∧ i ≤ xs.length ∧ ∃ (F2 : Hp) (acc : List D) (vs : List V) (fps : List (List Addr)), CompSt x o F1 H1 F2 H2 L acc vs fps ∧
      Wp (compL (tnE T call ρ own t elt' oc) (xs.drop i) acc) (fun d => ∀ v F' H' fp, Ext F H F' H' → Rp x F' H' (.l o) v d fp → (false = false → ∀ a ∈ fp, H a = none) → Q v H') (fun c as => ∀ F' H', Ext F H F' H' → Z σ c as F' H'),
    ⟨xs.length, by simp, Nat.zero_le _, F1, [], [], [], ⟨Ext.own e1.fh nL, upd_same, nF, .nil, (fun a h => nomatch h), by simp⟩, by rw [List.drop_zero]; exact w⟩, ?_⟩
  rintro i m H2 ⟨rfl, hi, F2, acc, vs, fps, cs, w2⟩
  have st2 : Sub H1 H2 := cs.ext.h
  by_cases hlt : i < xs.length
  · refine .inr ⟨wk.go i H2 st2 hlt, fun H3 => ∃ (F2 : Hp) (acc : List D) (vs : List V) (fps : List (List Addr)), CompSt x o F1 H1 F2 H3 L acc vs fps ∧
      Wp (compL (tnE T call ρ own t elt' oc) (xs.drop (i + 1)) acc) (fun d => ∀ v F' H' fp, Ext F H F' H' → Rp x F' H' (.l o) v d fp → (false = false → ∀ a ∈ fp, H a = none) → Q v H') (fun c as => ∀ F' H', Ext F H F' H' → Z σ c as F' H'),
      fun H3 h3 => ⟨xs.length - (i + 1), by omega, rfl, hlt, h3⟩, fun v H3 y => ?_⟩
    obtain ⟨d, F3, hd, e3, r⟩ := wk.yld i F2 H2 v H3 cs.ext.f cs.ext.fh st2 y hlt
    have hdrop : xs.drop i = d :: xs.drop (i + 1) := by
      rw [List.drop_eq_getElem_cons hlt]
      have : xs[i] = d := by
        rw [List.getElem?_eq_getElem hlt] at hd
        exact Option.some.inj hd
      rw [this]
    rw [hdrop] at w2
    exact comp_turn s e1 hto hlen ho hc nL cs w2 e3 r fun acc' vs' fps' F4 H4 c4 w4 => ⟨F4, acc', vs', fps', c4, w4⟩
  · have e : i = xs.length := by omega
    subst e
    refine .inl ⟨wk.stop H2 st2, ?_⟩
    rw [List.drop_length] at w2
    have w2 : ∀ v F' H' fp, Ext F H F' H' → Rp x F' H' (.l o) v (.lst acc) fp → (false = false → ∀ a ∈ fp, H a = none) → Q v H' := w2
    have up : ∀ a, H1 a = none → H a = none := fun a z => no_up e1 z
    refine w2 (.ref L) F2 H2 (L :: fps.flatten) (e1.trans cs.ext) ⟨L, vs, acc, fps, rfl, rfl, cs.at_, cs.nf, cs.items.lv, cs.items.lf, fun k w e g a1 a2 a3 => cs.items.at_ k o w e g (by rw [List.getElem?_map, a2]; rfl) a1 a2 a3, rfl, cs.nd⟩ fun _ a ha => ?_
    rcases List.mem_cons.mp ha with rfl | ha
    · exact up _ nL
    · exact up a (cs.new a ha)
end
end PV
/-! PV, part q: comprehensions as values, tuple(range), index. -/
namespace PV
open PySem PySem.Spec PyProof.Rows L2
section
variable {x : Lx} {T : Tab} {rt : Om} {call : Cal → List D → R D} {Z : Zx} {W : WX} {X : Cx} {pos : Pos} {a b c e tg iter elt : Expr} {a' b' c' e' elt' : E} {es : List Expr} {es' ks' : Es}
theorem if_some {α : Type} {c : Bool} {a : Option α} {r : α} (h : (if c = true then a else none) = some r) : c = true ∧ a = some r := by
  cases c with
  | true => rw [if_pos rfl] at h; exact ⟨rfl, h⟩
  | false => rw [if_neg Bool.false_ne_true] at h; cases h
theorem bind_some {α β : Type} {o : Option α} {f : α → Option β} {r : β} (h : (o >>= f) = some r) : ∃ a, o = some a ∧ f a = some r := by
  cases o with
  | none => cases h
  | some a => exact ⟨a, rfl, h⟩
theorem ok_comp {bb : Bool} {ω : Om} {own : List Nat} {t : Tg} {it : It} {p : Ow} (ok : okE rt bb ω (.comp elt' own t it) = some p) :
    okIt rt true ω it = some true ∧ (∀ i ∈ t.ix, i ∈ own) ∧ (∀ i ∈ own, i < ω.length) ∧ ∃ o, okE rt false (setsO ω own) elt' = some o ∧ p = .l o := by
  unfold okE at ok
  obtain ⟨k, h, ok⟩ := bind_some ok
  obtain ⟨hc, ok⟩ := if_some ok
  obtain ⟨o, h3, ok⟩ := bind_some ok
  cases ok
  simp only [Bool.and_eq_true, List.all_eq_true, List.contains_iff_mem, decide_eq_true_eq] at hc
  obtain ⟨⟨rfl, h1⟩, h2⟩ := hc
  exact ⟨h, h1, h2, o, h3, rfl⟩
theorem ok_compI {bb : Bool} {ω : Om} {own : List Nat} {t : Tg} {it : It} {p : Ow} (ok : okE rt bb ω (.compI elt' own t it c') = some p) :
    okIt rt true ω it = some true ∧ (∀ i ∈ t.ix, i ∈ own) ∧ (∀ i ∈ own, i < ω.length) ∧ (∃ o, okE rt true (setsO ω own) c' = some o) ∧ ∃ o, okE rt false (setsO ω own) elt' = some o ∧ p = .l o := by
  unfold okE at ok
  obtain ⟨k, h, ok⟩ := bind_some ok
  obtain ⟨hc, ok⟩ := if_some ok
  obtain ⟨oc, h4, ok⟩ := bind_some ok
  obtain ⟨o, h3, ok⟩ := bind_some ok
  cases ok
  simp only [Bool.and_eq_true, List.all_eq_true, List.contains_iff_mem, decide_eq_true_eq] at hc
  obtain ⟨⟨rfl, h1⟩, h2⟩ := hc
  exact ⟨h, h1, h2, ⟨oc, h4⟩, o, h3, rfl⟩
/-- what the block of a comprehension must be -/
structure BlkF (x : Lx) (T : Tab) (rt : Om) (call : Cal → List D → R D) (X : Cx) (tg : Expr) (t : Tg) (elt : Expr) (elt' : E) (scope : Scope) : Prop where
  g : ∀ (s : Shared) (H : Hp) (C : Addr) (cl : List (Str × Addr)) (fp : List Addr), PG (X.blk s H scope (compEnvC scope cl C X.env) fp) tg (gT x.K t)
  e : ∀ (s : Shared) (H : Hp) (C : Addr) (cl : List (Str × Addr)) (fp : List Addr), SE x T rt call (Zof x T W0) (X.blk s H scope (compEnvC scope cl C X.env) fp) elt elt'
theorem lc_comp {own : List (Str × Nat)} {t : Tg} {it : It} (bb : Bool) (σ : L2.St) (H : Hp) (Q : VK) (q : tV x T rt call Z bb (.comp elt' (own.map (·.2)) t it) σ H Q) :
    tLc (tI x T rt call Z true it) (gT x.K t) tYes (tV x T rt call (Zof x T W0) false elt') (own.map (·.2)) σ H Q := by
  obtain ⟨ρ, ω, F, φ, p, s, ok, w⟩ := q
  obtain ⟨h1, h2, h3, o, h4, rfl⟩ := ok_comp ok
  refine comp_all (oc := none) s h1 h2 (fun i hi => by rw [← s.lo]; exact h3 i hi) h4 (fun c hc => nomatch hc) ?_
  have w : Wp (evIt T call ρ it >>= fun xs => compL (tnE T call ρ (own.map (·.2)) t elt' none) xs []) _ _ := w
  exact w.mono (fun d hd v F' H' fp ex r n => hd v F' H' fp ex r fun _ => n rfl) fun _ _ z => z
theorem lc_compI {own : List (Str × Nat)} {t : Tg} {it : It} (bb : Bool) (σ : L2.St) (H : Hp) (Q : VK) (q : tV x T rt call Z bb (.compI elt' (own.map (·.2)) t it c') σ H Q) :
    tLc (tI x T rt call Z true it) (gT x.K t) (tT x T rt call (Zof x T W0) c') (tV x T rt call (Zof x T W0) false elt') (own.map (·.2)) σ H Q := by
  obtain ⟨ρ, ω, F, φ, p, s, ok, w⟩ := q
  obtain ⟨h1, h2, h3, hc, o, h4, rfl⟩ := ok_compI ok
  refine comp_all (oc := some c') s h1 h2 (fun i hi => by rw [← s.lo]; exact h3 i hi) h4 (fun c hc' => by cases hc'; exact hc) ?_
  have w : Wp (evIt T call ρ it >>= fun xs => compL (tnE T call ρ (own.map (·.2)) t elt' (some c')) xs []) _ _ := w
  exact w.mono (fun d hd v F' H' fp ex r n => hd v F' H' fp ex r fun _ => n rfl) fun _ _ z => z
theorem se_comp {scope : Scope} {own : List (Str × Nat)} {t : Tg} {it : It} (hc : X.calm = true) (hN : X.N.Nodup) (hi : PI X tg iter (tI x T rt call Z true it)) (ok : BlkOk X.N X.env.scope scope own) (B : BlkF x T rt call X tg t elt elt' scope)
    (hs : ∀ z, foldedSetIterable iter X.env z = pure z) : SE x T rt call Z X (.ListComp elt [⟨tg, iter, [], 0⟩] scope pos) (.comp elt' (own.map (·.2)) t it) := by
  have P := pe_lc (pos := pos) hc hN hi ok B.g (fun s H C cl fp => pts_nil) (fun s H C cl fp => (B.e s H C cl fp).v) hs
  exact SE.of_v (PE.imp P (lc_comp false)) (fun _ => rfl) (fun _ => rfl)
theorem se_compI {scope : Scope} {own : List (Str × Nat)} {t : Tg} {it : It} (hc : X.calm = true) (hN : X.N.Nodup) (hi : PI X tg iter (tI x T rt call Z true it)) (ok : BlkOk X.N X.env.scope scope own) (B : BlkF x T rt call X tg t elt elt' scope)
    (hcond : ∀ (s : Shared) (H : Hp) (C : Addr) (cl : List (Str × Addr)) (fp : List Addr), PT (X.blk s H scope (compEnvC scope cl C X.env) fp) c (tT x T rt call (Zof x T W0) c'))
    (hs : ∀ z, foldedSetIterable iter X.env z = pure z) : SE x T rt call Z X (.ListComp elt [⟨tg, iter, [c], 0⟩] scope pos) (.compI elt' (own.map (·.2)) t it c') := by
  have P := pe_lc (pos := pos) hc hN hi ok B.g (fun s H C cl fp => pts_one (hcond s H C cl fp)) (fun s H C cl fp => (B.e s H C cl fp).v) hs
  exact SE.of_v (PE.imp P (lc_compI false)) (fun _ => rfl) (fun _ => rfl)
/-! ### tuple(range(..)), list(range(..)) -/
def rgOk (a b : Int) : Bool := decide (-(2 ^ 62) ≤ a ∧ a < 2 ^ 62 ∧ -(2 ^ 62) ≤ b ∧ b < 2 ^ 62 ∧ (b - a).toNat ≤ 2 ^ 24)
/-! ### index -/
theorem ok_bm {bb : Bool} {ω : Om} {m : Bm} {o : Ow} (ok : okE rt bb ω (.bm m a' es') = some o) : ∃ oa, okE rt true ω a' = some oa ∧ okBs rt ω es' = some true ∧ o = .fz := by
  unfold okE at ok
  cases h : okE rt true ω a' with
  | none => rw [h] at ok; cases ok
  | some oa =>
    cases h2 : okBs rt ω es' with
    | none => rw [h, h2] at ok; cases ok
    | some k =>
      rw [h, h2] at ok
      cases k with
      | false => cases ok
      | true => cases ok; exact ⟨oa, rfl, rfl, rfl⟩
theorem findIdx_spec {ps : List PyData} {p : PyData → Bool} : ∀ {j : Nat}, ps.findIdx? p = some j → ∃ z, ps[j]? = some z ∧ p z = true ∧ ∀ (m : Nat) (z' : PyData), m < j → ps[m]? = some z' → p z' = false := by
  induction ps with
  | nil => intro j h; simp at h
  | cons q qs ih =>
    intro j h
    rw [List.findIdx?_cons] at h
    by_cases hq : p q = true
    · rw [if_pos hq] at h
      cases h
      exact ⟨q, rfl, hq, fun m z' hm => by omega⟩
    · rw [if_neg hq] at h
      cases hj : qs.findIdx? p with
      | none => rw [hj] at h; cases h
      | some i =>
        rw [hj] at h
        cases h
        obtain ⟨z, h1, h2, h3⟩ := ih hj
        refine ⟨z, by simpa using h1, h2, fun m z' hm hz => ?_⟩
        cases m with
        | zero =>
          simp at hz
          subst hz
          simpa using hq
        | succ m => exact h3 m z' (Nat.lt_of_succ_lt_succ hm) (by simpa using hz)
end
end PV
/-! PV, part qa: index, tuple(range(..)), tuple(reversed(..)), a text with an int in it, gcd. -/
namespace PV
open PySem PySem.Spec PyProof.Rows L2
section
variable {x : Lx} {T : Tab} {rt : Om} {call : Cal → List D → R D} {Z : Zx} {W : WX} {X : Cx} {pos : Pos} {a b c e : Expr} {a' b' c' e' : E} {es : List Expr} {es' ks' : Es}
/-! ### gcd -/
theorem pe_callGs {id : String} {r : List V → Hp → VK → Prop} {y : Str} {p : Pos} (hc : CallR X (.builtin id) r) (hg : Gl X y) (hm : X.mg y = some (.builtin id)) (hne : es ≠ []) (hs : noStars es = true)
    (hdb : (y == ("__debug__" : Str)) = false) (t : TA) (ha : PA X es t) : PE X (.Call (.Name y p) es [] pos) (tCB r t) := by
  cases es with
  | nil => exact absurd rfl hne
  | cons e es =>
    unfold noStars at hs
    simp only [Bool.and_eq_true] at hs
    exact pe_callBfun hc hg hm ha hdb (star_of hs.1) (stars_any hs.2)
theorem se_gcd {y : Str} {p : Pos} (hg : Gl X y) (hm : X.mg y = some (.builtin "math.gcd")) (hd : (y == ("__debug__" : Str)) = false) (ha : SA x T rt call Z X es es') (hs : noStars es = true) (hne : es ≠ []) :
    SE x T rt call Z X (.Call (.Name y p) es [] pos) (.bi .gcd es') := se_bi (pe_callGs cr_gcd hg hm hne hs hd) bi_gcd ha
/-! ### xs.index(y) -/
theorem index_wp {F H : Hp} {oa ob : Ow} {v u : V} {d e : D} {fp gp : List Addr} {P : D → Prop} {Y : Nat → List D → Prop} {Q : VK} (s : Sub F H) (ra : Rp x F H oa v d fp) (rb : Rp x F H ob u e gp) (w : Wp (bmD .index d [e]) P Y)
    (hq : ∀ j : Nat, P (.int j) → Q (.int j) H) : tyV x.K "list" v H ∧ rIndexD x.K v [u] H Q := by
  cases d <;> first | exact w.elim | skip
  rename_i ys
  obtain ⟨p, vs, rfl, hp, hr⟩ := ra.atL s
  refine ⟨.inl ⟨rfl, vs, SqL.of hp⟩, ?_⟩
  have w : Wp (match e.pd, pdAll ys with
    | some p, some ps => if SeqAt.shaped p && SeqAt.shaped (.list ps) then
        match ps.findIdx? fun z => PyData.eqv z p with
        | some j => R.ok (D.int j)
        | none => .bad
      else .bad
    | _, _ => .bad) P Y := w
  split at w
  · rename_i q qs h1 h2
    split at w
    · rename_i h3
      simp only [Bool.and_eq_true] at h3
      split at w
      · rename_i j hj
        obtain ⟨z, z1, z2, z3⟩ := findIdx_spec hj
        exact ⟨p, u, q, qs, j, z, rfl, rfl, .lst (SqL.of hp) (hr.dp h2), (rb.hrep s).dp h1, h3.2, h3.1, z1, z2, z3, hq j w⟩
      · exact w.elim
    · exact w.elim
  · exact w.elim
theorem se_index {apos : Pos} (hx : X.K = x.K) (hu : X.A.units + 65 < cLine) (ha : SE x T rt call Z X a a') (hs : SE x T rt call Z X e e') (hn : noStar e = true) (hp : plainAtt a = true) (hl : (apos.endLine == pos.line) = true) :
    SE x T rt call Z X (.Call (.Attribute a "index" apos) [e] [] pos) (.bm .index a' (.cons e' .nil)) := by
  have P := pe_bm (cpos := pos) (apos := apos) F.plainAttrs_list PySem.F.slot_list_index rfl (mt_indexD (X := X) hu) ha.b (pa_cons hs.b pa_nil (star_of hn)) (att_base hp) (by rw [star_of hn]; rfl) hl (star_of hn) rfl
  refine SE.of_v (PE.imp P fun σ H Q q => ?_) (fun _ => rfl) (fun _ => rfl)
  obtain ⟨ρ, ω, F, φ, o, s, ok, w⟩ := q
  obtain ⟨oa, h1, h2, rfl⟩ := ok_bm ok
  have h3 : ∃ oe, okE rt true ω e' = some oe := by
    unfold okBs at h2
    cases h : okE rt true ω e' with
    | none => rw [h] at h2; cases h2
    | some oe => exact ⟨oe, rfl⟩
  obtain ⟨oe, h3⟩ := h3
  rw [hx]
  have w : Wp (evE T call ρ a' >>= fun d => lstOf d >>= fun d => (evE T call ρ e' >>= fun y => R.ok [] >>= fun ys => R.ok (y :: ys)) >>= fun ds => bmD .index d ds) _ _ := w
  refine one s h1 w fun d v F1 H1 fp e1 r1 _ w1 => ?_
  cases d <;> first | exact w1.elim | skip
  rename_i ys
  have w1 : Wp ((evE T call ρ e' >>= fun y => R.ok [] >>= fun ys => R.ok (y :: ys)) >>= fun ds => bmD .index (.lst ys) ds) _ _ := w1
  have ee : ((evE T call ρ e' >>= fun y => R.ok [] >>= fun ys => R.ok (y :: ys)) >>= fun ds => bmD .index (.lst ys) ds) = (evE T call ρ e' >>= fun y => bmD .index (.lst ys) [y]) := by
    cases evE T call ρ e' <;> rfl
  rw [ee] at w1
  refine ⟨?_, ρ, ω, F1, φ, oe, s.ext e1, h3, w1.bind.mono (fun d w2 u F2 H2 gp e2 r2 _ => ?_) fun _ _ z F2 H2 e2 => z F2 H2 (e1.trans e2)⟩
  · obtain ⟨p, vs, rfl, hp, _⟩ := r1.atL e1.fh
    exact .inl ⟨rfl, vs, SqL.of hp⟩
  · exact (index_wp e2.fh (r1.ext e2) r2 w2 fun j w => w _ F2 H2 [] (e1.trans e2) ⟨.int _, rfl⟩ fun _ _ h => nomatch h).2
/-! ### tuple(range(..)), list(range(..)) -/
theorem bind_as {α β γ : Type} (r : R α) (f : α → R β) (g : β → R γ) : (r >>= f) >>= g = r >>= fun a => f a >>= g := by cases r <;> rfl
def rng1X : D → R (List D)
  | .int hi => rngD 0 hi
  | _ => .bad
def rng2X (x y : D) : R (List D) := match x, y with
    | .int lo, .int hi => rngD lo hi
    | _, _ => .bad
theorem ok_tupR {bb : Bool} {ω : Om} {it : It} {o : Ow} (ok : okE rt bb ω (.tupR it) = some o) : okIt rt true ω it = some true ∧ o = .fz := by
  unfold okE at ok
  obtain ⟨k, h, ok⟩ := bind_some ok
  obtain ⟨hc, ok⟩ := if_some ok
  cases ok
  subst hc
  exact ⟨h, rfl⟩
theorem ok_lstR {bb : Bool} {ω : Om} {it : It} {o : Ow} (ok : okE rt bb ω (.lstR it) = some o) : okIt rt true ω it = some true ∧ o = .l .fz := by
  unfold okE at ok
  obtain ⟨k, h, ok⟩ := bind_some ok
  obtain ⟨hc, ok⟩ := if_some ok
  cases ok
  subst hc
  exact ⟨h, rfl⟩
theorem rgV_reps {F : Hp} (i j : Int) : Reps x F (rgV i j) ((List.range (j - i).toNat).map fun k => D.int (i + (k : Nat))) := by
  unfold rgV
  generalize (List.range (j - i).toNat) = l
  induction l with
  | nil => exact .nil
  | cons k l ih => exact .cons (.int _) ih
theorem rg_len (i j : Int) : ((List.range (j - i).toNat).map fun k => D.int (i + (k : Nat))).length = (j - i).toNat := by rw [List.length_map, List.length_range]
/-- a new tuple, a new list of the range -/
theorem rg_tup {F H F' H' : Hp} {i j : Int} {Q : VK} {Y : Nat → List D → Prop} (ex : Ext F H F' H')
    (w : Wp (rngD i j >>= fun xs => if xs.length ≤ sizeLine then R.ok (D.tup xs) else .bad) (fun d => ∀ v F2 H2 fp, Ext F H F2 H2 → Rp x F2 H2 .fz v d fp → (false = false → ∀ a ∈ fp, H a = none) → Q v H2) Y) :
    RgOk i j ∧ ∀ q, H' q = none → Q (.ref q) (upd H' q (.tup (rgV i j))) := by
  obtain ⟨⟨h1, h2, h3, h4⟩, w⟩ := rng_wp w.bind
  split at w
  · rename_i hz
    rw [rg_len, sizeLine_eq] at hz
    exact ⟨⟨h1, h2, h3, h4, hz⟩, fun q hq => newT_fin ex (rgV_reps i j) hq w⟩
  · exact w.elim
theorem rg_lst {F H F' H' : Hp} {i j : Int} {Q : VK} {Y : Nat → List D → Prop} (ex : Ext F H F' H')
    (w : Wp (rngD i j >>= fun xs => if xs.length ≤ sizeLine then R.ok (D.lst xs) else .bad) (fun d => ∀ v F2 H2 fp, Ext F H F2 H2 → Rp x F2 H2 (.l .fz) v d fp → (false = false → ∀ a ∈ fp, H a = none) → Q v H2) Y) :
    RgOk i j ∧ ∀ q, H' q = none → Q (.ref q) (upd H' q (.lst (rgV i j))) := by
  obtain ⟨⟨h1, h2, h3, h4⟩, w⟩ := rng_wp w.bind
  split at w
  · rename_i hz
    rw [rg_len, sizeLine_eq] at hz
    exact ⟨⟨h1, h2, h3, h4, hz⟩, fun q hq => newL_fin ex (rgV_reps i j) hq (.inr rfl) w⟩
  · exact w.elim
theorem star1 {e : Expr} {env : Env} (h : noStar e = true) : starEach [e] env = (false, eval e env) :: starEach [] env := star_of h
theorem se_tupRg1 {p p2 pos2 : Pos} (hc : X.calm = true) (hg : Gl X "tuple") (hm : X.mg "tuple" = none) (hg2 : Gl X "range") (hm2 : X.mg "range" = none) (ha : SE x T rt call Z X a a') (hn : noStar a = true) :
    SE x T rt call Z X (.Call (.Name "tuple" p) [.Call (.Name "range" p2) [a] [] pos2] [] pos) (.tupR (.rng1 a')) := by
  refine SE.of_v (PE.imp (pe_tupRg hc hg hm (prg_1 hg2 hm2 ha.b (star1 hn))) fun σ H Q q => ?_) (fun _ => rfl) (fun _ => rfl)
  obtain ⟨ρ, ω, F, φ, o, s, ok, w⟩ := q
  obtain ⟨ok2, rfl⟩ := ok_tupR ok
  unfold okIt at ok2
  cases h : okE rt true ω a' with
  | none => rw [h] at ok2; cases ok2
  | some oa =>
    have w : Wp ((evE T call ρ a' >>= rng1X) >>= fun xs => if xs.length ≤ sizeLine then R.ok (D.tup xs) else .bad) _ _ := w
    rw [bind_as] at w
    refine one s h w fun d v F' H' fp ex r _ w => ?_
    cases d <;> first | exact w.elim | skip
    rename_i j
    exact ⟨j, by rw [r.int_of], rg_tup ex w⟩
theorem se_lstRg1 {p p2 pos2 : Pos} (hc : X.calm = true) (hg : Gl X "list") (hm : X.mg "list" = none) (hg2 : Gl X "range") (hm2 : X.mg "range" = none) (ha : SE x T rt call Z X a a') (hn : noStar a = true) :
    SE x T rt call Z X (.Call (.Name "list" p) [.Call (.Name "range" p2) [a] [] pos2] [] pos) (.lstR (.rng1 a')) := by
  refine SE.of_v (PE.imp (pe_listRg hc hg hm (prg_1 hg2 hm2 ha.b (star1 hn))) fun σ H Q q => ?_) (fun _ => rfl) (fun _ => rfl)
  obtain ⟨ρ, ω, F, φ, o, s, ok, w⟩ := q
  obtain ⟨ok2, rfl⟩ := ok_lstR ok
  unfold okIt at ok2
  cases h : okE rt true ω a' with
  | none => rw [h] at ok2; cases ok2
  | some oa =>
    have w : Wp ((evE T call ρ a' >>= rng1X) >>= fun xs => if xs.length ≤ sizeLine then R.ok (D.lst xs) else .bad) _ _ := w
    rw [bind_as] at w
    refine one s h w fun d v F' H' fp ex r _ w => ?_
    cases d <;> first | exact w.elim | skip
    rename_i j
    exact ⟨j, by rw [r.int_of], rg_lst ex w⟩
theorem se_tupRg2 {p p2 pos2 : Pos} (hc : X.calm = true) (hg : Gl X "tuple") (hm : X.mg "tuple" = none) (hg2 : Gl X "range") (hm2 : X.mg "range" = none) (ha : SE x T rt call Z X a a') (hn : noStar a = true) (hb : SE x T rt call Z X b b') (hn2 : noStar b = true) :
    SE x T rt call Z X (.Call (.Name "tuple" p) [.Call (.Name "range" p2) [a, b] [] pos2] [] pos) (.tupR (.rng2 a' b')) := by
  refine SE.of_v (PE.imp (pe_tupRg hc hg hm (prg_2 hg2 hm2 ha.b hb.b (by rw [star_of hn]) (star1 hn2) (by rw [star_of hn2]; rfl))) fun σ H Q q => ?_) (fun _ => rfl) (fun _ => rfl)
  obtain ⟨ρ, ω, F, φ, o, s, ok, w⟩ := q
  obtain ⟨ok2, rfl⟩ := ok_tupR ok
  unfold okIt at ok2
  cases h : okE rt true ω a' with
  | none => rw [h] at ok2; cases ok2
  | some oa =>
    cases h2 : okE rt true ω b' with
    | none => rw [h, h2] at ok2; cases ok2
    | some ob =>
      have w : Wp ((evE T call ρ a' >>= fun d => evE T call ρ b' >>= fun e => rng2X d e) >>= fun xs => if xs.length ≤ sizeLine then R.ok (D.tup xs) else .bad) _ _ := w
      rw [bind_as] at w
      have ee : (evE T call ρ a' >>= fun d => (evE T call ρ b' >>= fun e => rng2X d e) >>= fun xs => if xs.length ≤ sizeLine then R.ok (D.tup xs) else .bad) = (evE T call ρ a' >>= fun d => evE T call ρ b' >>= fun e => rng2X d e >>= fun xs => if xs.length ≤ sizeLine then R.ok (D.tup xs) else .bad) := by
        congr 1
        funext d
        rw [bind_as]
      rw [ee] at w
      refine two s h h2 w fun d e v u F' H' fp gp ex ra rb w => ?_
      cases d <;> first | exact w.elim | skip
      cases e <;> first | exact w.elim | skip
      rename_i i j
      exact ⟨i, j, by rw [ra.int_of], by rw [rb.int_of], rg_tup ex w⟩
theorem se_lstRg2 {p p2 pos2 : Pos} (hc : X.calm = true) (hg : Gl X "list") (hm : X.mg "list" = none) (hg2 : Gl X "range") (hm2 : X.mg "range" = none) (ha : SE x T rt call Z X a a') (hn : noStar a = true) (hb : SE x T rt call Z X b b') (hn2 : noStar b = true) :
    SE x T rt call Z X (.Call (.Name "list" p) [.Call (.Name "range" p2) [a, b] [] pos2] [] pos) (.lstR (.rng2 a' b')) := by
  refine SE.of_v (PE.imp (pe_listRg hc hg hm (prg_2 hg2 hm2 ha.b hb.b (by rw [star_of hn]) (star1 hn2) (by rw [star_of hn2]; rfl))) fun σ H Q q => ?_) (fun _ => rfl) (fun _ => rfl)
  obtain ⟨ρ, ω, F, φ, o, s, ok, w⟩ := q
  obtain ⟨ok2, rfl⟩ := ok_lstR ok
  unfold okIt at ok2
  cases h : okE rt true ω a' with
  | none => rw [h] at ok2; cases ok2
  | some oa =>
    cases h2 : okE rt true ω b' with
    | none => rw [h, h2] at ok2; cases ok2
    | some ob =>
      have w : Wp ((evE T call ρ a' >>= fun d => evE T call ρ b' >>= fun e => rng2X d e) >>= fun xs => if xs.length ≤ sizeLine then R.ok (D.lst xs) else .bad) _ _ := w
      rw [bind_as] at w
      have ee : (evE T call ρ a' >>= fun d => (evE T call ρ b' >>= fun e => rng2X d e) >>= fun xs => if xs.length ≤ sizeLine then R.ok (D.lst xs) else .bad) = (evE T call ρ a' >>= fun d => evE T call ρ b' >>= fun e => rng2X d e >>= fun xs => if xs.length ≤ sizeLine then R.ok (D.lst xs) else .bad) := by
        congr 1
        funext d
        rw [bind_as]
      rw [ee] at w
      refine two s h h2 w fun d e v u F' H' fp gp ex ra rb w => ?_
      cases d <;> first | exact w.elim | skip
      cases e <;> first | exact w.elim | skip
      rename_i i j
      exact ⟨i, j, by rw [ra.int_of], by rw [rb.int_of], rg_lst ex w⟩
/-! ### tuple(reversed(xs)) -/
theorem se_tupRev {p p2 pos2 : Pos} (hx : X.K = x.K) (hc : X.calm = true) (hg : Gl X "tuple") (hm : X.mg "tuple" = none) (hg2 : Gl X "reversed") (hm2 : X.mg "reversed" = none) (ha : SE x T rt call Z X a a') (hn : noStar a = true) :
    SE x T rt call Z X (.Call (.Name "tuple" p) [.Call (.Name "reversed" p2) [a] [] pos2] [] pos) (.bi .trev (.cons a' .nil)) := by
  refine SE.of_v (PE.imp (RT.pe_tupRev hc hg hm hg2 hm2 ha.b (star1 hn)) fun σ H Q q => ?_) (fun _ => rfl) (fun _ => rfl)
  obtain ⟨ρ, ω, F, φ, o, s, ok, w⟩ := q
  obtain ⟨h, rfl⟩ := ok_bi ok
  rw [hx]
  have h3 : ∃ oa, okE rt true ω a' = some oa ∧ oa.flat = true := by
    unfold okBs at h
    cases h' : okE rt true ω a' with
    | none => rw [h'] at h; cases h
    | some oa =>
      rw [h'] at h
      have h : some (oa.flat && true) = some true := h
      simp only [Bool.and_true, Option.some.injEq] at h
      exact ⟨oa, rfl, h⟩
  obtain ⟨oa, h3, fl⟩ := h3
  have w : Wp ((evE T call ρ a' >>= fun y => R.ok [] >>= fun ys => R.ok (y :: ys)) >>= fun ds => biD .trev ds) _ _ := w
  have ee : ((evE T call ρ a' >>= fun y => R.ok [] >>= fun ys => R.ok (y :: ys)) >>= fun ds => biD .trev ds) = (evE T call ρ a' >>= fun y => biD .trev [y]) := by
    cases evE T call ρ a' <;> rfl
  rw [ee] at w
  refine one s h3 w fun d v F' H' fp ex r _ w => ?_
  cases d <;> first | exact w.elim | skip
  obtain ⟨p, vs, rfl, hp, hr⟩ := r.flatL ex.fh fl
  exact ⟨p, vs, rfl, SqL.of hp, fun q hq => newT_fin ex hr.reverse hq w⟩
/-! ### f"..{e}" -/
theorem empty_app (z : Str) : Str.empty ++ z = z := by
  show (⟨Str.empty.cps ++ z.cps⟩ : Str) = z
  unfold Str.empty
  simp
theorem se_fs2 {z : Str} {k : Nat} {p p2 : Pos} (ha : SE x T rt call Z X a a') (hz : z.cps.size ≤ 1000) : SE x T rt call Z X (.JoinedStr [.Constant (.str z) k p, .FormattedValue a (-1) none p2] pos) (.bin .add (.lit (.str z)) (.bi .fmt (.cons a' .nil))) := by
  refine SE.of_v (PE.imp (pe_joined (PJ.cons pe_str (PJ.cons (pe_fmt ha.b) PJ.nil))) fun σ H Q q => ?_) (fun _ => rfl) (fun _ => rfl)
  obtain ⟨ρ, ω, F, φ, o, s, ok, w⟩ := q
  have hz1 : z.length ≤ sizeLine := by rw [sizeLine_eq]; exact Nat.le_trans hz (by decide)
  have h3 : ∃ oa, okE rt true ω a' = some oa ∧ o = .fz := by
    unfold okE at ok
    obtain ⟨o1, k1, ok⟩ := bind_some ok
    obtain ⟨o2, k2, ok⟩ := bind_some ok
    obtain ⟨k3, ok9⟩ := if_some ok
    obtain ⟨k4, rfl⟩ := ok_bi k2
    unfold okBs at k4
    cases h' : okE rt true ω a' with
    | none => rw [h'] at k4; cases k4
    | some oa => exact ⟨oa, rfl, (Option.some.inj ok9).symm⟩
  obtain ⟨oa, h3, rfl⟩ := h3
  have ee : evE T call ρ (.bin .add (.lit (.str z)) (.bi .fmt (.cons a' .nil))) = (evE T call ρ a' >>= fun y => biD .fmt [y] >>= fun t => binD .add (.str z) t) := by
    show (R.ok (D.str z) >>= fun l => ((evE T call ρ a' >>= fun y => R.ok [] >>= fun ys => R.ok (y :: ys)) >>= fun ds => biD .fmt ds) >>= fun t => binD .add l t) = _
    cases evE T call ρ a' <;> rfl
  rw [ee] at w
  have fin : ∀ {t : Str} {F' H' : Hp}, Ext F H F' H' → Wp (binD .add (.str z) (.str t)) (fun d => ∀ v F' H' fp, Ext F H F' H' → Rp x F' H' .fz v d fp → (false = false → ∀ a ∈ fp, H a = none) → Q v H') (fun c as => ∀ F' H', Ext F H F' H' → Z σ c as F' H') →
      ((Str.empty ++ z) ++ t).length ≤ sizeLine ∧ Q (.str ((Str.empty ++ z) ++ t)) H' := fun {t F' H'} ex w => by
    rw [empty_app]
    have w : Wp (if z.length + t.length ≤ sizeLine then R.ok (D.str (z ++ t)) else .bad) _ _ := w
    split at w
    · rename_i hl
      refine ⟨?_, w (.str (z ++ t)) F' H' [] ex ⟨.str _, rfl⟩ fun _ _ h => nomatch h⟩
      show (z.cps ++ t.cps).size ≤ sizeLine
      rw [Array.size_append]
      exact hl
    · exact w.elim
  refine ⟨z, rfl, by rw [empty_app]; exact hz1, ?_⟩
  refine one s h3 w fun d v F' H' fp ex r _ w => ?_
  cases d <;> first | exact w.elim | skip
  · rename_i i
    have w : Wp ((if i.natAbs.log2 < 1920 then R.ok (D.str (toString i)) else .bad) >>= fun t => binD .add (.str z) t) _ _ := w
    split at w
    · rename_i hl
      obtain ⟨f1, f2⟩ := fin ex w
      exact .inr ⟨i, by rw [r.int_of], hl, _, rfl, f1, f2⟩
    · exact w.elim
  · rename_i y
    have w : Wp ((if y.length ≤ sizeLine then R.ok (D.str y) else .bad) >>= fun t => binD .add (.str z) t) _ _ := w
    split at w
    · rename_i hl
      obtain ⟨f1, f2⟩ := fin ex w
      exact .inl ⟨y, by rw [r.str_of], hl, _, rfl, f1, f2⟩
    · exact w.elim
end
end PV
/-! PV, part r: what a statement changes; ownership through statements. -/
namespace PV
open PySem PySem.Spec PyProof.Rows L2
/-! ### what ownership a body leaves -/
structure Rs where
  nx : Option Om
  bk : Option Om
  ct : Option Om
def meetW : Om → Om → Om
  | a :: as, b :: bs => a.meet b :: meetW as bs
  | _, _ => []
def leW : Om → Om → Bool
  | a :: as, b :: bs => a.le b && leW as bs
  | [], [] => true
  | _, _ => false
def joinW : Option Om → Option Om → Option Om
  | some a, some b => some (meetW a b)
  | some a, none => some a
  | none, b => b
/-- .. checked -/
def joinC : Option Om → Option Om → Option (Option Om)
  | some a, some b => if leW (meetW a b) a && leW (meetW a b) b then some (some (meetW a b)) else none
  | some a, none => some (some a)
  | none, b => some b
def stepW (w : Om) : Option Rs → Om
  | some r => (joinW (some w) (joinW r.nx r.ct)).getD w
  | none => w
/-- a turn leaves what the loop asks -/
def backB (w : Om) (r : Rs) : Bool := (match r.nx with
  | some v => leW w v
  | none => true) && (match r.ct with
  | some v => leW w v
  | none => true)
mutual
/-- the slots that are handed on become nobody's own -/
def frE (b : Bool) (ω : Om) : E → Om
  | .lit _ => ω
  | .var i => if b then (if (og ω i).flat then ω else ω.set i (match og ω i with
    | .l _ => .l .fz
    | _ => .fz)) else ω.set i .fz
  | .glob _ => ω
  | .bad => ω
  | .neg a => frE true ω a
  | .not a => frE true ω a
  | .and a c => frE false (frE true ω a) c
  | .or a c => frE false (frE true ω a) c
  | .bin _ a c => frE true (frE true ω a) c
  | .cmp _ a c => frE true (frE true ω a) c
  | .chain _ _ a c e => frE true (frE true (frE true ω a) c) e
  | .isN a => frE true ω a
  | .isNN a => frE true ω a
  | .ife c a e => frE false (frE false (frE true ω c) a) e
  | .tup es => frEs false ω es
  | .lst es => frEs false ω es
  | .sub a i => frE true (frS b ω a) i
  | .sl0 a => frE true ω a
  | .slL a l => frE true (frE true ω a) l
  | .slH a h => frE true (frE true ω a) h
  | .slB a l h => frE true (frE true (frE true ω a) l) h
  | .attr a _ => frE true ω a
  | .call _ es => frEs false ω es
  | .mk _ es => frEs false ω es
  | .mkK _ es ks => frEs false (frEs false ω es) ks
  | .bi _ es => frEs true ω es
  | .isi a _ => frE true ω a
  | .bm _ a es => frEs true (frE true ω a) es
  | .meth _ a es => frEs false (frE false ω a) es
  | .comp elt own _ it => backO ω own (frE false (setsO (frIt true ω it) own) elt)
  | .compI elt own _ it c => backO ω own (frE false (frE true (setsO (frIt true ω it) own) c) elt)
  | .tupR it => frIt true ω it
  | .lstR it => frIt true ω it
  | .fzl a => frE false ω a
/-- the base of an item: a path is read; its item is handed on if b is false -/
def frS (b : Bool) (ω : Om) : E → Om
  | .var i => match og ω i with
    | .l o => if b then ω else if o = .fz then ω else ω.set i .fz
    | _ => ω
  | .sub a i => frE true (frS b ω a) i
  | _ => ω
def frEs (b : Bool) (ω : Om) : Es → Om
  | .nil => ω
  | .cons e es => frEs b (frE b ω e) es
def frIt (b : Bool) (ω : Om) : It → Om
  | .seq a => frE b ω a
  | .rng1 a => frE true ω a
  | .rng2 a c => frE true (frE true ω a) c
  | .rev a => frE b ω a
  | .enum a => frE b ω a
  | .zip a c => frE b (frE b ω a) c
/-- behind a comprehension its own slots are what they were -/
def backO (ω : Om) : List Nat → Om → Om
  | [], w => w
  | i :: is, w => (backO ω is w).set i (og ω i)
end
/-- the ownership of a slot whose item at a path takes something of the ownership oe -/
def setO : Ow → Nat → Ow → Option Ow
  | .l o, 1, oe => some (.l (o.meet oe))
  | .l o, n + 2, oe => (setO o (n + 1) oe).map .l
  | _, _, _ => none
/-- .. to whose end something is added -/
def appO : Ow → Nat → Ow → Option Ow
  | .l o, 0, oe => some (.l (o.meet oe))
  | .l o, n + 1, oe => (appO o n oe).map .l
  | _, _, _ => none
section
variable (rt : Om) (ro : Ow)
mutual
def anS (ω : Om) : S → Option Rs
  | .asg t e => do
    let w := frE false ω e
    if leW w ω && t.ix.all (· < ω.length) then
      let o ← okE rt false w e
      match t with
      | .one i => if o = .i then none else some ⟨some (w.set i o), none, none⟩
      | .many is => if is.Nodup then some ⟨some (setsO w is), none, none⟩ else none
    else none
  | .setA i _ e => do
    let w := frE false ω e
    if leW w ω && decide (og w i = .i) then
      let _ ← okE rt false w e
      some ⟨some w, none, none⟩
    else none
  | .setI i path e => do
    let w := frEs true (frE false ω e) path
    if leW w ω then
      let o ← okE rt false w e
      let k ← okBs rt w path
      let p ← setO (og w i) path.len o
      if k then some ⟨some (w.set i p), none, none⟩ else none
    else none
  | .app i path e => do
    let w := frE false (frEs true ω path) e
    if leW w ω then
      let o ← okE rt false w e
      let k ← okBs rt w path
      let p ← appO (og w i) path.len o
      if k then some ⟨some (w.set i p), none, none⟩ else none
    else none
  | .expr e => do
    let w := frE false ω e
    if leW w ω then
      let _ ← okE rt false w e
      some ⟨some w, none, none⟩
    else none
  | .ret e => do
    match e with
    | .var i => if ro.le (og ω i) then some ⟨none, none, none⟩ else none
    | e =>
      let w := frE false ω e
      if leW w ω then
        let o ← okE rt false w e
        if ro.le o then some ⟨none, none, none⟩ else none
      else none
  | .retN => if ro = .fz then some ⟨none, none, none⟩ else none
  | .ife c a b => do
    let w := frE true ω c
    if leW w ω then
      let _ ← okE rt true w c
      let p ← anSs w a
      let q ← anSs w b
      some ⟨← joinC p.nx q.nx, ← joinC p.bk q.bk, ← joinC p.ct q.ct⟩
    else none
  | .for_ t it b => do
    let w0 := setsO (frIt false ω it) t.ix
    -- the ownership that lasts through the turns
    let w1 := stepW w0 (anSs w0 b)
    let w := stepW w1 (anSs w1 b)
    if leW w ω && t.ix.all (fun i => decide (i < ω.length) && decide (og w i = .fz)) && decide (t.ix.Nodup) then
      let k ← okIt rt false w it
      let r ← anSs w b
      if k && backB w r then some ⟨← joinC (some w) r.bk, none, none⟩ else none
    else none
  | .while_ c b => do
    let w0 := frE true ω c
    let w1 := stepW w0 (anSs w0 b)
    let w := stepW w1 (anSs w1 b)
    if leW w ω then
      let _ ← okE rt true w c
      let r ← anSs w b
      if backB w r then some ⟨← joinC (some w) r.bk, none, none⟩ else none
    else none
  | .raise _ _ => none
  | .try_ _ _ _ _ => none
  | .pass => some ⟨some ω, none, none⟩
  | .brk => some ⟨none, some ω, none⟩
  | .cont => some ⟨none, none, some ω⟩
  | .never => some ⟨none, none, none⟩
def anSs (ω : Om) : Ss → Option Rs
  | .nil => some ⟨some ω, none, none⟩
  | .cons s ss => do
    let p ← anS ω s
    match p.nx with
    | none => some p
    | some w =>
      let q ← anSs w ss
      some ⟨q.nx, ← joinC p.bk q.bk, ← joinC p.ct q.ct⟩
end
end
/-! ### what changed -/
/-- what is others' own is as it was; what is own now was own, or is new -/
structure Stp (F H : Hp) (φ : Nat → List Addr) (F' H' : Hp) (φ' : Nat → List Addr) : Prop where
  f : Sub F F'
  fh : Sub F' H'
  oth : ∀ a o, H a = some o → F a = none → (∀ i, a ∉ φ i) → H' a = some o ∧ F' a = none
  own : ∀ i a, a ∈ φ' i → (∃ j, a ∈ φ j) ∨ H a = none
theorem Stp.refl {F H : Hp} {φ : Nat → List Addr} (s : Sub F H) : Stp F H φ F H φ := ⟨fun _ _ h => h, s, fun a o h n _ => ⟨h, n⟩, fun i a h => .inl ⟨i, h⟩⟩
theorem Stp.trans {F H F1 H1 F2 H2 : Hp} {φ φ1 φ2 : Nat → List Addr} (a : Stp F H φ F1 H1 φ1) (b : Stp F1 H1 φ1 F2 H2 φ2) : Stp F H φ F2 H2 φ2 where
  f := a.f.trans b.f
  fh := b.fh
  oth := fun p o h n m => by
    obtain ⟨h1, n1⟩ := a.oth p o h n m
    refine b.oth p o h1 n1 fun i hi => ?_
    rcases a.own i p hi with ⟨j, hj⟩ | z
    · exact m j hj
    · rw [h] at z; cases z
  own := fun i p hp => by
    rcases b.own i p hp with ⟨j, hj⟩ | z
    · exact a.own j p hj
    · -- new behind the first part: new, or gone (nothing goes)
      by_cases q : ∃ j, p ∈ φ j
      · exact .inl q
      · right
        cases r : H p with
        | none => rfl
        | some o =>
          cases r2 : F p with
          | none =>
            have := (a.oth p o r r2 fun i hi => q ⟨i, hi⟩).1
            rw [z] at this
            cases this
          | some u =>
            have := a.fh p u (a.f p u r2)
            rw [z] at this
            cases this
theorem Stp.ext {F H F' H' : Hp} {φ : Nat → List Addr} (e : Ext F H F' H') : Stp F H φ F' H' φ :=
  ⟨e.f, e.fh, fun a o h n _ => ⟨e.h a o h, e.nn n (by rw [h]; exact fun z => nomatch z)⟩, fun i a h => .inl ⟨i, h⟩⟩
section
variable {x : Lx} {ρ : En} {ω : Om} {σ : L2.St} {F H : Hp} {φ : Nat → List Addr}
theorem SR.there (s : SR x ρ ω σ F H φ) {i : Nat} {a : Addr} (h : a ∈ φ i) : H a ≠ none ∧ F a = none := by
  by_cases q : ∃ d, ρ[i]? = some (some d)
  · obtain ⟨d, hd⟩ := q
    obtain ⟨v, _, r⟩ := s.at_ i d hd
    exact r.there a h
  · have := s.no i fun d hd => q ⟨d, hd⟩
    rw [this] at h
    cases h
/-- one slot gives up -/
theorem SR.low1 (s : SR x ρ ω σ F H φ) (i : Nat) (o : Ow) (hi : i < ω.length) (le : o.le (og ω i) = true) : ∃ F' φ', SR x ρ (ω.set i o) σ F' H φ' ∧ Sub F F' ∧ (∀ j a, a ∈ φ' j → a ∈ φ j) ∧ (∀ a, (∀ j, a ∉ φ j) → F' a = F a) := by
  have ogs : ∀ j, og (ω.set i o) j = if j = i then o else og ω j := fun j => by
    unfold og
    by_cases h : j = i
    · subst h
      rw [List.getD_eq_getElem?_getD, List.getElem?_set_self hi, if_pos rfl]
      rfl
    · rw [List.getD_eq_getElem?_getD, List.getElem?_set_ne (Ne.symm h), ← List.getD_eq_getElem?_getD, if_neg h]
  have sf' : ∀ v, x.sv = some v → og (ω.set i o) 0 = .i → σ[0]? = some (some v) := fun v hv h0 => by
    refine s.sf v hv ?_
    rw [ogs] at h0
    split at h0
    · rename_i e
      subst e
      rw [h0] at le
      cases q : og ω 0 with
      | i => rfl
      | fz => rw [q] at le; cases le
      | l p => rw [q] at le; cases le
    · exact h0
  by_cases q : ∃ d, ρ[i]? = some (some d)
  · obtain ⟨d, hd⟩ := q
    obtain ⟨v, hv, r⟩ := s.at_ i d hd
    obtain ⟨fq, fp', h1, h2, h3, h4⟩ := Rp.lower (o' := o) s.fh r le r.nd
    refine ⟨frz F H fq, fun j => if j = i then fp' else φ j, ⟨frz_sub s.fh _, s.len, by rw [List.length_set]; exact s.lo, fun j e he => ?_, fun j k a hj hk => ?_, fun j hj => ?_, sf'⟩, sub_frz s.fh _, fun j a hj => ?_, fun a ha => ?_⟩
    · rw [ogs]
      by_cases h : j = i
      · subst h
        rw [hd] at he
        cases he
        simp only [if_pos]
        exact ⟨v, hv, h4⟩
      · simp only [if_neg h]
        obtain ⟨w, hw, rw'⟩ := s.at_ j e he
        exact ⟨w, hw, Rp.frz s.fh rw' fun a ha z => h (s.apart j i a ha (h1 a z))⟩
    · have hj : a ∈ (if j = i then fp' else φ j) := hj
      have hk : a ∈ (if k = i then fp' else φ k) := hk
      have g : ∀ {j}, a ∈ (if j = i then fp' else φ j) → a ∈ φ j := fun {j} h => by
        split at h
        · rename_i e; subst e; exact h2.subset h
        · exact h
      exact s.apart j k a (g hj) (g hk)
    · show (if j = i then fp' else φ j) = []
      split
      · rename_i e
        subst e
        exact absurd hd (hj d)
      · exact s.no j hj
    · have hj2 : a ∈ (if j = i then fp' else φ j) := hj
      by_cases e : j = i
      · rw [if_pos e] at hj2; rw [e]; exact h2.subset hj2
      · rw [if_neg e] at hj2; exact hj2
    · exact frz_out fun z => ha i (h1 a z)
  · refine ⟨F, φ, ⟨s.fh, s.len, by rw [List.length_set]; exact s.lo, fun j e he => ?_, s.apart, s.no, sf'⟩, fun _ _ h => h, fun _ _ h => h, fun _ _ => rfl⟩
    have h : j ≠ i := fun z => q ⟨e, by rw [← z]; exact he⟩
    rw [ogs, if_neg h]
    exact s.at_ j e he
theorem leW_len : ∀ {a b : Om}, leW a b = true → a.length = b.length
  | [], [], _ => rfl
  | _ :: as, _ :: bs, h => by
    unfold leW at h
    simp only [Bool.and_eq_true] at h
    exact congrArg (· + 1) (leW_len h.2)
  | [], _ :: _, h => nomatch h
  | _ :: _, [], h => nomatch h
theorem leW_at : ∀ {a b : Om}, leW a b = true → ∀ i, (og a i).le (og b i) = true
  | [], [], _, _ => rfl
  | x :: as, y :: bs, h, i => by
    unfold leW at h
    simp only [Bool.and_eq_true] at h
    cases i with
    | zero => exact h.1
    | succ i => exact leW_at h.2 i
  | [], _ :: _, h, _ => nomatch h
  | _ :: _, [], h, _ => nomatch h
/-- all slots give up what is told -/
theorem SR.lower (s : SR x ρ ω σ F H φ) {w : Om} (le : leW w ω = true) : ∃ F' φ', SR x ρ w σ F' H φ' ∧ Stp F H φ F' H φ' := by
  have hl := leW_len le
  have key : ∀ k, k ≤ ω.length → ∃ F' φ', SR x ρ (w.take k ++ ω.drop k) σ F' H φ' ∧ Sub F F' ∧ (∀ j a, a ∈ φ' j → a ∈ φ j) ∧ (∀ a, (∀ j, a ∉ φ j) → F' a = F a) := by
    intro k
    induction k with
    | zero => exact fun _ => ⟨F, φ, by simpa using s, fun _ _ h => h, fun _ _ h => h, fun _ _ => rfl⟩
    | succ k ih =>
      intro hk
      obtain ⟨F1, φ1, s1, a1, b1, c1⟩ := ih (by omega)
      have hk' : k < ω.length := by omega
      have hw : k < w.length := by omega
      have e0 : og (w.take k ++ ω.drop k) k = og ω k := by
        unfold og
        rw [List.getD_eq_getElem?_getD, List.getElem?_append_right (by rw [List.length_take]; omega), List.getD_eq_getElem?_getD]
        simp [Nat.min_eq_left (Nat.le_of_lt hw)]
      obtain ⟨F2, φ2, s2, a2, b2, c2⟩ := s1.low1 k (og w k) (by simp; omega) (by rw [e0]; exact leW_at le k)
      have e1 : (w.take k ++ ω.drop k).set k (og w k) = w.take (k + 1) ++ ω.drop (k + 1) := by
        apply List.ext_getElem?
        intro i
        by_cases hi : i = k
        · subst hi
          rw [List.getElem?_set_self (by simp; omega), List.getElem?_append_left (by simp; omega)]
          unfold og
          rw [List.getElem?_take_of_lt (by omega), List.getD_eq_getElem?_getD, List.getElem?_eq_getElem hw]
          rfl
        · rw [List.getElem?_set_ne (Ne.symm hi)]
          by_cases hlt : i < k
          · rw [List.getElem?_append_left (by simp; omega), List.getElem?_append_left (by simp; omega), List.getElem?_take_of_lt hlt, List.getElem?_take_of_lt (by omega)]
          · rw [List.getElem?_append_right (by simp; omega), List.getElem?_append_right (by simp; omega)]
            simp only [List.length_take, Nat.min_eq_left (Nat.le_of_lt hw), Nat.min_eq_left (Nat.succ_le_of_lt hw), List.getElem?_drop]
            congr 1
            omega
      rw [e1] at s2
      exact ⟨F2, φ2, s2, a1.trans a2, fun j a h => b1 j a (b2 j a h), fun a ha => (c2 a fun j hj => ha j (b1 j a hj)).trans (c1 a ha)⟩
  obtain ⟨F1, φ1, s1, a1, b1, c1⟩ := key ω.length (Nat.le_refl _)
  have e : w.take ω.length ++ ω.drop ω.length = w := by
    rw [← hl, List.take_length, hl, List.drop_length, List.append_nil]
  rw [e] at s1
  exact ⟨F1, φ1, s1, a1, s1.fh, fun a o h n m => ⟨h, by rw [c1 a m]; exact n⟩, fun i a h => .inl ⟨i, b1 i a h⟩⟩
end
end PV
/-! PV, part s: the simple statements. -/
namespace PV
open PySem PySem.Spec PyProof.Rows L2
section
variable (x : Lx) (T : Tab) (rt : Om) (ro : Ow) (call : Cal → List D → R D) (wf : Nat) (W : WX)
def PostS (D : Ends) (F H : Hp) (φ : Nat → List Addr) (r : Rs) : Fl × En → Prop
  | (.next, ρ') => ∀ ω', r.nx = some ω' → ∀ σ' F' H' φ', Stp F H φ F' H' φ' → SR x ρ' ω' σ' F' H' φ' → D.nx σ' H'
  | (.brk, ρ') => ∀ ω', r.bk = some ω' → ∀ σ' F' H' φ', Stp F H φ F' H' φ' → SR x ρ' ω' σ' F' H' φ' → D.bk σ' H'
  | (.cont, ρ') => ∀ ω', r.ct = some ω' → ∀ σ' F' H' φ', Stp F H φ F' H' φ' → SR x ρ' ω' σ' F' H' φ' → D.ct σ' H'
  | (.ret d, _) => ∀ v F' H' fp, Stp F H φ F' H' (fun i => if i = 0 then fp else []) → Rp x F' H' ro v d fp → D.rt v H'
def XS (F H : Hp) (φ : Nat → List Addr) : Nat → List D → Prop := fun c as => ∀ σ' F' H' dd, Stp F H φ F' H' (fun _ => []) → XRep x T F' H' c as dd → W (.ref (x.cA c)) dd σ' H'
def tS (s : S) : TS := fun D σ H => ∃ (ρ : En) (ω : Om) (F : Hp) (φ : Nat → List Addr) (r : Rs), SR x ρ ω σ F H φ ∧ anS rt ro ω s = some r ∧ Wp (exS T call wf ρ s) (PostS x ro D F H φ r) (XS x T W F H φ)
def tSs (ss : Ss) : TS := fun D σ H => ∃ (ρ : En) (ω : Om) (F : Hp) (φ : Nat → List Addr) (r : Rs), SR x ρ ω σ F H φ ∧ anSs rt ro ω ss = some r ∧ Wp (exSs T call wf ρ ss) (PostS x ro D F H φ r) (XS x T W F H φ)
end
section
variable {x : Lx} {T : Tab} {rt : Om} {ro : Ow} {call : Cal → List D → R D} {wf : Nat} {W : WX} {X : Cx} {pos : Pos} {a b c e tg iter : Expr} {a' b' c' e' : E} {es : List Expr} {es' : Es}
variable {ρ : En} {ω : Om} {σ : L2.St} {F H : Hp} {φ : Nat → List Addr} {D : Ends} {r : Rs}
theorem XS.stp {F1 H1 : Hp} {φ1 : Nat → List Addr} (s : Stp F H φ F1 H1 φ1) {k : Nat} {as : List PV.D} (h : XS x T W F H φ k as) : XS x T W F1 H1 φ1 k as := fun σ' F' H' dd s2 xr => h σ' F' H' dd (s.trans s2) xr
theorem XS.zof {F1 H1 : Hp} {φ1 : Nat → List Addr} (s : Stp F H φ F1 H1 φ1) {k : Nat} {as : List PV.D} (h : XS x T W F H φ k as) : ∀ F' H', Ext F1 H1 F' H' → Zof x T W σ k as F' H' := fun F' H' e dd xr =>
  h σ F' H' dd (s.trans ((Stp.ext (φ := φ1) e).trans ⟨fun _ _ h => h, e.fh, fun a o h n _ => ⟨h, n⟩, fun i a h => nomatch h⟩)) xr
theorem PostS.stp {F1 H1 : Hp} {φ1 : Nat → List Addr} (s : Stp F H φ F1 H1 φ1) {q : Fl × En} (h : PostS x ro D F H φ r q) : PostS x ro D F1 H1 φ1 r q := by
  obtain ⟨fl, ρ'⟩ := q
  cases fl with
  | next => exact fun ω' e σ' F' H' φ' s2 r2 => h ω' e σ' F' H' φ' (s.trans s2) r2
  | brk => exact fun ω' e σ' F' H' φ' s2 r2 => h ω' e σ' F' H' φ' (s.trans s2) r2
  | cont => exact fun ω' e σ' F' H' φ' s2 r2 => h ω' e σ' F' H' φ' (s.trans s2) r2
  | ret d => exact fun v F' H' fp s2 r2 => h v F' H' fp (s.trans s2) r2
theorem og_set {i j : Nat} {o : Ow} (hi : i < ω.length) : og (ω.set i o) j = if j = i then o else og ω j := by
  unfold og
  by_cases h : j = i
  · subst h
    rw [List.getD_eq_getElem?_getD, List.getElem?_set_self hi, if_pos rfl]
    rfl
  · rw [List.getD_eq_getElem?_getD, List.getElem?_set_ne (Ne.symm h), ← List.getD_eq_getElem?_getD, if_neg h]
theorem SR.phi0 (s : SR x ρ ω σ F H φ) {i : Nat} (h : og ω i = .fz) : φ i = [] := by
  by_cases q : ∃ d, ρ[i]? = some (some d)
  · obtain ⟨d, hd⟩ := q
    obtain ⟨v, _, r⟩ := s.at_ i d hd
    rw [h] at r
    exact r.2
  · exact s.no i fun d hd => q ⟨d, hd⟩
/-- a slot takes a value with its own objects -/
theorem SR.put (s : SR x ρ ω σ F H φ) {i : Nat} {o : Ow} {d : PV.D} {v : V} {fp : List Addr} (hi : i < ω.length) (ho : o ≠ .i) (r : Rp x F H o v d fp) (n : ∀ a ∈ fp, ∀ j, a ∉ φ j) : SR x (ρ.set i (some d)) (ω.set i o) (σ.set i (some v)) F H (fun j => if j = i then fp else φ j) := by
  have hr : i < ρ.length := by rw [← s.lo]; exact hi
  have hs : i < σ.length := by rw [s.len]; exact hr
  refine ⟨s.fh, by rw [List.length_set, List.length_set]; exact s.len, by rw [List.length_set, List.length_set]; exact s.lo, fun j e he => ?_, fun j k a hj hk => ?_, fun j hj => ?_, fun w hw h0 => ?_⟩
  · rw [og_set hi]
    by_cases h : j = i
    · subst h
      rw [List.getElem?_set_self hr] at he
      cases he
      simp only [if_pos]
      exact ⟨v, by rw [List.getElem?_set_self hs], r⟩
    · simp only [if_neg h]
      rw [List.getElem?_set_ne (Ne.symm h)] at he ⊢
      exact s.at_ j e he
  · have hj2 : a ∈ (if j = i then fp else φ j) := hj
    have hk2 : a ∈ (if k = i then fp else φ k) := hk
    by_cases h1 : j = i
    · by_cases h2 : k = i
      · rw [h1, h2]
      · rw [if_pos h1] at hj2
        rw [if_neg h2] at hk2
        exact absurd hk2 (n a hj2 k)
    · by_cases h2 : k = i
      · rw [if_neg h1] at hj2
        rw [if_pos h2] at hk2
        exact absurd hj2 (n a hk2 j)
      · rw [if_neg h1] at hj2
        rw [if_neg h2] at hk2
        exact s.apart j k a hj2 hk2
  · show (if j = i then fp else φ j) = []
    by_cases h : j = i
    · subst h
      exact absurd (by rw [List.getElem?_set_self hr]) (hj d)
    · rw [if_neg h]
      refine s.no j fun e he => hj e ?_
      rw [List.getElem?_set_ne (Ne.symm h)]
      exact he
  · rw [og_set hi] at h0
    by_cases q : i = 0
    · rw [if_pos q.symm] at h0; exact absurd h0 ho
    · rw [if_neg (fun z => q z.symm)] at h0
      rw [List.getElem?_set_ne q]
      exact s.sf w hw h0
/-- an object of a slot's own is changed -/
theorem SR.chg (s : SR x ρ ω σ F H φ) {i : Nat} {o : Ow} {d : PV.D} {v : V} {fp : List Addr} {p : Addr} {ob : HO} (hi : i < ω.length) (ho : o = .i → og ω i = .i) (hv : σ[i]? = some (some v)) (hp : p ∈ φ i) (r : Rp x F (upd H p ob) o v d fp) (n : ∀ a ∈ fp, a ∈ φ i ∨ ∀ j, a ∉ φ j) :
    SR x (ρ.set i (some d)) (ω.set i o) σ F (upd H p ob) (fun j => if j = i then fp else φ j) := by
  have hr : i < ρ.length := by rw [← s.lo]; exact hi
  have hF : F p = none := (s.there hp).2
  refine ⟨fun a u q => ?_, by rw [List.length_set]; exact s.len, by rw [List.length_set, List.length_set]; exact s.lo, fun j e he => ?_, fun j k a hj hk => ?_, fun j hj => ?_, fun w hw h0 => ?_⟩
  · rw [upd_ne (fun z => by rw [z, hF] at q; cases q)]
    exact s.fh a u q
  · rw [og_set hi]
    by_cases h : j = i
    · subst h
      rw [List.getElem?_set_self hr] at he
      cases he
      simp only [if_pos]
      exact ⟨v, hv, r⟩
    · simp only [if_neg h]
      rw [List.getElem?_set_ne (Ne.symm h)] at he
      obtain ⟨w, hw, rw'⟩ := s.at_ j e he
      exact ⟨w, hw, Rp.updH (fun z => h (s.apart j i p z hp)) rw'⟩
  · have hj2 : a ∈ (if j = i then fp else φ j) := hj
    have hk2 : a ∈ (if k = i then fp else φ k) := hk
    by_cases h1 : j = i
    · by_cases h2 : k = i
      · rw [h1, h2]
      · rw [if_pos h1] at hj2
        rw [if_neg h2] at hk2
        rcases n a hj2 with z | z
        · rw [h1]; exact s.apart i k a z hk2
        · exact absurd hk2 (z k)
    · by_cases h2 : k = i
      · rw [if_neg h1] at hj2
        rw [if_pos h2] at hk2
        rcases n a hk2 with z | z
        · rw [h2]; exact s.apart j i a hj2 z
        · exact absurd hj2 (z j)
      · rw [if_neg h1] at hj2
        rw [if_neg h2] at hk2
        exact s.apart j k a hj2 hk2
  · show (if j = i then fp else φ j) = []
    by_cases h : j = i
    · subst h
      exact absurd (by rw [List.getElem?_set_self hr]) (hj d)
    · rw [if_neg h]
      refine s.no j fun e he => hj e ?_
      rw [List.getElem?_set_ne (Ne.symm h)]
      exact he
  · rw [og_set hi] at h0
    by_cases q : i = 0
    · rw [if_pos q.symm] at h0
      refine s.sf w hw ?_
      rw [← q]
      exact ho h0
    · rw [if_neg (fun z => q z.symm)] at h0
      exact s.sf w hw h0
theorem Stp.put {F' H' : Hp} {i : Nat} {fp : List Addr} (s : Stp F H φ F' H' φ) (n : ∀ a ∈ fp, H a = none) : Stp F H φ F' H' (fun j => if j = i then fp else φ j) :=
  ⟨s.f, s.fh, s.oth, fun j a h => by
    have h : a ∈ (if j = i then fp else φ j) := h
    by_cases q : j = i
    · rw [if_pos q] at h; exact .inr (n a h)
    · rw [if_neg q] at h; exact .inl ⟨j, h⟩⟩
theorem Stp.chg {i : Nat} {fp : List Addr} {p : Addr} {ob : HO} (s : Sub F H) (hp : p ∈ φ i) (nF : F p = none) (n : ∀ a ∈ fp, a ∈ φ i ∨ H a = none) : Stp F H φ F (upd H p ob) (fun j => if j = i then fp else φ j) :=
  ⟨fun _ _ h => h, fun a u q => by
      rw [upd_ne (fun z => by rw [z, nF] at q; cases q)]
      exact s a u q, fun a o h nn m => ⟨by rw [upd_ne (fun z => m i (by rw [z]; exact hp))]; exact h, nn⟩, fun j a h => by
    have h : a ∈ (if j = i then fp else φ j) := h
    by_cases q : j = i
    · rw [if_pos q] at h
      rcases n a h with z | z
      · exact .inl ⟨i, z⟩
      · exact .inr z
    · rw [if_neg q] at h; exact .inl ⟨j, h⟩⟩
theorem setMany_exc : ∀ {is : List Nat} {ds : List PV.D} {ρ : En} {k : Nat} (as : List PV.D), setMany is ds ρ ≠ .exc k as
  | [], [], _, _, _ => fun z => nomatch z
  | _ :: is, _ :: ds, ρ, k, as => setMany_exc (is := is) (ds := ds) as
  | [], _ :: _, _, _, _ => fun z => nomatch z
  | _ :: _, [], _, _, _ => fun z => nomatch z
/-! ### the simple ones -/
theorem s_never {st : Stmt} : PS X st (tS x T rt ro call wf W .never) := PS.imp ps_never fun D σ H q => by
  obtain ⟨ρ, ω, F, φ, r, s, an, w⟩ := q
  exact w
theorem s_pass : PS X (.Pass pos) (tS x T rt ro call wf W .pass) := PS.imp ps_pass fun D σ H q => by
  obtain ⟨ρ, ω, F, φ, r, s, an, w⟩ := q
  cases an
  exact w ω rfl σ F H φ (Stp.refl s.fh) s
theorem s_brk : PS X (.Break pos) (tS x T rt ro call wf W .brk) := PS.imp ps_break fun D σ H q => by
  obtain ⟨ρ, ω, F, φ, r, s, an, w⟩ := q
  cases an
  exact w ω rfl σ F H φ (Stp.refl s.fh) s
theorem s_cont : PS X (.Continue pos) (tS x T rt ro call wf W .cont) := PS.imp ps_continue fun D σ H q => by
  obtain ⟨ρ, ω, F, φ, r, s, an, w⟩ := q
  cases an
  exact w ω rfl σ F H φ (Stp.refl s.fh) s
theorem s_retN : PS X (.Return none pos) (tS x T rt ro call wf W .retN) := PS.imp ps_retN fun D σ H q => by
  obtain ⟨ρ, ω, F, φ, r, s, an, w⟩ := q
  unfold anS at an
  split at an
  · rename_i e
    subst e
    refine w .non F H [] ?_ ⟨.non, rfl⟩
    exact ⟨fun _ _ h => h, s.fh, fun a o h n _ => ⟨h, n⟩, fun i a h => by
      have h : a ∈ (if i = 0 then ([] : List Addr) else []) := h
      split at h <;> cases h⟩
  · cases an
theorem an_ret {e' : E} (an : anS rt ro ω (.ret e') = some r) : (∃ i, e' = .var i ∧ ro.le (og ω i) = true) ∨ ∃ o, leW (frE false ω e') ω = true ∧ okE rt false (frE false ω e') e' = some o ∧ ro.le o = true := by
  unfold anS at an
  split at an
  · rename_i i
    obtain ⟨h, _⟩ := if_some an
    exact .inl ⟨i, rfl, h⟩
  · obtain ⟨h1, an⟩ := if_some an
    obtain ⟨o, h2, an⟩ := bind_some an
    obtain ⟨h3, _⟩ := if_some an
    exact .inr ⟨o, h1, h2, h3⟩
theorem one_foot {fp : List Addr} {i : Nat} {a : Addr} (h : a ∈ (if i = 0 then fp else ([] : List Addr))) : a ∈ fp := by
  split at h
  · exact h
  · cases h
theorem s_ret (he : SE x T rt call (Zof x T W) X e e') (hnv : ∀ i, e' ≠ .var i) : PS X (.Return (some e) pos) (tS x T rt ro call wf W (.ret e')) := by
  refine PS.imp (ps_ret he.v) fun D σ H q => ?_
  obtain ⟨ρ, ω, F, φ, r, s, an, w⟩ := q
  rcases an_ret an with ⟨i, e, _⟩ | ⟨o, h1, h2, h3⟩
  · exact absurd e (hnv i)
  · obtain ⟨F1, φ1, s1, st1⟩ := s.lower h1
    refine ⟨ρ, _, F1, φ1, o, s1, h2, w.bind.mono (fun d w v F' H' fp ex rp n => ?_) fun k as z => XS.zof st1 z⟩
    obtain ⟨fq, fp', i1, i2, i3, i4⟩ := Rp.lower (o' := ro) ex.fh rp h3 rp.nd
    have ex2 := ex.frz fun a ha => n rfl a (i1 a ha)
    refine w v _ H' fp' ?_ i4
    have st2 := st1.trans (Stp.ext (φ := φ1) ex2)
    exact ⟨st2.f, st2.fh, st2.oth, fun i a h => .inr (n rfl a (i2.subset (one_foot h)))⟩
theorem s_retV {i : Nat} {y : Str} {p : Pos} (hN : X.N[i]? = some y) (hv : Vis X.env.scope y) (h1 : (y == ("__debug__" : Str)) = false) (h2 : (y == ("__classdict__" : Str)) = false) : PS X (.Return (some (.Name y p)) pos) (tS x T rt ro call wf W (.ret (.var i))) := by
  refine PS.imp (ps_ret (pe_var hN hv h1 h2)) fun D σ H q => ?_
  obtain ⟨ρ, ω, F, φ, r, s, an, w⟩ := q
  have le : ro.le (og ω i) = true := by
    rcases an_ret an with ⟨j, e, le⟩ | ⟨o, h1, h2, h3⟩
    · cases e; exact le
    · have h2 : (if og (ω.set i .fz) i = .fz then some Ow.fz else none) = some o := h2
      split at h2
      · cases h2
        exact Ow.le_trans h3 rfl
      · cases h2
  have w : Wp (rdV ρ i >>= fun d => R.ok (Fl.ret d, ρ)) _ _ := w
  obtain ⟨d, hd, w⟩ := rdV_wp w.bind
  obtain ⟨v, hv, rp⟩ := s.at_ i d hd
  refine ⟨v, hv, ?_⟩
  obtain ⟨fq, fp', i1, i2, i3, i4⟩ := Rp.lower (o' := ro) s.fh rp le rp.nd
  refine w v _ H fp' ?_ i4
  exact ⟨sub_frz s.fh _, frz_sub s.fh _, fun a o h n m => ⟨h, by rw [frz_out fun z => m i (i1 a z)]; exact n⟩, fun j a h => .inl ⟨i, i2.subset (one_foot h)⟩⟩
def plainE : Expr → Bool
  | .ListComp _ _ _ _ => false
  | .SetComp _ _ _ _ => false
  | .DictComp _ _ _ _ _ => false
  | _ => true
theorem swaps_no {e : Expr} {t : Option Expr} {l : Nat} {env : Env} (h : plainE e = true) : swapsWith e t l env = pure false := by
  cases e <;> first | rfl | cases h
theorem s_expr (he : SE x T rt call (Zof x T W) X e e') (hp : plainE e = true) : PS X (.Expr e pos) (tS x T rt ro call wf W (.expr e')) := by
  refine PS.imp (ps_expr he.v (swaps_no hp)) fun D σ H q => ?_
  obtain ⟨ρ, ω, F, φ, r, s, an, w⟩ := q
  unfold anS at an
  obtain ⟨h1, an⟩ := if_some an
  obtain ⟨o, h2, an⟩ := bind_some an
  cases an
  obtain ⟨F1, φ1, s1, st1⟩ := s.lower h1
  refine ⟨ρ, _, F1, φ1, o, s1, h2, w.bind.mono (fun d w v F' H' fp ex rp n => ?_) fun k as z => XS.zof st1 z⟩
  exact w _ rfl σ F' H' φ1 (st1.trans (Stp.ext ex)) (s1.ext ex)
/-- a name takes a value -/
theorem s_asg1 {st : Stmt} {i : Nat} {te : TE} (P : PS X st (tAsg te (gName i))) (hi : ∀ σ H Q, tV x T rt call (Zof x T W) false e' σ H Q → te σ H Q) : PS X st (tS x T rt ro call wf W (.asg (.one i) e')) := by
  refine PS.imp P fun D σ H q => ?_
  obtain ⟨ρ, ω, F, φ, r, s, an, w⟩ := q
  unfold anS at an
  obtain ⟨h1, an⟩ := if_some an
  simp only [Bool.and_eq_true] at h1
  obtain ⟨h1, h0⟩ := h1
  obtain ⟨o, h2, an⟩ := bind_some an
  have an : (if o = .i then none else some (Rs.mk (some ((frE false ω e').set i o)) none none)) = some r := an
  split at an
  · cases an
  rename_i hoi
  cases an
  have hil : i < ω.length := by simpa [Tg.ix] using h0
  obtain ⟨F1, φ1, s1, st1⟩ := s.lower h1
  refine hi σ H _ ⟨ρ, _, F1, φ1, o, s1, h2, w.bind.mono (fun d w v F' H' fp ex rp n => ?_) fun k as z => XS.zof st1 z⟩
  have hil2 : i < (frE false ω e').length := by rw [leW_len h1]; exact hil
  have s2 := (s1.ext ex).put hil2 hoi rp (fun a ha j z => (s1.there z).1 (n rfl a ha))
  exact w _ rfl _ F' H' _ (st1.trans ((Stp.ext ex).put (n rfl))) s2
/-- a row of names takes a tuple -/
theorem s_asgT {st : Stmt} {is : List Nat} {te : TE} (P : PS X st (tAsg te (gT x.K (.many is)))) (hi : ∀ σ H Q, tV x T rt call (Zof x T W) false e' σ H Q → te σ H Q) : PS X st (tS x T rt ro call wf W (.asg (.many is) e')) := by
  refine PS.imp P fun D σ H q => ?_
  obtain ⟨ρ, ω, F, φ, r, s, an, w⟩ := q
  unfold anS at an
  obtain ⟨h1, an⟩ := if_some an
  simp only [Bool.and_eq_true] at h1
  obtain ⟨h1, h0⟩ := h1
  obtain ⟨o, h2, an⟩ := bind_some an
  have an : (if is.Nodup then some (Rs.mk (some (setsO (frE false ω e') is)) none none) else none) = some r := an
  split at an
  · cases an
    have hil : ∀ i ∈ is, i < ω.length := by simpa [Tg.ix] using h0
    obtain ⟨F1, φ1, s1, st1⟩ := s.lower h1
    refine hi σ H _ ⟨ρ, _, F1, φ1, o, s1, h2, w.bind.mono (fun d w v F' H' fp ex rp n => ?_) fun k as z => XS.zof st1 z⟩
    -- the value is given up, the slots are
    have ex2 : Ext F1 H (frz F' H' fp) H' := ex.frz (n rfl)
    have rr : Rep x (frz F' H' fp) v d := rp.rep ex.fh
    have s2 := s1.ext ex2
    have hle : leW (setsO (frE false ω e') is) (frE false ω e') = true := by
      have gen : ∀ (is : List Nat) (ω : Om), leW (setsO ω is) ω = true := by
        intro is
        induction is with
        | nil =>
          intro ω
          induction ω with
          | nil => rfl
          | cons a as ih => exact Bool.and_eq_true_iff.mpr ⟨Ow.le_refl a, ih⟩
        | cons i is ih =>
          intro ω
          have h := ih ω
          have gen2 : ∀ (i : Nat) (a b : Om), leW a b = true → leW (a.set i .fz) b = true := by
            intro i a
            induction a generalizing i with
            | nil => intro b h; exact h
            | cons y ys ih2 =>
              intro b h
              cases b with
              | nil => cases h
              | cons z zs =>
                unfold leW at h
                simp only [Bool.and_eq_true] at h
                cases i with
                | zero => exact Bool.and_eq_true_iff.mpr ⟨rfl, h.2⟩
                | succ i => exact Bool.and_eq_true_iff.mpr ⟨h.1, ih2 i zs h.2⟩
          exact gen2 i _ _ h
      exact gen is _
    obtain ⟨F3, φ3, s3, st3⟩ := s2.lower hle
    have hw : Wp (setT (.many is) d ρ >>= fun ρ' => R.ok (Fl.next, ρ')) (PostS x ro D F H φ ⟨some (setsO (frE false ω e') is), none, none⟩) (XS x T W F H φ) := w
    cases hs : setT (.many is) d ρ with
    | bad => rw [hs] at hw; exact hw.elim
    | exc k as =>
      unfold setT at hs
      cases d <;> first | cases hs; done | skip
      rename_i ds
      exact absurd hs (setMany_exc _)
    | ok ρ' =>
      rw [hs] at hw
      have hw : ∀ ω', some (setsO (frE false ω e') is) = some ω' → ∀ σ' F' H' φ', Stp F H φ F' H' φ' → SR x ρ' ω' σ' F' H' φ' → D.nx σ' H' := hw
      refine setT_ok (ω := setsO (frE false ω e') is) s3 hs (rr.mono st3.f) (fun i (hi : i ∈ is) => ?_) fun σ2 s4 _ => hw _ rfl σ2 F3 H' φ3 (st1.trans ((Stp.ext ex2).trans st3)) s4
      have hz : og (setsO (frE false ω e') is) i = .fz := by rw [setsO_get, if_pos hi]
      exact ⟨hz, by rw [← s.lo]; exact hil i hi, s3.phi0 hz⟩
  · cases an
end
end PV
/-! PV, part t: if, blocks, for, while. -/
namespace PV
open PySem PySem.Spec PyProof.Rows L2
section
variable {x : Lx} {T : Tab} {rt : Om} {ro : Ow} {call : Cal → List PV.D → R PV.D} {wf : Nat} {W : WX} {X : Cx} {pos : Pos} {a b c e tg iter : Expr} {a' b' c' e' : E} {es : List Expr} {es' : Es}
variable {ρ : En} {ω : Om} {σ : L2.St} {F H : Hp} {φ : Nat → List Addr} {D : Ends} {r : Rs} {st : Stmt} {s1 : S} {ss1 ss2 : Ss} {sts sts2 : List Stmt}
theorem joinC_l {a b c : Option Om} (h : joinC a b = some c) {w : Om} (e : a = some w) : ∃ m, c = some m ∧ leW m w = true := by
  subst e
  cases b with
  | none => cases h; exact ⟨w, rfl, by
      have : ∀ w : Om, leW w w = true := by
        intro w
        induction w with
        | nil => rfl
        | cons a as ih => exact Bool.and_eq_true_iff.mpr ⟨Ow.le_refl a, ih⟩
      exact this w⟩
  | some v =>
    have h : (if (leW (meetW w v) w && leW (meetW w v) v) = true then some (some (meetW w v)) else none) = some c := h
    obtain ⟨h1, h⟩ := if_some h
    simp only [Bool.and_eq_true] at h1
    cases h
    exact ⟨_, rfl, h1.1⟩
theorem leW_refl : ∀ w : Om, leW w w = true
  | [] => rfl
  | a :: as => Bool.and_eq_true_iff.mpr ⟨Ow.le_refl a, leW_refl as⟩
theorem joinC_r {a b c : Option Om} (h : joinC a b = some c) {w : Om} (e : b = some w) : ∃ m, c = some m ∧ leW m w = true := by
  subst e
  cases a with
  | none => cases h; exact ⟨w, rfl, leW_refl w⟩
  | some v =>
    have h : (if (leW (meetW v w) v && leW (meetW v w) w) = true then some (some (meetW v w)) else none) = some c := h
    obtain ⟨h1, h⟩ := if_some h
    simp only [Bool.and_eq_true] at h1
    cases h
    exact ⟨_, rfl, h1.2⟩
/-- an end that is met with more owned is met -/
theorem use_low {P : L2.St → Hp → Prop} {ρ' : En} {F' H' : Hp} {φ' : Nat → List Addr} {ω' m : Om} {σ' : L2.St} (s : SR x ρ' ω' σ' F' H' φ') (st : Stp F H φ F' H' φ') (le : leW m ω' = true)
    (k : ∀ σ' F' H' φ', Stp F H φ F' H' φ' → SR x ρ' m σ' F' H' φ' → P σ' H') : P σ' H' := by
  obtain ⟨F2, φ2, s2, st2⟩ := s.lower le
  exact k σ' F2 H' φ2 (st.trans st2) s2
/-- the ends of one branch -/
theorem PostS.sub {p r : Rs} {q : Fl × En} (h : PostS x ro D F H φ r q) (h1 : ∀ w, p.nx = some w → ∃ m, r.nx = some m ∧ leW m w = true) (h2 : ∀ w, p.bk = some w → ∃ m, r.bk = some m ∧ leW m w = true) (h3 : ∀ w, p.ct = some w → ∃ m, r.ct = some m ∧ leW m w = true) :
    PostS x ro D F H φ p q := by
  obtain ⟨fl, ρ'⟩ := q
  cases fl with
  | next =>
    intro ω' e σ' F' H' φ' st s
    obtain ⟨m, e2, le⟩ := h1 ω' e
    exact use_low s st le (h m e2)
  | brk =>
    intro ω' e σ' F' H' φ' st s
    obtain ⟨m, e2, le⟩ := h2 ω' e
    exact use_low s st le (h m e2)
  | cont =>
    intro ω' e σ' F' H' φ' st s
    obtain ⟨m, e2, le⟩ := h3 ω' e
    exact use_low s st le (h m e2)
  | ret d => exact h
theorem s_ife (hc : SE x T rt call (Zof x T W) X c c') (hn : notIf c' = true) (ha : PSs X sts (tSs x T rt ro call wf W ss1)) (hb : PSs X sts2 (tSs x T rt ro call wf W ss2)) : PS X (.If c sts sts2 pos) (tS x T rt ro call wf W (.ife c' ss1 ss2)) := by
  refine PS.imp (ps_if (hc.t hn) ha hb) fun D σ H q => ?_
  obtain ⟨ρ, ω, F, φ, r, s, an, w⟩ := q
  unfold anS at an
  obtain ⟨h1, an⟩ := if_some an
  obtain ⟨o, h2, an⟩ := bind_some an
  obtain ⟨p, hp, an⟩ := bind_some an
  obtain ⟨q, hq, an⟩ := bind_some an
  obtain ⟨j1, i1, an⟩ := bind_some an
  obtain ⟨j2, i2, an⟩ := bind_some an
  obtain ⟨j3, i3, an⟩ := bind_some an
  cases an
  obtain ⟨F1, φ1, s1, st1⟩ := s.lower h1
  refine ⟨ρ, _, F1, φ1, o, s1, h2, w.bind.mono (fun d w F' H' ex => ?_) fun k as z => XS.zof st1 z⟩
  obtain ⟨k, rfl, w⟩ := bool_wp w.bind
  refine ⟨k, rfl, ?_⟩
  have st2 := st1.trans (Stp.ext (φ := φ1) ex)
  cases k with
  | true =>
    refine L2.iteT ⟨ρ, _, F', φ1, p, s1.ext ex, hp, Wp.mono (show Wp (exSs T call wf ρ ss1) _ _ from w) (fun q hq => PostS.sub (hq.stp st2) (fun w e => joinC_l i1 e) (fun w e => joinC_l i2 e) fun w e => joinC_l i3 e) fun k as z => XS.stp st2 z⟩
  | false =>
    refine L2.iteF ⟨ρ, _, F', φ1, q, s1.ext ex, hq, Wp.mono (show Wp (exSs T call wf ρ ss2) _ _ from w) (fun q hq => PostS.sub (hq.stp st2) (fun w e => joinC_r i1 e) (fun w e => joinC_r i2 e) fun w e => joinC_r i3 e) fun k as z => XS.stp st2 z⟩
theorem ss_nil : PSs X [] (tSs x T rt ro call wf W .nil) := PSs.imp pss_nil fun D σ H q => by
  obtain ⟨ρ, ω, F, φ, r, s, an, w⟩ := q
  cases an
  exact w ω rfl σ F H φ (Stp.refl s.fh) s
theorem ss_cons (h1 : PS X st (tS x T rt ro call wf W s1)) (h2 : PSs X sts (tSs x T rt ro call wf W ss1)) : PSs X (st :: sts) (tSs x T rt ro call wf W (.cons s1 ss1)) := by
  refine PSs.imp (pss_cons h1 h2) fun D σ H q => ?_
  obtain ⟨ρ, ω, F, φ, r, s, an, w⟩ := q
  unfold anSs at an
  obtain ⟨p, hp, an⟩ := bind_some an
  have w : Wp (exS T call wf ρ s1 >>= fun q => match q with
    | (.next, ρ1) => exSs T call wf ρ1 ss1
    | r => .ok r) _ _ := w
  refine ⟨ρ, ω, F, φ, p, s, hp, w.bind.mono (fun q hq => ?_) fun k as z => z⟩
  cases hnx : p.nx with
  | none =>
    rw [hnx] at an
    cases an
    obtain ⟨fl, ρ'⟩ := q
    cases fl with
    | next => intro ω' e; rw [hnx] at e; cases e
    | brk => exact hq
    | cont => exact hq
    | ret d => exact hq
  | some w1 =>
    rw [hnx] at an
    obtain ⟨q2, hq2, an⟩ := bind_some an
    obtain ⟨j2, i2, an⟩ := bind_some an
    obtain ⟨j3, i3, an⟩ := bind_some an
    cases an
    obtain ⟨fl, ρ'⟩ := q
    cases fl with
    | next =>
      intro ω' e σ' F' H' φ' st2 s2
      rw [hnx] at e
      cases e
      exact ⟨ρ', _, F', φ', q2, s2, hq2, Wp.mono (show Wp (exSs T call wf ρ' ss1) _ _ from hq) (fun q hq => PostS.sub (hq.stp st2) (fun w e => ⟨w, e, leW_refl w⟩) (fun w e => joinC_r i2 e) fun w e => joinC_r i3 e) fun k as z => XS.stp st2 z⟩
    | brk =>
      intro ω' e σ' F' H' φ' st s
      obtain ⟨m, e2, le⟩ := joinC_l i2 e
      exact use_low s st le (hq m e2)
    | cont =>
      intro ω' e σ' F' H' φ' st s
      obtain ⟨m, e2, le⟩ := joinC_l i3 e
      exact use_low s st le (hq m e2)
    | ret d => exact hq
end
end PV
/-! PV, part u: for, while, attributes, items, append. -/
namespace PV
open PySem PySem.Spec PyProof.Rows L2
section
variable {x : Lx} {T : Tab} {rt : Om} {ro : Ow} {call : Cal → List PV.D → R PV.D} {wf : Nat} {W : WX} {X : Cx} {pos : Pos} {a b c e tg iter : Expr} {a' b' c' e' : E} {es : List Expr} {es' : Es}
variable {ρ : En} {ω : Om} {σ : L2.St} {F H : Hp} {φ : Nat → List Addr} {D : Ends} {r : Rs} {st : Stmt} {s1 : S} {ss1 ss2 : Ss} {sts sts2 : List Stmt}
theorem and4 {a b c : Bool} (h : (a && b && c) = true) : a = true ∧ b = true ∧ c = true := by
  cases a <;> cases b <;> cases c <;> first | (cases h; done) | exact ⟨rfl, rfl, rfl⟩
theorem setT_wp {t : Tg} {d : PV.D} {ρ : En} {β : Type} {f : En → R β} {P : β → Prop} {Y : Nat → List PV.D → Prop} (w : Wp (setT t d ρ >>= f) P Y) : ∃ ρ', setT t d ρ = .ok ρ' ∧ Wp (f ρ') P Y := by
  cases hs : setT t d ρ with
  | bad => rw [hs] at w; exact w.elim
  | exc k as =>
    cases t with
    | one i => cases hs
    | many is =>
      unfold setT at hs
      cases d <;> first | (cases hs; done) | skip
      rename_i ds
      exact absurd hs (setMany_exc _)
  | ok ρ' => rw [hs] at w; exact ⟨ρ', rfl, w⟩
/-- what lasts through the turns of a loop -/
def backOk (w : Om) (r : Rs) : Prop := (∀ v, r.nx = some v → leW w v = true) ∧ ∀ v, r.ct = some v → leW w v = true
theorem backOk_of {w : Om} {r : Rs} (h : backB w r = true) : backOk w r := by
  unfold backB at h
  simp only [Bool.and_eq_true] at h
  refine ⟨fun v e => ?_, fun v e => ?_⟩
  · have h := h.1; rw [e] at h; exact h
  · have h := h.2; rw [e] at h; exact h
/-- the turn's ends -/
theorem turn_ends {w : Om} {r : Rs} {j : Option Om} {N : L2.St → Hp → Prop} {q : Fl × En} {F0 H0 F2 H2 : Hp} {φ0 φ2 : Nat → List Addr} {rest : En → R (Fl × En)} (bk : backOk w r) (hj : joinC (some w) r.bk = some j) (st : Stp F0 H0 φ0 F2 H2 φ2)
    (hN : ∀ ρ2 σ3 F3 H3 φ3, Stp F2 H2 φ2 F3 H3 φ3 → SR x ρ2 w σ3 F3 H3 φ3 → Wp (rest ρ2) (PostS x ro D F0 H0 φ0 ⟨j, none, none⟩) (XS x T W F0 H0 φ0) → N σ3 H3)
    (h : Wp (match q with
      | (.next, ρ2) => rest ρ2
      | (.cont, ρ2) => rest ρ2
      | (.brk, ρ2) => R.ok (Fl.next, ρ2)
      | (.ret d, ρ2) => R.ok (Fl.ret d, ρ2)) (PostS x ro D F0 H0 φ0 ⟨j, none, none⟩) (XS x T W F0 H0 φ0)) : PostS x ro { D with nx := N, ct := N, bk := D.nx } F2 H2 φ2 r q := by
  obtain ⟨fl, ρ2⟩ := q
  cases fl with
  | next =>
    intro ω' e σ' F' H' φ' s2 s
    obtain ⟨F3, φ3, s3, st3⟩ := s.lower (bk.1 ω' e)
    exact hN ρ2 σ' F3 H' φ3 (s2.trans st3) s3 h
  | cont =>
    intro ω' e σ' F' H' φ' s2 s
    obtain ⟨F3, φ3, s3, st3⟩ := s.lower (bk.2 ω' e)
    exact hN ρ2 σ' F3 H' φ3 (s2.trans st3) s3 h
  | brk =>
    intro ω' e σ' F' H' φ' s2 s
    obtain ⟨m, e2, le⟩ := joinC_r hj e
    obtain ⟨F3, φ3, s3, st3⟩ := s.lower le
    have h : ∀ ω', j = some ω' → ∀ σ' F' H' φ', Stp F0 H0 φ0 F' H' φ' → SR x ρ2 ω' σ' F' H' φ' → D.nx σ' H' := h
    exact h m e2 σ' F3 H' φ3 (st.trans (s2.trans st3)) s3
  | ret d =>
    have h : PostS x ro D F0 H0 φ0 ⟨j, none, none⟩ (.ret d, ρ2) := h
    exact fun v F' H' fp s2 r2 => h v F' H' fp (st.trans s2) r2
theorem s_for {t : Tg} {it : It} (hp : PassesOwn (model X.prog X.w) X.A X.env X.xe) (hc : X.calm = true) (hi : PI X tg iter (tI x T rt call (Zof x T W) false it)) (hg : PG X tg (gT x.K t)) (hb : PSs X sts (tSs x T rt ro call wf W ss1))
    (hs : ∀ x, foldedSetIterable iter X.env x = pure x) : PS X (.For tg iter sts [] pos) (tS x T rt ro call wf W (.for_ t it ss1)) := by
  refine PS.imp (ps_for hp hc hi hg hb hs) fun D σ H q => ?_
  obtain ⟨ρ, ω, F, φ, r0, s, an, w⟩ := q
  unfold anS at an
  generalize hv : stepW (stepW (setsO (frIt false ω it) t.ix) (anSs rt ro (setsO (frIt false ω it) t.ix) ss1)) (anSs rt ro (stepW (setsO (frIt false ω it) t.ix) (anSs rt ro (setsO (frIt false ω it) t.ix) ss1)) ss1) = v at an
  replace an : (if (leW v ω && t.ix.all (fun i => decide (i < ω.length) && decide (og v i = .fz)) && decide (t.ix.Nodup)) = true then (okIt rt false v it >>= fun k => anSs rt ro v ss1 >>= fun r => if (k && backB v r) = true then (joinC (some v) r.bk >>= fun j => some (Rs.mk j none none)) else none) else none) = some r0 := by
    subst hv
    exact an
  obtain ⟨h1, an⟩ := if_some an
  obtain ⟨h1, h2, h3⟩ := and4 h1
  obtain ⟨k, hk, an⟩ := bind_some an
  obtain ⟨r, hr, an⟩ := bind_some an
  obtain ⟨h4, an⟩ := if_some an
  obtain ⟨j, hj, an⟩ := bind_some an
  cases an
  have hkk : k = true := by
    rw [Bool.and_eq_true] at h4
    exact h4.1
  subst hkk
  have bk : backOk v r := backOk_of ((Bool.and_eq_true _ _).mp h4).2
  obtain ⟨F1, φ1, s1, st1⟩ := s.lower h1
  have w : Wp (evIt T call ρ it >>= fun xs => forL t (fun ρ => exSs T call wf ρ ss1) xs ρ) (PostS x ro D F H φ ⟨j, none, none⟩) (XS x T W F H φ) := w
  refine ⟨ρ, v, F1, φ1, s1, hk, w.bind.mono (fun xs w J F' H' ex wk => ?_) fun k as z => XS.zof st1 z⟩
  have wk : Walks x J xs F' (Sub F') := wk
  have st2 := st1.trans (Stp.ext (φ := φ1) ex)
  have hix : ∀ i ∈ t.ix, i < ω.length ∧ og v i = .fz := by
    intro i hi
    have := List.all_eq_true.mp h2 i hi
    simpa using this
  have hlen : v.length = ω.length := leW_len h1
  refine ⟨fun i m σ2 H2 => m = xs.length - i ∧ i ≤ xs.length ∧ ∃ ρ2 F2 φ2, SR x ρ2 v σ2 F2 H2 φ2 ∧ Stp F H φ F2 H2 φ2 ∧ Sub F' F2 ∧ Wp (forL t (fun ρ => exSs T call wf ρ ss1) (xs.drop i) ρ2) (PostS x ro D F H φ ⟨j, none, none⟩) (XS x T W F H φ),
    ⟨xs.length, by simp, Nat.zero_le _, ρ, F', φ1, s1.ext ex, st2, fun _ _ h => h, by rw [List.drop_zero]; exact w⟩, ?_⟩
  rintro i m σ2 H2 ⟨rfl, hi, ρ2, F2, φ2, s2, st3, sb, w2⟩
  by_cases hlt : i < xs.length
  · refine .inr ⟨wk.go i H2 (sb.trans s2.fh) hlt, fun σ3 H3 => ∃ ρ3 F3 φ3, SR x ρ3 v σ3 F3 H3 φ3 ∧ Stp F H φ F3 H3 φ3 ∧ Sub F' F3 ∧ Wp (forL t (fun ρ => exSs T call wf ρ ss1) (xs.drop (i + 1)) ρ3) (PostS x ro D F H φ ⟨j, none, none⟩) (XS x T W F H φ),
      fun σ3 H3 h3 => ⟨xs.length - (i + 1), by omega, rfl, hlt, h3⟩, fun u H3 y => ?_⟩
    obtain ⟨d, F3, hd, e3, rp⟩ := wk.yld i F2 H2 u H3 sb s2.fh (sb.trans s2.fh) y hlt
    have hdrop : xs.drop i = d :: xs.drop (i + 1) := by
      rw [List.drop_eq_getElem_cons hlt]
      have : xs[i] = d := by
        rw [List.getElem?_eq_getElem hlt] at hd
        exact Option.some.inj hd
      rw [this]
    rw [hdrop] at w2
    obtain ⟨ρ3, hs3, w3⟩ := setT_wp (show Wp (setT t d ρ2 >>= fun ρ1 => exSs T call wf ρ1 ss1 >>= _) _ _ from w2)
    have s3 := s2.ext e3
    refine setT_ok s3 hs3 rp (fun i hi => ?_) fun σ4 s4 _ => ?_
    · obtain ⟨a1, a2⟩ := hix i hi
      exact ⟨a2, by rw [← s3.lo, hlen]; exact a1, s3.phi0 a2⟩
    · have st4 := st3.trans (Stp.ext (φ := φ2) e3)
      refine ⟨ρ3, v, F3, φ2, r, s4, hr, w3.bind.mono (fun q hq => ?_) fun k as z => XS.stp st4 z⟩
      exact turn_ends (rest := fun ρ2 => forL t (fun ρ => exSs T call wf ρ ss1) (xs.drop (i + 1)) ρ2) bk hj st4 (fun ρ5 σ5 F5 H5 φ5 st5 s5 w5 => ⟨ρ5, F5, φ5, s5, st4.trans st5, sb.trans (e3.f.trans st5.f), w5⟩) hq
  · have e : i = xs.length := by omega
    subst e
    rw [List.drop_length] at w2
    refine .inl ⟨wk.stop H2 (sb.trans s2.fh), ?_⟩
    obtain ⟨m, e2, le⟩ := joinC_l hj rfl
    obtain ⟨F3, φ3, s3, st5⟩ := s2.lower le
    have w2 : ∀ ω', j = some ω' → ∀ σ' F' H' φ', Stp F H φ F' H' φ' → SR x ρ2 ω' σ' F' H' φ' → D.nx σ' H' := w2
    exact w2 m e2 σ2 F3 H2 φ3 (st3.trans st5) s3
theorem s_while (hp : PassesOwn (model X.prog X.w) X.A X.env X.xe) (hc : SE x T rt call (Zof x T W) X c c') (hn : notIf c' = true) (hb : PSs X sts (tSs x T rt ro call wf W ss1)) : PS X (.While c sts [] pos) (tS x T rt ro call wf W (.while_ c' ss1)) := by
  refine PS.imp (ps_while hp (hc.t hn) hb) fun D σ H q => ?_
  obtain ⟨ρ, ω, F, φ, r0, s, an, w⟩ := q
  unfold anS at an
  generalize hv : stepW (stepW (frE true ω c') (anSs rt ro (frE true ω c') ss1)) (anSs rt ro (stepW (frE true ω c') (anSs rt ro (frE true ω c') ss1)) ss1) = v at an
  replace an : (if leW v ω = true then (okE rt true v c' >>= fun k => anSs rt ro v ss1 >>= fun r => if backB v r = true then (joinC (some v) r.bk >>= fun j => some (Rs.mk j none none)) else none) else none) = some r0 := by
    subst hv
    exact an
  obtain ⟨h1, an⟩ := if_some an
  obtain ⟨o, hk, an⟩ := bind_some an
  obtain ⟨r, hr, an⟩ := bind_some an
  obtain ⟨h4, an⟩ := if_some an
  obtain ⟨j, hj, an⟩ := bind_some an
  cases an
  have bk : backOk v r := backOk_of h4
  obtain ⟨F1, φ1, s1, st1⟩ := s.lower h1
  have w : Wp (whL (fun ρ => evE T call ρ c' >>= bool_) (fun ρ => exSs T call wf ρ ss1) wf ρ) (PostS x ro D F H φ ⟨j, none, none⟩) (XS x T W F H φ) := w
  refine ⟨fun m σ2 H2 => ∃ ρ2 F2 φ2, SR x ρ2 v σ2 F2 H2 φ2 ∧ Stp F H φ F2 H2 φ2 ∧ Wp (whL (fun ρ => evE T call ρ c' >>= bool_) (fun ρ => exSs T call wf ρ ss1) m ρ2) (PostS x ro D F H φ ⟨j, none, none⟩) (XS x T W F H φ),
    ⟨wf, ρ, F1, φ1, s1, st1, w⟩, ?_⟩
  rintro m σ2 H2 ⟨ρ2, F2, φ2, s2, st2, w2⟩
  cases m with
  | zero => exact w2.elim
  | succ m =>
    have w2 : Wp ((evE T call ρ2 c' >>= bool_) >>= fun k => if k = true then exSs T call wf ρ2 ss1 >>= fun q => match q with
      | (.next, ρ2) => whL (fun ρ => evE T call ρ c' >>= bool_) (fun ρ => exSs T call wf ρ ss1) m ρ2
      | (.cont, ρ2) => whL (fun ρ => evE T call ρ c' >>= bool_) (fun ρ => exSs T call wf ρ ss1) m ρ2
      | (.brk, ρ2) => .ok (.next, ρ2)
      | (.ret d, ρ2) => .ok (.ret d, ρ2)
    else .ok (.next, ρ2)) (PostS x ro D F H φ ⟨j, none, none⟩) (XS x T W F H φ) := w2
    refine ⟨ρ2, v, F2, φ2, o, s2, hk, w2.bind.bind.mono (fun d wd F3 H3 ex => ?_) fun k as z => XS.zof st2 z⟩
    obtain ⟨k, rfl, w3⟩ := bool_wp wd
    refine ⟨k, rfl, ?_⟩
    have st3 := st2.trans (Stp.ext (φ := φ2) ex)
    have s3 := s2.ext ex
    cases k with
    | true =>
      refine L2.iteT ⟨fun σ3 H3 => ∃ ρ3 F3 φ3, SR x ρ3 v σ3 F3 H3 φ3 ∧ Stp F H φ F3 H3 φ3 ∧ Wp (whL (fun ρ => evE T call ρ c' >>= bool_) (fun ρ => exSs T call wf ρ ss1) m ρ3) (PostS x ro D F H φ ⟨j, none, none⟩) (XS x T W F H φ),
        fun σ3 H3 h3 => ⟨m, Nat.lt_succ_self m, h3⟩, ?_⟩
      refine ⟨ρ2, v, F3, φ2, r, s3, hr, (show Wp (exSs T call wf ρ2 ss1 >>= _) _ _ from w3).bind.mono (fun q hq => ?_) fun k as z => XS.stp st3 z⟩
      exact turn_ends (rest := fun ρ2 => whL (fun ρ => evE T call ρ c' >>= bool_) (fun ρ => exSs T call wf ρ ss1) m ρ2) bk hj st3 (fun ρ5 σ5 F5 H5 φ5 st5 s5 w5 => ⟨ρ5, F5, φ5, s5, st3.trans st5, w5⟩) hq
    | false =>
      refine L2.iteF ?_
      obtain ⟨m, e2, le⟩ := joinC_l hj rfl
      obtain ⟨F5, φ5, s5, st5⟩ := s3.lower le
      have w3 : ∀ ω', j = some ω' → ∀ σ' F' H' φ', Stp F H φ F' H' φ' → SR x ρ2 ω' σ' F' H' φ' → D.nx σ' H' := w3
      exact w3 m e2 σ2 F5 H3 φ5 (st3.trans st5) s5
/-! ### an instance's attribute -/
theorem putF_names (inj : ∀ f g, x.an f = x.an g → f = g) {f : Nat} {v : V} {d : PV.D} : ∀ {fvs : List (Str × V)} {fs : List (Nat × PV.D)}, fvs.map (·.1) = fs.map (fun p => x.an p.1) → (L2.putF (x.an f) v fvs).map (·.1) = (PV.putF f d fs).map (fun p => x.an p.1)
  | [], [], _ => rfl
  | (y, u) :: fvs, (g, e) :: fs, h => by
    have h1 : y = x.an g := (List.cons.inj h).1
    have h2 := (List.cons.inj h).2
    subst h1
    unfold L2.putF PV.putF
    by_cases hfg : f = g
    · subst hfg
      rw [if_pos rfl]
      simp only [BEq.rfl, if_true]
      exact congrArg (x.an f :: ·) h2
    · have hb : (f == g) = false := by simpa using hfg
      rw [if_neg (fun z => hfg (inj _ _ z).symm), hb]
      exact congrArg (x.an g :: ·) (putF_names inj h2)
  | [], _ :: _, h => nomatch h
  | _ :: _, [], h => nomatch h
theorem putF_reps (inj : ∀ f g, x.an f = x.an g → f = g) {F : Hp} {f : Nat} {v : V} {d : PV.D} (r : Rep x F v d) : ∀ {fvs : List (Str × V)} {fs : List (Nat × PV.D)}, fvs.map (·.1) = fs.map (fun p => x.an p.1) → Reps x F (fvs.map (·.2)) (fs.map (·.2)) →
    Reps x F ((L2.putF (x.an f) v fvs).map (·.2)) ((PV.putF f d fs).map (·.2))
  | [], [], _, _ => .cons r .nil
  | (y, u) :: fvs, (g, e) :: fs, h, t => by
    have h1 : y = x.an g := (List.cons.inj h).1
    have h2 := (List.cons.inj h).2
    subst h1
    cases t with
    | cons r1 t =>
      unfold L2.putF PV.putF
      by_cases hfg : f = g
      · subst hfg
        rw [if_pos rfl]
        simp only [BEq.rfl, if_true]
        exact .cons r t
      · have hb : (f == g) = false := by simpa using hfg
        rw [if_neg (fun z => hfg (inj _ _ z).symm), hb]
        exact .cons r1 (putF_reps inj r h2 t)
  | [], _ :: _, h, _ => nomatch h
  | _ :: _, [], h, _ => nomatch h
theorem Reps.length2 {F : Hp} {fvs : List (Str × V)} {fs : List (Nat × PV.D)} (h : Reps x F (fvs.map (·.2)) (fs.map (·.2))) : fvs.length = fs.length := by
  simpa using h.length
theorem swaps_att {e o : Expr} {f : Str} {p : Pos} {l : Nat} {env : Env} (h : plainE e = true) : swapsWith e (some (.Attribute o f p)) l env = pure false := swaps_no h
theorem s_setA {i f : Nat} {y g : Str} {p p' : Pos} (hx : X.K = x.K) (inj : ∀ f g, x.an f = x.an g → f = g) (hg : x.an f = g) (hcl : ∀ c q, T.cls[c]? = some q → f ∈ q.flds → Cls x.K (x.cA c) ∧ NoAttr x.K (x.cA c) (x.an f))
    (hN : X.N[i]? = some y) (hv : Vis X.env.scope y) (h1 : (y == ("__debug__" : Str)) = false) (h2 : (y == ("__classdict__" : Str)) = false) (he : SE x T rt call (Zof x T W) X e e') (hpl : plainE e = true) :
    PS X (.Assign [.Attribute (.Name y p) g p'] e pos) (tS x T rt ro call wf W (.setA i f e')) := by
  subst hg
  refine PS.imp (ps_fld (pe_var hN hv h1 h2) he.v (swaps_att hpl)) fun D σ H q => ?_
  obtain ⟨ρ, ω, F, φ, r, s, an, w⟩ := q
  unfold anS at an
  obtain ⟨h3, an⟩ := if_some an
  simp only [Bool.and_eq_true] at h3
  obtain ⟨h3, h4⟩ := h3
  have h4 : og (frE false ω e') i = .i := of_decide_eq_true h4
  obtain ⟨o, h5, an⟩ := bind_some an
  cases an
  obtain ⟨F1, φ1, s1, st1⟩ := s.lower h3
  refine ⟨ρ, _, F1, φ1, o, s1, h5, w.bind.mono (fun d w v F' H' fp ex rp n => ?_) fun k as z => XS.zof st1 z⟩
  have ex2 : Ext F1 H (frz F' H' fp) H' := ex.frz (n rfl)
  have rr : Rep x (frz F' H' fp) v d := rp.rep ex.fh
  have s2 := s1.ext ex2
  cases hd : ρ[i]? with
  | none => rw [hd] at w; exact w.elim
  | some od =>
    cases od with
    | none => rw [hd] at w; exact w.elim
    | some d0 =>
      rw [hd] at w
      cases d0 <;> first | (exact w.elim) | skip
      rename_i c fs
      have w : Wp (if ((T.cls[c]?).map fun q => q.flds.contains f) = some true ∧ fs.length < 900 then R.ok (Fl.next, ρ.set i (some (.ins c (PV.putF f d fs)))) else .bad) (PostS x ro D F H φ ⟨some (frE false ω e'), none, none⟩) (XS x T W F H φ) := w
      split at w
      · rename_i hq
        obtain ⟨hq, hlen⟩ := hq
        cases hT : T.cls[c]? with
        | none => rw [hT] at hq; cases hq
        | some q =>
          rw [hT] at hq
          have hq : some (q.flds.contains f) = some true := hq
          have hf : f ∈ q.flds := by simpa using Option.some.inj hq
          obtain ⟨C1, C2⟩ := hcl c q hT hf
          obtain ⟨v0, hv0, r0⟩ := s2.at_ i _ hd
          rw [h4] at r0
          obtain ⟨a, dx, c2, fvs, fs2, rfl, e0, e1, nF, m1, m2, hfp⟩ := r0
          cases e0
          refine ⟨_, hv0, a, x.cA c, dx, fvs, rfl, e1, by rw [hx]; exact C1, by rw [hx]; exact C2, by have := m2.length2; omega, ?_⟩
          have w : ∀ ω', some (frE false ω e') = some ω' → ∀ σ' F' H' φ', Stp F H φ F' H' φ' → SR x (ρ.set i (some (.ins c (PV.putF f d fs)))) ω' σ' F' H' φ' → D.nx σ' H' := w
          have hp : a ∈ φ1 i := by rw [hfp]; exact List.mem_singleton.mpr rfl
          have hil : i < (frE false ω e').length := by
            rw [s2.lo]
            exact (List.getElem?_eq_some_iff.mp hd).1
          have s3 := s2.chg (o := .i) (d := .ins c (PV.putF f d fs)) (fp := [a]) (ob := .ins (x.cA c) dx (L2.putF (x.an f) v fvs)) hil (fun _ => h4) hv0 hp
            ⟨a, dx, c, _, _, rfl, rfl, upd_same, nF, putF_names inj m1, putF_reps inj rr m1 m2, rfl⟩ (fun b hb => .inl (by rw [List.mem_singleton.mp hb]; exact hp))
          have hset : (frE false ω e').set i .i = frE false ω e' := by
            apply List.ext_getElem?
            intro k
            by_cases hk : i = k
            · subst hk
              rw [List.getElem?_set_self hil, ← h4]
              unfold og
              rw [List.getD_eq_getElem?_getD, List.getElem?_eq_getElem hil]
              rfl
            · rw [List.getElem?_set_ne hk]
          rw [hset] at s3
          exact w _ rfl σ _ _ _ (st1.trans ((Stp.ext ex2).trans (Stp.chg s2.fh hp nF fun b hb => .inl (by rw [List.mem_singleton.mp hb]; exact hp)))) s3
      · exact w.elim
end
end PV
/-! PV, part v: a list of a slot's own is changed. -/
namespace PV
open PySem PySem.Spec PyProof.Rows L2
section
variable {x : Lx} {T : Tab} {rt : Om} {ro : Ow} {call : Cal → List PV.D → R PV.D} {wf : Nat} {W : WX} {X : Cx} {pos : Pos} {a b c e tg iter : Expr} {a' b' c' e' : E} {es : List Expr} {es' : Es}
variable {ρ : En} {ω : Om} {σ : L2.St} {F H : Hp} {φ : Nat → List Addr} {D : Ends} {r : Rs} {st : Stmt} {s1 : S} {ss1 ss2 : Ss} {sts sts2 : List Stmt}
theorem Rp.grow {F' : Hp} (s : Sub F F') : ∀ {o : Ow} {v : V} {d : PV.D} {fp : List Addr}, Rp x F H o v d fp → (∀ a ∈ fp, F' a = none) → Rp x F' H o v d fp
  | .fz, _, _, _, h, _ => ⟨h.1.mono s, h.2⟩
  | .i, _, _, _, h, n => by
    obtain ⟨a, dx, c, fvs, fs, rfl, rfl, q, nf, m, r, rfl⟩ := h
    exact ⟨a, dx, c, fvs, fs, rfl, rfl, q, n a (List.mem_singleton.mpr rfl), m, r.mono s, rfl⟩
  | .l o, _, _, _, h, n => by
    obtain ⟨a, vs, ds, fps, rfl, rfl, q, nf, l1, l2, hk, rfl, nd⟩ := h
    refine ⟨a, vs, ds, fps, rfl, rfl, q, n a List.mem_cons_self, l1, l2, fun k w e g a1 a2 a3 => Rp.grow s (hk k w e g a1 a2 a3) fun b hb => n b ?_, rfl, nd⟩
    exact List.mem_cons_of_mem _ (List.mem_flatten.mpr ⟨g, List.mem_of_getElem? a3, hb⟩)
theorem og_at {i : Nat} {o : Ow} (hi : i < ω.length) : og (ω.set i o) i = o := by rw [og_set hi, if_pos rfl]
/-- a list of a slot's own takes a value -/
theorem list_take {o oi : Ow} {i : Nat} {d : PV.D} {v : V} {fp : List Addr} {xs : List PV.D} {F' H' : Hp} (s : SR x ρ ω σ F H φ) (ex : Ext F H F' H') (rp : Rp x F' H' o v d fp) (n : ∀ a ∈ fp, H a = none) (ho : og ω i = .l oi) (hd : ρ[i]? = some (some (.lst xs))) :
    ∃ (p : Addr) (vs : List V) (F4 : Hp) (fps : List (List Addr)) (fp' : List Addr), σ[i]? = some (some (.ref p)) ∧ H' p = some (.lst vs) ∧ vs.length = xs.length ∧ fps.length = xs.length ∧ fps.flatten.Nodup ∧ fp'.Nodup ∧ (∀ a ∈ fps.flatten, a ∉ fp') ∧
      ∀ (vs' : List V) (ds' : List PV.D) (fps' : List (List Addr)), vs'.length = ds'.length → fps'.length = ds'.length →
        (∀ (k : Nat) (w : V) (e : PV.D) (g : List Addr), vs'[k]? = some w → ds'[k]? = some e → fps'[k]? = some g → (∃ k' : Nat, vs[k']? = some w ∧ xs[k']? = some e ∧ fps[k']? = some g) ∨ (w = v ∧ e = d ∧ g = fp')) →
        fps'.flatten.Nodup → (∀ a ∈ fps'.flatten, a ∈ fps.flatten ∨ a ∈ fp') →
        ∃ φ5, SR x (ρ.set i (some (.lst ds'))) (ω.set i (.l (oi.meet o))) σ F4 (upd H' p (.lst vs')) φ5 ∧ Stp F H φ F4 (upd H' p (.lst vs')) φ5 := by
  obtain ⟨fq, fp', i1, i2, i3, i4⟩ := Rp.lower (o' := oi.meet o) ex.fh rp (Ow.meet_le2 _ _) rp.nd
  have ex3 : Ext F H (frz F' H' fq) H' := ex.frz fun a ha => n a (i1 a ha)
  have s3 := s.ext ex3
  have hil : i < ω.length := by rw [s.lo]; exact (List.getElem?_eq_some_iff.mp hd).1
  obtain ⟨F4, φ4, s4, sb4, b4, c4⟩ := s3.low1 i (.l (oi.meet o)) hil (by rw [ho]; exact Ow.meet_le _ _)
  obtain ⟨v0, hv0, r0⟩ := s4.at_ i _ hd
  rw [og_at hil] at r0
  obtain ⟨p, vs, ds, fps, rfl, e0, hH, hF, l1, l2, hk, hfp, nd⟩ := r0
  cases e0
  have nfp' : ∀ a ∈ fp', H a = none := fun a ha => n a (i2.subset ha)
  have own4 : ∀ {j a}, a ∈ φ4 j → H a ≠ none := fun {j a} h => (s.there (b4 j a h)).1
  have v4 : Rp x F4 H' (oi.meet o) v d fp' := i4.grow sb4 fun a ha => by
    rw [c4 a fun j hj => (s.there hj).1 (nfp' a ha)]
    exact (i4.there a ha).2
  have hpi : p ∈ φ4 i := by rw [hfp]; exact List.mem_cons_self
  have hps : ∀ a ∈ fps.flatten, a ∈ φ4 i := fun a ha => by rw [hfp]; exact List.mem_cons_of_mem _ ha
  have pn : p ∉ fp' := fun z => own4 hpi (nfp' p z)
  rw [hfp] at nd
  obtain ⟨nd1, nd2⟩ := List.nodup_cons.mp nd
  refine ⟨p, vs, F4, fps, fp', hv0, hH, l1, l2, nd2, i4.nd, fun a ha z => own4 (hps a ha) (nfp' a z), fun vs' ds' fps' k1 k2 k3 k4 k5 => ?_⟩
  have hnew : Rp x F4 (upd H' p (.lst vs')) (.l (oi.meet o)) (.ref p) (.lst ds') (p :: fps'.flatten) := by
    refine ⟨p, vs', ds', fps', rfl, rfl, upd_same, hF, k1, k2, fun k w e g a1 a2 a3 => ?_, rfl, ?_⟩
    · rcases k3 k w e g a1 a2 a3 with ⟨k', c1, c2, c3⟩ | ⟨rfl, rfl, rfl⟩
      · exact Rp.updH (fun z => nd1 (List.mem_flatten.mpr ⟨g, List.mem_of_getElem? c3, z⟩)) (hk k' w e g c1 c2 c3)
      · exact Rp.updH pn v4
    · refine List.nodup_cons.mpr ⟨fun z => ?_, k4⟩
      rcases k5 p z with z | z
      · exact nd1 z
      · exact pn z
  have hfp5 : ∀ a ∈ p :: fps'.flatten, a ∈ φ4 i ∨ a ∈ fp' := fun a ha => by
    rcases List.mem_cons.mp ha with rfl | ha
    · exact .inl hpi
    · rcases k5 a ha with z | z
      · exact .inl (hps a z)
      · exact .inr z
  have s5 := s4.chg (o := .l (oi.meet o)) (by rw [List.length_set]; exact hil) (fun z => by cases z) hv0 hpi hnew fun a ha => (hfp5 a ha).imp id fun z j hj => own4 hj (nfp' a z)
  rw [List.set_set] at s5
  refine ⟨_, s5, ⟨ex3.f.trans sb4, s5.fh, fun a u h nn m => ?_, fun j a ha => ?_⟩⟩
  · refine ⟨?_, ?_⟩
    · rw [upd_ne (fun z => m i (b4 i a (by rw [z]; exact hpi)))]
      exact ex3.h a u h
    · rw [c4 a m]
      exact ex3.nn nn (by rw [h]; exact fun z => nomatch z)
  · have ha : a ∈ (if j = i then p :: fps'.flatten else φ4 j) := ha
    by_cases q : j = i
    · rw [if_pos q] at ha
      rcases hfp5 a ha with z | z
      · exact .inl ⟨i, b4 i a z⟩
      · exact .inr (nfp' a z)
    · rw [if_neg q] at ha
      exact .inl ⟨j, b4 j a ha⟩
theorem get_append_one {α : Type} {xs : List α} {y z : α} {k : Nat} (h : (xs ++ [y])[k]? = some z) : (k < xs.length ∧ xs[k]? = some z) ∨ (k = xs.length ∧ z = y) := by
  by_cases hk : k < xs.length
  · rw [List.getElem?_append_left hk] at h
    exact .inl ⟨hk, h⟩
  · rw [List.getElem?_append_right (by omega)] at h
    have : k - xs.length = 0 := by
      cases q : k - xs.length with
      | zero => rfl
      | succ m => rw [q] at h; simp at h
    rw [this] at h
    exact .inr ⟨by omega, (by simpa using h.symm)⟩
/-- y.append(e) -/
theorem s_app0 {i : Nat} {y : Str} {p apos cpos : Pos} (hx : X.K = x.K) (hN : X.N[i]? = some y) (hv : Vis X.env.scope y) (h1 : (y == ("__debug__" : Str)) = false) (h2 : (y == ("__classdict__" : Str)) = false) (he : SE x T rt call (Zof x T W) X e e') (hs : noStar e = true)
    (hl : (apos.endLine == cpos.line) = true) : PS X (.Expr (.Call (.Attribute (.Name y p) "append" apos) [e] [] cpos) pos) (tS x T rt ro call wf W (.app i .nil e')) := by
  have P := pe_bm (cpos := cpos) (apos := apos) F.plainAttrs_list F.slot_list_append rfl (mt_append (X := X)) (pe_var (pos := p) hN hv h1 h2) (pa_cons he.v pa_nil (star_of hs)) rfl (by rw [star_of hs]; rfl) hl (star_of hs) rfl
  refine PS.imp (ps_expr P (swaps_no rfl)) fun D σ H q => ?_
  obtain ⟨ρ, ω, F, φ, r, s, an, w⟩ := q
  unfold anS at an
  replace an : (if leW (frE false ω e') ω = true then (okE rt false (frE false ω e') e' >>= fun o => appO (og (frE false ω e') i) 0 o >>= fun p => some (Rs.mk (some ((frE false ω e').set i p)) none none)) else none) = some r := an
  obtain ⟨h3, an⟩ := if_some an
  obtain ⟨o, h5, an⟩ := bind_some an
  obtain ⟨q, h6, an⟩ := bind_some an
  cases an
  obtain ⟨F1, φ1, s1, st1⟩ := s.lower h3
  have w : Wp (rdV ρ i >>= fun x => getPath x [] >>= fun _ => evE T call ρ e' >>= fun d => appPath x [] d >>= fun z => R.ok (Fl.next, ρ.set i (some z))) (PostS x ro D F H φ ⟨some ((frE false ω e').set i q), none, none⟩) (XS x T W F H φ) := w
  obtain ⟨d0, hd, w⟩ := rdV_wp w.bind
  cases d0 <;> first | exact w.elim | skip
  rename_i xs
  have w : Wp (evE T call ρ e' >>= fun d => appPath (.lst xs) [] d >>= fun z => R.ok (Fl.next, ρ.set i (some z))) (PostS x ro D F H φ ⟨some ((frE false ω e').set i q), none, none⟩) (XS x T W F H φ) := w
  have hoi : ∃ oi, og (frE false ω e') i = .l oi ∧ q = .l (oi.meet o) := by
    cases z : og (frE false ω e') i with
    | fz => rw [z] at h6; cases h6
    | i => rw [z] at h6; cases h6
    | l oi => rw [z] at h6; cases h6; exact ⟨oi, rfl, rfl⟩
  obtain ⟨oi, ho, rfl⟩ := hoi
  obtain ⟨v0, hv0, r0⟩ := s1.at_ i _ hd
  have r00 := r0
  rw [ho] at r0
  obtain ⟨p0, vs0, ds0, fps0, rfl, e0, hH0, hF0, _⟩ := r0
  cases e0
  refine ⟨_, hv0, ?_, ?_⟩
  · exact .inl ⟨rfl, _, SqL.of hH0⟩
  refine ⟨ρ, _, F1, φ1, o, s1, h5, w.bind.mono (fun d w v F' H' fp ex rp n => ?_) fun k as z => XS.zof st1 z⟩
  obtain ⟨p, vs, F4, fps, fp', a1, a2, a3, a4, a5, a6, a7, go⟩ := list_take s1 ex rp (n rfl) ho hd
  rw [hv0] at a1
  cases a1
  have w : Wp ((if xs.length < sizeLine then R.ok (PV.D.lst (xs ++ [d])) else .bad) >>= fun z => R.ok (Fl.next, ρ.set i (some z))) (PostS x ro D F H φ ⟨some ((frE false ω e').set i (.l (oi.meet o))), none, none⟩) (XS x T W F H φ) := w
  by_cases hz : xs.length < sizeLine
  · rw [if_pos hz] at w
    have w : ∀ ω', some ((frE false ω e').set i (.l (oi.meet o))) = some ω' → ∀ σ' F' H' φ', Stp F H φ F' H' φ' → SR x (ρ.set i (some (.lst (xs ++ [d])))) ω' σ' F' H' φ' → D.nx σ' H' := w
    obtain ⟨φ5, s5, st5⟩ := go (vs ++ [v]) (xs ++ [d]) (fps ++ [fp']) (by simp [a3]) (by simp [a4]) (fun k w e g b1 b2 b3 => by
      rcases get_append_one b1 with ⟨k1, b1⟩ | ⟨k1, b1⟩
      · rcases get_append_one b2 with ⟨k2, b2⟩ | ⟨k2, b2⟩
        · rcases get_append_one b3 with ⟨k3, b3⟩ | ⟨k3, b3⟩
          · exact .inl ⟨k, b1, b2, b3⟩
          · omega
        · omega
      · rcases get_append_one b2 with ⟨k2, b2⟩ | ⟨k2, b2⟩
        · omega
        · rcases get_append_one b3 with ⟨k3, b3⟩ | ⟨k3, b3⟩
          · omega
          · exact .inr ⟨b1, b2, b3⟩) (by
      rw [List.flatten_append]
      simp only [List.flatten_cons, List.flatten_nil, List.append_nil]
      exact List.nodup_append.mpr ⟨a5, a6, fun a ha b hb z => a7 a ha (by rw [z]; exact hb)⟩) (fun a ha => by
      rw [List.flatten_append] at ha
      simp only [List.flatten_cons, List.flatten_nil, List.append_nil] at ha
      exact List.mem_append.mp ha)
    exact ⟨_, vs, v, rfl, rfl, a2, by omega, w _ rfl σ F4 _ φ5 (st1.trans st5) s5⟩
  · rw [if_neg hz] at w
    exact w.elim
theorem nodup_set_flat {fp : List Addr} (nd : fp.Nodup) : ∀ {fps : List (List Addr)} {j : Nat}, fps.flatten.Nodup → (∀ a ∈ fps.flatten, a ∉ fp) → (fps.set j fp).flatten.Nodup ∧ ∀ a ∈ (fps.set j fp).flatten, a ∈ fps.flatten ∨ a ∈ fp
  | [], j, h, _ => ⟨h, fun a ha => .inl ha⟩
  | g :: gs, 0, h, n => by
    rw [List.flatten_cons] at h n
    rw [List.set_cons_zero, List.flatten_cons, List.flatten_cons]
    obtain ⟨h1, h2, h3⟩ := List.nodup_append.mp h
    refine ⟨List.nodup_append.mpr ⟨nd, h2, fun a ha b hb z => n b (List.mem_append_right _ hb) (by rw [← z]; exact ha)⟩, fun a ha => ?_⟩
    rcases List.mem_append.mp ha with z | z
    · exact .inr z
    · exact .inl (List.mem_append_right _ z)
  | g :: gs, j + 1, h, n => by
    rw [List.flatten_cons] at h n
    rw [List.set_cons_succ, List.flatten_cons, List.flatten_cons]
    obtain ⟨h1, h2, h3⟩ := List.nodup_append.mp h
    obtain ⟨i1, i2⟩ := nodup_set_flat nd (j := j) h2 fun a ha => n a (List.mem_append_right _ ha)
    refine ⟨List.nodup_append.mpr ⟨h1, i1, fun a ha b hb z => ?_⟩, fun a ha => ?_⟩
    · rcases i2 b hb with y | y
      · exact h3 a ha b y z
      · exact n a (List.mem_append_left _ ha) (by rw [z]; exact y)
    · rcases List.mem_append.mp ha with z | z
      · exact .inl (List.mem_append_left _ z)
      · exact (i2 a z).imp (List.mem_append_right _) id
theorem get_set {α : Type} {xs : List α} {y z : α} {j k : Nat} (h : (xs.set j y)[k]? = some z) : (k ≠ j ∧ xs[k]? = some z) ∨ (k = j ∧ z = y) := by
  by_cases hk : j = k
  · subst hk
    have hl : j < xs.length := by
      have := (List.getElem?_eq_some_iff.mp h).1
      simpa using this
    rw [List.getElem?_set_self hl] at h
    exact .inr ⟨rfl, (Option.some.inj h).symm⟩
  · rw [List.getElem?_set_ne hk] at h
    exact .inl ⟨Ne.symm hk, h⟩
/-- y[k] = e -/
theorem s_setI1 {i : Nat} (P : PS X st (tAsg (tV x T rt call (Zof x T W) false e') (gSub (tVar i) (tV x T rt call (Zof x T W) true b') rSetL))) :
    PS X st (tS x T rt ro call wf W (.setI i (.cons b' .nil) e')) := by
  refine PS.imp P fun D σ H q => ?_
  obtain ⟨ρ, ω, F, φ, r, s, an, w⟩ := q
  unfold anS at an
  replace an : (if leW (frE true (frE false ω e') b') ω = true then (okE rt false (frE true (frE false ω e') b') e' >>= fun o => okBs rt (frE true (frE false ω e') b') (.cons b' .nil) >>= fun k => setO (og (frE true (frE false ω e') b') i) 1 o >>= fun p => if k = true then some (Rs.mk (some ((frE true (frE false ω e') b').set i p)) none none) else none) else none) = some r := an
  generalize frE true (frE false ω e') b' = wm at an
  obtain ⟨h3, an⟩ := if_some an
  obtain ⟨o, h5, an⟩ := bind_some an
  obtain ⟨kk, hkk, an⟩ := bind_some an
  obtain ⟨q, h6, an⟩ := bind_some an
  obtain ⟨h7, an⟩ := if_some an
  cases an
  obtain ⟨ob, hob, _⟩ := bind_some (show (okE rt true wm b' >>= fun x => okBs rt wm .nil >>= fun y => some (x.flat && y)) = some kk from hkk)
  obtain ⟨F1, φ1, s1, st1⟩ := s.lower h3
  have w : Wp (evE T call ρ e' >>= fun d => rdV ρ i >>= fun x => evEs T call ρ (.cons b' .nil) >>= fun ks => setPath x ks d >>= fun z => R.ok (Fl.next, ρ.set i (some z))) (PostS x ro D F H φ ⟨some (wm.set i q), none, none⟩) (XS x T W F H φ) := w
  have hoi : ∃ oi, og wm i = .l oi ∧ q = .l (oi.meet o) := by
    cases z : og wm i with
    | fz => rw [z] at h6; cases h6
    | i => rw [z] at h6; cases h6
    | l oi => rw [z] at h6; cases h6; exact ⟨oi, rfl, rfl⟩
  obtain ⟨oi, ho, rfl⟩ := hoi
  refine ⟨ρ, _, F1, φ1, o, s1, h5, w.bind.mono (fun d w v F' H' fp ex rp n => ?_) fun k as z => XS.zof st1 z⟩
  obtain ⟨d0, hd, w⟩ := rdV_wp w.bind
  obtain ⟨v0, hv0, r0⟩ := s1.at_ i _ hd
  refine ⟨v0, hv0, ?_⟩
  replace w : Wp (evE T call ρ b' >>= fun k => setPath d0 [k] d >>= fun z => R.ok (Fl.next, ρ.set i (some z))) (PostS x ro D F H φ ⟨some (wm.set i (.l (oi.meet o))), none, none⟩) (XS x T W F H φ) := by
    have e : (evEs T call ρ (.cons b' .nil) >>= fun ks => setPath d0 ks d >>= fun z => R.ok (Fl.next, ρ.set i (some z))) = (evE T call ρ b' >>= fun k => setPath d0 [k] d >>= fun z => R.ok (Fl.next, ρ.set i (some z))) := by
      show ((evE T call ρ b' >>= fun x => R.ok [] >>= fun xs => R.ok (x :: xs)) >>= _) = _
      cases evE T call ρ b' <;> rfl
    rw [← e]
    exact w
  refine ⟨ρ, wm, F', φ1, ob, s1.ext ex, hob, w.bind.mono (fun dk wk vk F2 H2 fpk ex2 rk _ => ?_) fun k as z F2 H2 ex2 => XS.zof st1 z F2 H2 (ex.trans ex2)⟩
  cases d0 <;> first | (cases dk <;> exact wk.elim) | skip
  rename_i xs
  cases dk <;> first | exact wk.elim | skip
  rename_i k
  obtain ⟨p, vs, F4, fps, fp', a1, a2, a3, a4, a5, a6, a7, go⟩ := list_take s1 (ex.trans ex2) (rp.ext ex2) (n rfl) ho hd
  rw [hv0] at a1
  cases a1
  have w : Wp ((match L2.ixN xs.length k with
    | some j => R.ok (PV.D.lst (xs.set j d))
    | none => .bad) >>= fun z => R.ok (Fl.next, ρ.set i (some z))) (PostS x ro D F H φ ⟨some (wm.set i (.l (oi.meet o))), none, none⟩) (XS x T W F H φ) := wk
  cases hj : L2.ixN xs.length k with
  | none => rw [hj] at w; exact w.elim
  | some j =>
    rw [hj] at w
    have w : ∀ ω', some (wm.set i (.l (oi.meet o))) = some ω' → ∀ σ' F' H' φ', Stp F H φ F' H' φ' → SR x (ρ.set i (some (.lst (xs.set j d)))) ω' σ' F' H' φ' → D.nx σ' H' := w
    obtain ⟨n1, n2⟩ := nodup_set_flat a6 (j := j) a5 a7
    obtain ⟨φ5, s5, st5⟩ := go (vs.set j v) (xs.set j d) (fps.set j fp') (by simp [a3]) (by simp [a4]) (fun k w e g b1 b2 b3 => by
      rcases get_set b1 with ⟨k1, b1⟩ | ⟨k1, b1⟩
      · rcases get_set b2 with ⟨k2, b2⟩ | ⟨k2, b2⟩
        · rcases get_set b3 with ⟨k3, b3⟩ | ⟨k3, b3⟩
          · exact .inl ⟨k, b1, b2, b3⟩
          · exact absurd k3 k1
        · exact absurd k2 k1
      · rcases get_set b2 with ⟨k2, b2⟩ | ⟨k2, b2⟩
        · exact absurd k1 k2
        · rcases get_set b3 with ⟨k3, b3⟩ | ⟨k3, b3⟩
          · exact absurd k1 k3
          · exact .inr ⟨b1, b2, b3⟩) n1 n2
    exact ⟨_, vs, k, j, rfl, rk.int_of, a2, by rw [a3]; exact hj, w _ rfl σ F4 _ φ5 (st1.trans st5) s5⟩
/-- a new list, given up -/
theorem se_fzl {Z : Zx} (ha : PE X a (tV x T rt call Z false a')) (he : ∀ whole, isTrue a X.env whole = (do let v ← whole; standAt a.pos; holding [v] (truthy v))) : SE x T rt call Z X a (.fzl a') := by
  refine SE.of_v (PE.imp ha fun σ H Q q => ?_) (fun _ => rfl) he
  obtain ⟨ρ, ω, F, φ, o, s, ok, w⟩ := q
  obtain ⟨oa, h, ok⟩ := bind_some (show (okE rt false ω a' >>= fun _ => some Ow.fz) = some o from ok)
  cases ok
  exact ⟨ρ, ω, F, φ, oa, s, h, Wp.mono (show Wp (evE T call ρ a') _ _ from w) (fun d w v F' H' fp ex r n => w v (frz F' H' fp) H' [] (ex.frz (n rfl)) ⟨r.rep ex.fh, rfl⟩ fun _ _ h => nomatch h) fun _ _ z => z⟩
end
end PV
/-! PV, part w: from the text to the language: expressions. -/
namespace PV
open PySem PySem.Spec PyProof.Rows L2
/-- what a global name is -/
inductive Gk where | fn (f : Nat) | cls (c : Nat) (m : Bool) (ks : List (Nat × List Str)) | glo (g : Nat) | blt | gcd
/-- a program's names -/
structure Nm where
  T : Tab
  G : List (Str × Gk)
  AN : List Str
/-! ### the scope behind a comprehension -/
def relS (scope sc : Scope) : Scope :=
  { scope with names := scope.names.map fun (n, k) => if (k == .free && sc.kind == .function && sc.names.lookup n == some .cell) then (n, .cell) else (n, k) }
theorem relS_eq (scope : Scope) (env : Env) : relabel scope env = relS scope env.scope := rfl
def visB (sc : Scope) (y : Str) : Bool := match sc.names.lookup y with
  | some .local => true
  | some .cell => true
  | some .free => true
  | _ => false
theorem vis_of {sc : Scope} {y : Str} (h : visB sc y = true) : Vis sc y := by
  unfold visB at h
  split at h
  · exact .inl (by assumption)
  · exact .inr (.inl (by assumption))
  · exact .inr (.inr (by assumption))
  · cases h
def gloB (sc : Scope) (y : Str) : Bool := match sc.names.lookup y with
  | some .globalImplicit => true
  | _ => false
def okNm (y : Str) : Bool := !(y == ("__debug__" : Str)) && !(y == ("__classdict__" : Str)) && !(y == ("__name__" : Str))
def ixOf (y : Str) : List Str → Option Nat
  | [] => none
  | z :: zs => if z = y then some 0 else (ixOf y zs).map (· + 1)
theorem ixOf_get {y : Str} : ∀ {N : List Str} {i : Nat}, ixOf y N = some i → N[i]? = some y
  | [], i, h => nomatch h
  | z :: zs, i, h => by
    unfold ixOf at h
    split at h
    · rename_i e
      cases h
      rw [e]
      rfl
    · cases q : ixOf y zs with
      | none => rw [q] at h; cases h
      | some j =>
        rw [q] at h
        cases h
        simpa using ixOf_get q
section
variable {x : Lx} {T : Tab} {rt : Om} {call : Cal → List D → R D} {W : WX} {X : Cx}
/-- a global name is what the table says -/
def GkOk (X : Cx) (x : Lx) (T : Tab) (rt : Om) (call : Cal → List D → R D) (y : Str) : Gk → Prop
  | .fn f => ∃ n, FnF X x T rt call n f y
  | .cls c m ks => X.mg y = some (.ref (x.cA c)) ∧ c < T.cls.length ∧ (m = true → ∃ n, MkF X x T call n c y) ∧ ∀ q ∈ ks, ∃ n, MkKF X x T call n c y q.1 q.2
  | .glo g => ∃ u v d, X.mg y = some u ∧ RelV v u ∧ T.globs[g]? = some d ∧ Rep x (fun _ => none) v d
  | .blt => X.mg y = none
  | .gcd => X.mg y = some (.builtin "math.gcd")
/-- a name of a block takes a value: its own, or the def's -/
def fnB (own : Option Scope) (y : Str) : Bool := match own with
  | none => true
  | some s => s.names.lookup y == some .cell
/-- what a text is read in -/
structure Ctx (x : Lx) (nm : Nm) (rt : Om) (call : Cal → List D → R D) (N : List Str) (own : Option Scope) (sc : Scope) (W : WX) (X : Cx) : Prop where
  hx : X.K = x.K
  hN : X.N = N
  nd : N.Nodup
  sc : X.env.scope = sc
  calm : X.calm = true
  tk : Takes X W
  un : X.A.units + 65 < cLine
  g : ∀ y k, nm.G.lookup y = some k → GkOk X x nm.T rt call y k
  fn : ∀ y, fnB own y = true → X.fn y = true
  inj : ∀ f g, x.an f = x.an g → f = g
  an : ∀ (f : Nat) (y : Str), nm.AN[f]? = some y → x.an f = y
  at_ : ∀ (f c : Nat) (q : Cl), nm.T.cls[c]? = some q → f ∈ q.flds → Cls x.K (x.cA c) ∧ NoAttr x.K (x.cA c) (x.an f)
  isF : IsF x nm.T
theorem Ctx.blk {nm : Nm} {N : List Str} {own : Option Scope} {sc scope : Scope} (c : Ctx x nm rt call N own sc W X) (s : Shared) (H : Hp) (C : Addr) (cl : List (Str × Addr)) (fp : List Addr) :
    Ctx x nm rt call N (some scope) (relS scope sc) W0 (X.blk s H scope (compEnvC scope cl C X.env) fp) where
  hx := c.hx
  hN := c.hN
  nd := c.nd
  sc := by
    show relabel scope X.env = _
    rw [relS_eq, c.sc]
  calm := c.calm
  tk := fun u s' ⟨a, B, sI, pins, σ, H, cls, d, e, I, nb, up, sky, na, os, ag, w⟩ => False.elim w
  un := c.un
  g := fun y k h => by
    have q := c.g y k h
    cases k with
    | fn f => obtain ⟨n, q⟩ := q; exact ⟨n, ⟨q.ex⟩⟩
    | cls c m ks =>
      obtain ⟨q1, q2, q3, q4⟩ := q
      exact ⟨q1, q2, fun h => let ⟨n, z⟩ := q3 h; ⟨n, ⟨z.ex⟩⟩, fun p hp => let ⟨n, z⟩ := q4 p hp; ⟨n, ⟨z.ex⟩⟩⟩
    | glo g => exact q
    | blt => exact q
    | gcd => exact q
  fn := fun y h => h
  inj := c.inj
  an := c.an
  at_ := c.at_
  isF := c.isF
end
/-! ### the parts of the reading -/
section
variable (nm : Nm) (N : List Str) (own : Option Scope) (sc : Scope) (f : Expr → Option E) (g : Scope → Expr → Option E)
def gk (y : Str) : Option Gk := if gloB sc y && okNm y then nm.G.lookup y else none
def cConst : Const → Option E
  | .int i => some (.lit (.int i))
  | .bool b => some (.lit (.bl b))
  | .none => some (.lit .non)
  | .str z => some (.lit (.str z))
  | _ => none
def cName (y : Str) : Option E :=
  if okNm y then
    if visB sc y then (ixOf y N).map .var else match gk nm sc y with
      | some (.glo g) => some (.glob g)
      | _ => none
  else none
def cBool (and : Bool) : List Expr → Option E
  | [] => none
  | [a] => do
    let a' ← f a
    if notIf a' then some a' else none
  | a :: b :: es => do
    let a' ← f a
    let r ← cBool and (b :: es)
    if notIf a' then some (if and then .and a' r else .or a' r) else none
def bopC : Operator → Option Bop
  | .Add => some .add | .Sub => some .sub | .Mult => some .mul | .FloorDiv => some .fdiv | .Mod => some .mod | .Pow => some .pow
  | _ => none
theorem bopC_of {op : Operator} {o : Bop} (h : bopC op = some o) : op = bopOf o := by
  cases op <;> cases h <;> rfl
def copC : CmpOp → Option Cop
  | .Eq => some .eq | .NotEq => some .ne | .Lt => some .lt | .LtE => some .le | .Gt => some .gt | .GtE => some .ge | .In => some .isin | .NotIn => some .notin
  | _ => none
theorem copC_of {op : CmpOp} {o : Cop} (h : copC op = some o) : op = copOf o := by
  cases op <;> cases h <;> rfl
def isNone : Expr → Bool
  | .Constant .none _ _ => true
  | _ => false
def cCmp (a : Expr) : List CmpOp → List Expr → Option E
  | [.Is], [b] => if isNone b then (f a).map .isN else none
  | [.IsNot], [b] => if isNone b then (f a).map .isNN else none
  | [op], [b] => do
    let o ← copC op
    let a' ← f a
    let b' ← f b
    if behindInMarks op b then none else some (.cmp o a' b')
  | [op, op2], [b, c] => do
    let o ← copC op
    let p ← copC op2
    let a' ← f a
    let b' ← f b
    let c' ← f c
    if lastMarks [op, op2] [b, c] then none else some (.chain o p a' b' c')
  | _, _ => none
def cList : List Expr → Option Es
  | [] => some .nil
  | e :: es => do
    let a ← f e
    let r ← cList es
    if noStar e then some (.cons a r) else none
def isListE : Expr → Bool
  | .List _ _ => true
  | _ => false
def cSub (a : Expr) : Expr → Option E
  | .Slice none none none _ => (f a).map .sl0
  | .Slice (some lo) none none _ => do some (.slL (← f a) (← f lo))
  | .Slice none (some hi) none _ => do some (.slH (← f a) (← f hi))
  | .Slice (some lo) (some hi) none _ => do some (.slB (← f a) (← f lo) (← f hi))
  | i => do
    let a' ← f a
    let i' ← f i
    if plainSub i then some (.sub (if isListE a then .fzl a' else a') i') else none
def biC (y : Str) : Option Bi :=
  if y = ("len" : Str) then some .len else if y = ("int" : Str) then some .int else if y = ("tuple" : Str) then some .tuple else if y = ("list" : Str) then some .list
  else if y = ("max" : Str) then some .max else if y = ("min" : Str) then some .min else if y = ("sum" : Str) then some .sum else if y = ("abs" : Str) then some .abs
  else if y = ("sorted" : Str) then some .sorted else if y = ("str" : Str) then some .str else none
def tyC (y : Str) : Option Ty :=
  if y = ("int" : Str) then some .int else if y = ("bool" : Str) then some .bool else if y = ("str" : Str) then some .str else if y = ("list" : Str) then some .list else if y = ("tuple" : Str) then some .tuple else none
def cTy : Expr → Option Ty
  | .Name y _ => match gk nm sc y with
    | some .blt => tyC y
    | some (.cls c _ _) => some (.cls c)
    | _ => none
  | _ => none
def cTys : List Expr → Option (List Ty)
  | [] => some []
  | e :: es => do
    let t ← cTy nm sc e
    let ts ← cTys es
    if noStar e then some (t :: ts) else none
def kwAll : List Keyword → List Expr
  | [] => []
  | k :: ks => k.value :: kwAll ks
def cKw : List Keyword → Option Es
  | [] => some .nil
  | k :: ks => do
    let a ← f k.value
    let r ← cKw ks
    some (.cons a r)
def cIsi (a : Expr) : Expr → Option E
  | .Tuple es _ _ => do
    let a' ← f a
    let ts ← cTys nm sc es
    if noStar a && !ts.isEmpty && decide (ts.length ≤ 100) then some (.isi a' ts) else none
  | b => do
    let a' ← f a
    let t ← cTy nm sc b
    if noStar a && noStar b then some (.isi a' [t]) else none
/-- tuple(range(..)), list(range(..)), tuple(reversed(..)) -/
def cConv (y : Str) : List Expr → Option E
  | [.Call (.Name z _) [u] [] _] => match gk nm sc z with
    | some .blt => do
      let u' ← f u
      if noStar u = true then
        if z = ("range" : Str) then (if y = ("tuple" : Str) then some (.tupR (.rng1 u')) else if y = ("list" : Str) then some (.lstR (.rng1 u')) else none)
        else if z = ("reversed" : Str) ∧ y = ("tuple" : Str) then some (.bi .trev (.cons u' .nil)) else none
      else none
    | _ => none
  | [.Call (.Name z _) [u, v] [] _] => match gk nm sc z with
    | some .blt => do
      let u' ← f u
      let v' ← f v
      if noStar u = true ∧ noStar v = true ∧ z = ("range" : Str) then (if y = ("tuple" : Str) then some (.tupR (.rng2 u' v')) else if y = ("list" : Str) then some (.lstR (.rng2 u' v')) else none)
      else none
    | _ => none
  | _ => none
/-- f"..{e}" -/
def cFs : List Expr → Option E
  | [.Constant (.str z) _ _, .FormattedValue e c none _] => do
    let e' ← f e
    if c = -1 ∧ z.cps.size ≤ 1000 then some (.bin .add (.lit (.str z)) (.bi .fmt (.cons e' .nil))) else none
  | _ => none
/-- xs.index(e) -/
def cIndex (a : Expr) (y : Str) (es : List Expr) (line : Bool) : Option E := do
  let a' ← f a
  let es' ← cList f es
  if y = ("index" : Str) ∧ es.length = 1 ∧ line = true ∧ plainAtt a = true ∧ es'.len = 1 then some (.bm .index a' es') else none
def fitB (np dl k : Nat) : Bool := decide (k ≤ np) && decide (np ≤ k + dl)
def cCall (y : Str) (es : List Expr) (kws : List Keyword) : Option E := match kws with
  | [] => match gk nm sc y with
    | some (.fn i) => do
      let es' ← cList f es
      match nm.T.fns[i]? with
      | some F => if fitB F.np F.dfl.length es'.len then some (.call i es') else none
      | none => none
    | some (.cls c m _) => do
      let es' ← cList f es
      match nm.T.cls[c]? with
      | some q => match q.init with
        | some i => match nm.T.fns[i]? with
          | some F => if m && decide (es'.len + 1 + F.dfl.length = F.np) then some (.mk c es') else none
          | none => none
        | none => none
      | none => none
    | some .blt => if y = ("isinstance" : Str) then match es with
        | [a, b] => cIsi nm sc f a b
        | _ => none
      else match cConv nm sc f y es with
        | some e => some e
        | none => do
          let b ← biC y
          let es' ← cList f es
          if es.isEmpty then none else some (.bi b es')
    | some .gcd => do
      let es' ← cList f es
      if es.isEmpty then none else some (.bi .gcd es')
    | _ => none
  | k :: ks => match gk nm sc y with
    | some (.cls c _ kl) => do
      let es' ← cList f es
      let ks' ← cKw f (k :: ks)
      let ns ← kwNames (k :: ks)
      if !es.isEmpty && decide ((es'.len, ns) ∈ kl) && decide (ns.length = ks'.len) then some (.mkK c es' ks') else none
    | _ => none
def cTgN (y : Str) : Option Nat := if fnB own y && (sc.names.lookup y == some .local || sc.names.lookup y == some .cell) || sc.names.lookup y == some .local then ixOf y N else none
def cTgs : List Expr → Option (List Nat)
  | [] => some []
  | .Name y _ :: es => do
    let i ← cTgN N own sc y
    let is ← cTgs es
    some (i :: is)
  | _ => none
def cTg : Expr → Option Tg
  | .Name y _ => (cTgN N own sc y).map .one
  | .Tuple es _ _ => (cTgs N own sc es).map .many
  | _ => none
def notSet : Expr → Bool
  | .Set _ _ _ => false
  | _ => true
def cIt (e : Expr) : Option It := match e with
  | .Call (.Name y _) [a] [] _ => if y = ("range" : Str) then match gk nm sc y with
      | some .blt => if noStar a then (f a).map .rng1 else none
      | _ => none
    else if y = ("reversed" : Str) then match gk nm sc y with
      | some .blt => if noStar a then (f a).map .rev else none
      | _ => none
    else (f e).map .seq
  | .Call (.Name y _) [a, b] [] _ => if y = ("range" : Str) then match gk nm sc y with
      | some .blt => if noStar a && noStar b then do some (.rng2 (← f a) (← f b)) else none
      | _ => none
    else (f e).map .seq
  | e => (f e).map .seq
def ownOf (scope : Scope) : List (Str × Nat) := scope.names.filterMap fun p => match p.2 with
  | .local => (ixOf p.1 N).map fun i => (p.1, i)
  | .cell => (ixOf p.1 N).map fun i => (p.1, i)
  | _ => none
def cComp (elt : Expr) (gens : List Comprehension) (scope : Scope) : Option E := match gens with
  | [⟨tg, iter, ifs, a⟩] => if a = 0 ∧ blkC N sc scope (ownOf N scope) = true ∧ notSet iter = true then do
      let it ← cIt nm sc f iter
      let t ← cTg N (some scope) (relS scope sc) tg
      let elt' ← g scope elt
      match ifs with
      | [] => some (.comp elt' ((ownOf N scope).map (·.2)) t it)
      | [c] => do
        let c' ← g scope c
        if notIf c' then some (.compI elt' ((ownOf N scope).map (·.2)) t it c') else none
      | _ => none
    else none
  | _ => none
def cAttr (a : Expr) (y : Str) : Option E := do
  let a' ← f a
  let i ← ixOf y nm.AN
  if plainAtt a then some (.attr a' i) else none
def cStep : Expr → Option E
  | .Constant c _ _ => cConst c
  | .Name y _ => cName nm N sc y
  | .UnaryOp .USub a _ => (f a).map .neg
  | .UnaryOp .Not a _ => do
    let a' ← f a
    if notIf a' then some (.not a') else none
  | .BoolOp .And (a :: b :: es) _ => cBool f true (a :: b :: es)
  | .BoolOp .Or (a :: b :: es) _ => cBool f false (a :: b :: es)
  | .BinOp a op b _ => do
    let o ← bopC op
    some (.bin o (← f a) (← f b))
  | .Compare a ops cs _ => cCmp f a ops cs
  | .IfExp c a b _ => do
    let c' ← f c
    let a' ← f a
    let b' ← f b
    if notIf c' then some (.ife c' a' b') else none
  | .Tuple es _ _ => (cList f es).map .tup
  | .List es _ => (cList f es).map .lst
  | .Subscript a i _ => cSub f a i
  | .Attribute a y _ => cAttr nm f a y
  | .Call (.Name y _) es kws _ => cCall nm sc f y es kws
  | .Call (.Attribute a y apos) es [] cpos => cIndex f a y es (apos.endLine == cpos.line)
  | .JoinedStr vs _ => cFs f vs
  | .ListComp elt gens scope _ => cComp nm N sc f g elt gens scope
  | _ => none
end
def cE (nm : Nm) (N : List Str) : Nat → Option Scope → Scope → Expr → Option E
  | 0, _, _, _ => none
  | k + 1, own, sc, e => cStep nm N sc (cE nm N k own sc) (fun s' => cE nm N k (some s') (relS s' sc)) e
end PV
/-! PV, part x: the reading is true: expressions. -/
namespace PV
open PySem PySem.Spec PyProof.Rows L2
theorem okNm_of {y : Str} (h : okNm y = true) : (y == ("__debug__" : Str)) = false ∧ (y == ("__classdict__" : Str)) = false ∧ y ≠ "__name__" := by
  unfold okNm at h
  simp only [Bool.and_eq_true, Bool.not_eq_true'] at h
  exact ⟨h.1.1, h.1.2, fun e => by rw [e] at h; exact absurd h.2 (by decide)⟩
theorem map_some' {α β : Type} {o : Option α} {f : α → β} {r : β} (h : o.map f = some r) : ∃ a, o = some a ∧ f a = r := by
  cases o with
  | none => cases h
  | some a => exact ⟨a, rfl, Option.some.inj h⟩
theorem okE_up {rt ω : Om} {e : E} {o : Ow} (h : okE rt false ω e = some o) : ∃ o', okE rt true ω e = some o' := by
  cases e <;> first | exact ⟨o, h⟩ | skip
  · rename_i i
    exact ⟨og ω i, rfl⟩
  · rename_i a i
    unfold okE at h ⊢
    cases h1 : okE rt true ω a with
    | none => rw [h1] at h; cases h
    | some x =>
      cases h2 : okE rt true ω i with
      | none => rw [h1, h2] at h; cases h
      | some z =>
        rw [h1, h2] at h
        cases x with
        | fz => exact ⟨.fz, rfl⟩
        | i => cases h
        | l p => exact ⟨p, rfl⟩
section
variable {x : Lx} {nm : Nm} {rt : Om} {call : Cal → List D → R D} {N : List Str} {own : Option Scope} {sc : Scope} {W : WX} {X : Cx} {f : Expr → Option E} {g : Scope → Expr → Option E} {pos : Pos}
variable (c : Ctx x nm rt call N own sc W X)
include c
theorem gk_of {y : Str} {k : Gk} (h : gk nm sc y = some k) : Gl X y ∧ (y == ("__debug__" : Str)) = false ∧ (y == ("__classdict__" : Str)) = false ∧ y ≠ "__name__" ∧ GkOk X x nm.T rt call y k := by
  unfold gk at h
  obtain ⟨h1, h⟩ := if_some h
  rw [Bool.and_eq_true] at h1
  obtain ⟨a1, a2, a3⟩ := okNm_of h1.2
  refine ⟨?_, a1, a2, a3, c.g y k h⟩
  show X.env.scope.names.lookup y = _
  rw [c.sc]
  have h1 := h1.1
  unfold gloB at h1
  split at h1
  · assumption
  · cases h1
theorem const_ok {k : Const} {j : Nat} {e' : E} (h : cConst k = some e') : SE x nm.T rt call (Zof x nm.T W) X (.Constant k j pos) e' := by
  cases k <;> first | (cases h; done) | skip
  · cases h; exact se_non
  · cases h; exact se_bl
  · cases h; exact se_int
  · cases h; exact se_str
theorem name_ok {y : Str} {e' : E} (h : cName nm N sc y = some e') : SE x nm.T rt call (Zof x nm.T W) X (.Name y pos) e' := by
  unfold cName at h
  obtain ⟨h1, h⟩ := if_some h
  obtain ⟨a1, a2, a3⟩ := okNm_of h1
  split at h
  · rename_i hv
    obtain ⟨i, hi, rfl⟩ := map_some' h
    exact se_var (by rw [c.hN]; exact ixOf_get hi) (by rw [c.sc]; exact vis_of hv) a1 a2
  · split at h
    · rename_i g hg
      cases h
      obtain ⟨b1, b2, b3, b4, u, v, d, m1, m2, m3, m4⟩ := gk_of c hg
      exact se_glob b1 m1 m2 b2 m3 m4
    · cases h
variable (hf : ∀ e e', f e = some e' → SE x nm.T rt call (Zof x nm.T W) X e e')
include hf
theorem bool_ok {and : Bool} : ∀ {es : List Expr} {e' : E}, cBool f and es = some e' → ∀ pos, PE X (.BoolOp (if and then .And else .Or) es pos) (tV x nm.T rt call (Zof x nm.T W) false e') ∧ PW X (.BoolOp (if and then .And else .Or) es pos) (tT x nm.T rt call (Zof x nm.T W) e')
  | [], e', h, _ => nomatch h
  | [a], e', h, pos => by
    unfold cBool at h
    obtain ⟨a', ha, h⟩ := bind_some h
    obtain ⟨hn, h⟩ := if_some h
    cases h
    have s := hf a _ ha
    refine ⟨pe_one s.v, ?_⟩
    cases and with
    | true => exact pw_and1 (s.t hn)
    | false => exact pw_or1 (s.t hn)
  | a :: b :: es, e', h, pos => by
    unfold cBool at h
    obtain ⟨a', ha, h⟩ := bind_some h
    obtain ⟨r, hr, h⟩ := bind_some h
    obtain ⟨hn, h⟩ := if_some h
    have s := hf a a' ha
    obtain ⟨r1, r2⟩ := bool_ok hr pos
    cases and with
    | true =>
      cases h
      exact ⟨v_and s.b r1, w_and (s.t hn) r2 fun ω h => okE_up h⟩
    | false =>
      cases h
      exact ⟨v_or s.b r1, w_or (s.t hn) r2 fun ω h => okE_up h⟩
theorem list_ok : ∀ {es : List Expr} {es' : Es}, cList f es = some es' → SA x nm.T rt call (Zof x nm.T W) X es es' ∧ noStars es = true
  | [], es', h => by cases h; exact ⟨sa_nil, rfl⟩
  | e :: es, es', h => by
    unfold cList at h
    obtain ⟨a, ha, h⟩ := bind_some h
    obtain ⟨r, hr, h⟩ := bind_some h
    obtain ⟨hn, h⟩ := if_some h
    cases h
    obtain ⟨i1, i2⟩ := list_ok hr
    exact ⟨sa_cons (hf e a ha) i1 hn, by unfold noStars; rw [hn, i2]; rfl⟩
theorem cmp_ok {a : Expr} {ops : List CmpOp} {cs : List Expr} {e' : E} (h : cCmp f a ops cs = some e') : SE x nm.T rt call (Zof x nm.T W) X (.Compare a ops cs pos) e' := by
  unfold cCmp at h
  split at h
  · rename_i b
    obtain ⟨h1, h⟩ := if_some h
    obtain ⟨a', ha, rfl⟩ := map_some' h
    unfold isNone at h1
    split at h1
    · exact se_isN (hf _ _ ha)
    · cases h1
  · rename_i b
    obtain ⟨h1, h⟩ := if_some h
    obtain ⟨a', ha, rfl⟩ := map_some' h
    unfold isNone at h1
    split at h1
    · exact se_isNN (hf _ _ ha)
    · cases h1
  · rename_i op b _ _
    obtain ⟨o, ho, h⟩ := bind_some h
    obtain ⟨a', ha, h⟩ := bind_some h
    obtain ⟨b', hb, h⟩ := bind_some h
    have e := copC_of ho
    subst e
    split at h
    · cases h
    · rename_i hm
      cases h
      exact se_cmp c.hx c.un (hf _ _ ha) (hf _ _ hb) (by simpa using hm)
  · rename_i op op2 b d
    obtain ⟨o, ho, h⟩ := bind_some h
    obtain ⟨p, hp, h⟩ := bind_some h
    obtain ⟨a', ha, h⟩ := bind_some h
    obtain ⟨b', hb, h⟩ := bind_some h
    obtain ⟨d', hd, h⟩ := bind_some h
    have e := copC_of ho
    subst e
    have e := copC_of hp
    subst e
    split at h
    · cases h
    · rename_i hm
      cases h
      exact se_chain c.hx c.un (hf _ _ ha) (hf _ _ hb) (hf _ _ hd) (by simpa using hm)
  · cases h
theorem sub_ok {a i : Expr} {e' : E} (h : cSub f a i = some e') : SE x nm.T rt call (Zof x nm.T W) X (.Subscript a i pos) e' := by
  unfold cSub at h
  split at h
  · obtain ⟨a', ha, rfl⟩ := map_some' h
    exact se_sl0 c.hx (hf _ _ ha)
  · obtain ⟨a', ha, h⟩ := bind_some h
    obtain ⟨l, hl, h⟩ := bind_some h
    cases h
    exact se_slL c.hx (hf _ _ ha) (hf _ _ hl)
  · obtain ⟨a', ha, h⟩ := bind_some h
    obtain ⟨l, hl, h⟩ := bind_some h
    cases h
    exact se_slH c.hx (hf _ _ ha) (hf _ _ hl)
  · obtain ⟨a', ha, h⟩ := bind_some h
    obtain ⟨l, hl, h⟩ := bind_some h
    obtain ⟨m, hm, h⟩ := bind_some h
    cases h
    exact se_slB c.hx (hf _ _ ha) (hf _ _ hl) (hf _ _ hm)
  · obtain ⟨a', ha, h⟩ := bind_some h
    obtain ⟨i', hi, h⟩ := bind_some h
    obtain ⟨hp, h⟩ := if_some h
    cases h
    have s := hf _ _ ha
    cases q : isListE a with
    | false => exact se_sub c.hx s (hf _ _ hi) hp
    | true =>
      refine se_sub c.hx ?_ (hf _ _ hi) hp
      cases a <;> first | (cases q; done) | skip
      exact se_fzl s.v fun _ => rfl
theorem attr_ok {a : Expr} {y : Str} {e' : E} (h : cAttr nm f a y = some e') : SE x nm.T rt call (Zof x nm.T W) X (.Attribute a y pos) e' := by
  unfold cAttr at h
  obtain ⟨a', ha, h⟩ := bind_some h
  obtain ⟨i, hi, h⟩ := bind_some h
  obtain ⟨hp, h⟩ := if_some h
  cases h
  exact se_attr c.hx c.inj (c.an _ _ (ixOf_get hi)) (fun k q a b => c.at_ i k q a b) (hf _ _ ha) hp
omit hf
theorem ty_ok {e : Expr} {t : Ty} (h : cTy nm sc e = some t) : PE X e (tC (tyV' x t)) ∧ ∀ k, t = .cls k → k < nm.T.cls.length := by
  unfold cTy at h
  split at h
  · rename_i y p
    split at h
    · rename_i hg
      obtain ⟨b1, b2, b3, b4, m⟩ := gk_of c hg
      have m : X.mg y = none := m
      unfold tyC at h
      split at h
      · rename_i e; subst e; cases h; exact ⟨pe_bltn b1 m (by decide +kernel) rfl b4 b2, fun k z => nomatch z⟩
      split at h
      · rename_i e; subst e; cases h; exact ⟨pe_bltn b1 m (by decide +kernel) rfl b4 b2, fun k z => nomatch z⟩
      split at h
      · rename_i e; subst e; cases h; exact ⟨pe_bltn b1 m (by decide +kernel) rfl b4 b2, fun k z => nomatch z⟩
      split at h
      · rename_i e; subst e; cases h; exact ⟨pe_bltn b1 m (by decide +kernel) rfl b4 b2, fun k z => nomatch z⟩
      split at h
      · rename_i e; subst e; cases h; exact ⟨pe_bltn b1 m (by decide +kernel) rfl b4 b2, fun k z => nomatch z⟩
      · cases h
    · rename_i k m ks hg
      cases h
      obtain ⟨b1, b2, b3, b4, m1, m2, _⟩ := gk_of c hg
      exact ⟨pe_glob b1 m1 rfl b2, fun k z => by cases z; exact m2⟩
    · cases h
  · cases h
theorem tys_ok : ∀ {es : List Expr} {ts : List Ty}, cTys nm sc es = some ts → es.length = ts.length ∧ noStars es = true ∧ (∀ (k : Nat) (e : Expr) (t : Ty), es[k]? = some e → ts[k]? = some t → PE X e (tC (tyV' x t))) ∧ ∀ t ∈ ts, ∀ k, t = .cls k → k < nm.T.cls.length
  | [], ts, h => by
    cases h
    exact ⟨rfl, rfl, fun k e t h => by simp at h, fun t h => by simp at h⟩
  | e :: es, ts, h => by
    unfold cTys at h
    obtain ⟨t, ht, h⟩ := bind_some h
    obtain ⟨r, hr, h⟩ := bind_some h
    obtain ⟨hn, h⟩ := if_some h
    cases h
    obtain ⟨i1, i2, i3, i4⟩ := tys_ok hr
    obtain ⟨j1, j2⟩ := ty_ok c ht
    refine ⟨congrArg (· + 1) i1, by unfold noStars; rw [hn, i2]; rfl, fun k e2 t2 h1 h2 => ?_, fun t2 h2 => ?_⟩
    · cases k with
      | zero =>
        cases h1
        cases h2
        exact j1
      | succ k => exact i3 k e2 t2 (by simpa using h1) (by simpa using h2)
    · rcases List.mem_cons.mp h2 with rfl | h2
      · exact j2
      · exact i4 t2 h2
include hf
theorem isi_ok {a b : Expr} {e' : E} {p : Pos} (hg : Gl X "isinstance") (hm : X.mg "isinstance" = none) (h : cIsi nm sc f a b = some e') : SE x nm.T rt call (Zof x nm.T W) X (.Call (.Name "isinstance" p) [a, b] [] pos) e' := by
  unfold cIsi at h
  split at h
  · obtain ⟨a', ha, h⟩ := bind_some h
    obtain ⟨ts, hts, h⟩ := bind_some h
    obtain ⟨h1, h⟩ := if_some h
    cases h
    simp only [Bool.and_eq_true, decide_eq_true_eq] at h1
    obtain ⟨⟨h1, h2⟩, h3⟩ := h1
    obtain ⟨i1, i2, i3, i4⟩ := tys_ok c hts
    exact se_isiT c.hx c.isF i4 (by intro z; rw [z] at h2; cases h2) h3 hg hm (hf _ _ ha) h1 (pa_tCs i1 i2 i3)
  · obtain ⟨a', ha, h⟩ := bind_some h
    obtain ⟨t, ht, h⟩ := bind_some h
    obtain ⟨h1, h⟩ := if_some h
    cases h
    rw [Bool.and_eq_true] at h1
    obtain ⟨j1, j2⟩ := ty_ok c ht
    exact se_isi1 c.hx c.isF j2 hg hm (hf _ _ ha) h1.1 j1 h1.2
theorem kw_ok : ∀ {ks : List Keyword} {es' : Es}, cKw f ks = some es' → SK x nm.T rt call (Zof x nm.T W) X ks es'
  | [], es', h => by cases h; exact sk_nil
  | ⟨nm', v, kp⟩ :: ks, es', h => by
    unfold cKw at h
    obtain ⟨a, ha, h⟩ := bind_some h
    obtain ⟨r, hr, h⟩ := bind_some h
    cases h
    exact sk_cons (hf _ _ ha) (kw_ok hr)
theorem fit_of {np dl k : Nat} (h : fitB np dl k = true) : k ≤ np ∧ np ≤ k + dl := by
  unfold fitB at h
  simp only [Bool.and_eq_true, decide_eq_true_eq] at h
  exact h
theorem bi_ok {y : Str} {b : Bi} {es : List Expr} {es' : Es} {p : Pos} (hg : Gl X y) (hm : X.mg y = none) (hd : (y == ("__debug__" : Str)) = false) (hn : y ≠ "__name__") (hb : biC y = some b) (ha : SA x nm.T rt call (Zof x nm.T W) X es es') (hs : noStars es = true) (hne : es ≠ []) :
    SE x nm.T rt call (Zof x nm.T W) X (.Call (.Name y p) es [] pos) (.bi b es') := by
  have hK := c.hx
  unfold biC at hb
  split at hb
  · rename_i e; subst e; cases hb
    exact se_bi (pe_callBs call_len hg hm (by decide +kernel) hne hs hn hd) (by rw [hK]; exact bi_len) ha
  split at hb
  · rename_i e; subst e; cases hb
    exact se_bi (pe_callTs call_int1 hg hm (by decide +kernel) hne hs hn hd) bi_int ha
  split at hb
  · rename_i e; subst e; cases hb
    exact se_bi (pe_callTs call_tuple_of hg hm (by decide +kernel) hne hs hn hd) (by rw [hK]; exact bi_tuple) ha
  split at hb
  · rename_i e; subst e; cases hb
    exact se_bi (pe_callTs call_list_of hg hm (by decide +kernel) hne hs hn hd) (by rw [hK]; exact bi_list) ha
  split at hb
  · rename_i e; subst e; cases hb
    exact se_bi (pe_callBs ((cr_max c.calm).or (call_max2 c.calm)) hg hm (by decide +kernel) hne hs hn hd) (by rw [hK]; exact bi_max) ha
  split at hb
  · rename_i e; subst e; cases hb
    exact se_bi (pe_callBs ((cr_min c.calm).or (call_min2 c.calm)) hg hm (by decide +kernel) hne hs hn hd) (by rw [hK]; exact bi_min) ha
  split at hb
  · rename_i e; subst e; cases hb
    exact se_bi (pe_callBs (cr_sum c.calm) hg hm (by decide +kernel) hne hs hn hd) (by rw [hK]; exact bi_sum) ha
  split at hb
  · rename_i e; subst e; cases hb
    exact se_bi (pe_callBs call_abs hg hm (by decide +kernel) hne hs hn hd) bi_abs ha
  split at hb
  · rename_i e; subst e; cases hb
    exact se_bi (pe_callBs cr_sortedI hg hm (by decide +kernel) hne hs hn hd) (by rw [hK]; exact bi_sorted) ha
  split at hb
  · rename_i e; subst e; cases hb
    exact se_bi (pe_callTs call_str_int hg hm (by decide +kernel) hne hs hn hd) bi_str ha
  · cases hb
end
end PV
/-! PV, part y: the reading is true: calls, comprehensions, the whole of an expression. -/
namespace PV
open PySem PySem.Spec PyProof.Rows L2
theorem fold_no {e : Expr} {env : Env} (h : notSet e = true) : ∀ z, foldedSetIterable e env z = pure z := by
  cases e <;> first | (intro z; rfl) | cases h
section
variable {x : Lx} {nm : Nm} {rt : Om} {call : Cal → List D → R D} {N : List Str} {own : Option Scope} {sc : Scope} {W : WX} {X : Cx} {f : Expr → Option E} {g : Scope → Expr → Option E} {pos : Pos}
theorem kw_len : ∀ {ks : List Keyword} {ns : List Str}, kwNames ks = some ns → True := fun _ => trivial
theorem loc_of {y : Str} (h : (fnB own y && (sc.names.lookup y == some .local || sc.names.lookup y == some .cell) || sc.names.lookup y == some .local) = true) : Loc sc y ∧ (fnB own y = true ∨ sc.names.lookup y = some .local) := by
  simp only [Bool.or_eq_true, Bool.and_eq_true, beq_iff_eq] at h
  rcases h with ⟨h1, h2⟩ | h
  · exact ⟨h2, .inl h1⟩
  · exact ⟨.inl h, .inr h⟩
variable (c : Ctx x nm rt call N own sc W X)
include c
theorem tgn_ok {y : Str} {i : Nat} (h : cTgN N own sc y = some i) : PG X (.Name y pos) (gName i) := by
  unfold cTgN at h
  obtain ⟨h1, h⟩ := if_some h
  obtain ⟨a1, a2⟩ := loc_of h1
  exact pg_name (by rw [c.hN]; exact c.nd) (by rw [c.hN]; exact ixOf_get h) (by rw [c.sc]; exact a1) (by
    rw [c.sc]
    exact a2.imp (c.fn y) id)
theorem tgs_ok : ∀ {es : List Expr} {is : List Nat}, cTgs N own sc es = some is → PGs X es (is.foldr (fun i u => gCons (gName i) u) gNil) ∧ (assignEach es X.env).length = is.length ∧ (assignEach es X.env).findIdx? (·.1) = none
  | [], is, h => by
    cases h
    exact ⟨pgs_nil, rfl, rfl⟩
  | e :: es, is, h => by
    cases e <;> first | (cases h; done) | skip
    rename_i y p
    unfold cTgs at h
    obtain ⟨i, hi, h⟩ := bind_some h
    obtain ⟨r, hr, h⟩ := bind_some h
    cases h
    obtain ⟨i1, i2, i3⟩ := tgs_ok hr
    have e : assignEach (.Name y p :: es) X.env = (false, assign (.Name y p) X.env) :: assignEach es X.env := rfl
    refine ⟨pgs_cons (tgn_ok c hi) i1 rfl, by rw [e]; exact congrArg (· + 1) i2, ?_⟩
    rw [e, List.findIdx?_cons, i3]
    rfl
theorem tg_ok {tg : Expr} {t : Tg} (h : cTg N own sc tg = some t) : PG X tg (gT x.K t) := by
  unfold cTg at h
  split at h
  · obtain ⟨i, hi, rfl⟩ := map_some' h
    exact tgn_ok c hi
  · rename_i es k p
    obtain ⟨is, hi, rfl⟩ := map_some' h
    obtain ⟨i1, i2, i3⟩ := tgs_ok c hi
    have P := pg_tup (k := k) (pos := p) c.calm i1 i2 i3
    rw [c.hx] at P
    exact P
  · cases h
variable (hf : ∀ e e', f e = some e' → SE x nm.T rt call (Zof x nm.T W) X e e')
include hf
theorem seq_ok {tg e : Expr} {it : It} (bb : Bool) (h : (f e).map It.seq = some it) : PI X tg e (tI x nm.T rt call (Zof x nm.T W) bb it) := by
  obtain ⟨a', ha, rfl⟩ := map_some' h
  exact pi_seq c.hx (hf _ _ ha) bb
theorem it_ok {tg e : Expr} {it : It} (bb : Bool) (h : cIt nm sc f e = some it) : PI X tg e (tI x nm.T rt call (Zof x nm.T W) bb it) := by
  unfold cIt at h
  split at h
  · split at h
    · rename_i e; subst e
      split at h
      · rename_i hg
        obtain ⟨b1, b2, b3, b4, m⟩ := gk_of c hg
        obtain ⟨hn, h⟩ := if_some h
        obtain ⟨a', ha, rfl⟩ := map_some' h
        exact pi_rng1E b1 m (hf _ _ ha) hn
      · cases h
    · split at h
      · rename_i e; subst e
        split at h
        · rename_i hg
          obtain ⟨b1, b2, b3, b4, m⟩ := gk_of c hg
          obtain ⟨hn, h⟩ := if_some h
          obtain ⟨a', ha, rfl⟩ := map_some' h
          exact pi_revE c.hx b1 m (hf _ _ ha) hn
        · cases h
      · exact seq_ok c hf bb h
  · split at h
    · rename_i e; subst e
      split at h
      · rename_i hg
        obtain ⟨b1, b2, b3, b4, m⟩ := gk_of c hg
        obtain ⟨hn, h⟩ := if_some h
        rw [Bool.and_eq_true] at hn
        obtain ⟨a', ha, h⟩ := bind_some h
        obtain ⟨b', hb, h⟩ := bind_some h
        cases h
        exact pi_rng2E b1 m (hf _ _ ha) hn.1 (hf _ _ hb) hn.2
      · cases h
    · exact seq_ok c hf bb h
  · exact seq_ok c hf bb h
theorem conv_ok {y : Str} {es : List Expr} {e' : E} {p : Pos} (hy : Gl X y) (hm : X.mg y = none) (h : cConv nm sc f y es = some e') : SE x nm.T rt call (Zof x nm.T W) X (.Call (.Name y p) es [] pos) e' := by
  unfold cConv at h
  split at h
  · split at h
    · rename_i hg
      obtain ⟨b1, b2, b3, b4, m⟩ := gk_of c hg
      have m : X.mg _ = none := m
      obtain ⟨u', hu, h'⟩ := bind_some h
      clear h
      have h := h'
      clear h'
      split at h
      · rename_i hn
        split at h
        · rename_i e1
          subst e1
          split at h
          · rename_i e2
            subst e2
            cases h
            exact se_tupRg1 c.calm hy hm b1 m (hf _ _ hu) hn
          · split at h
            · rename_i e2
              subst e2
              cases h
              exact se_lstRg1 c.calm hy hm b1 m (hf _ _ hu) hn
            · cases h
        · split at h
          · rename_i e1
            obtain ⟨e1, e2⟩ := e1
            subst e1 e2
            cases h
            exact se_tupRev c.hx c.calm hy hm b1 m (hf _ _ hu) hn
          · cases h
      · cases h
    · cases h
  · split at h
    · rename_i hg
      obtain ⟨b1, b2, b3, b4, m⟩ := gk_of c hg
      have m : X.mg _ = none := m
      obtain ⟨u', hu, h'⟩ := bind_some h
      obtain ⟨v', hv, h''⟩ := bind_some h'
      clear h h'
      have h := h''
      clear h''
      split at h
      · rename_i hn
        obtain ⟨hn1, hn2, e1⟩ := hn
        subst e1
        split at h
        · rename_i e2
          subst e2
          cases h
          exact se_tupRg2 c.calm hy hm b1 m (hf _ _ hu) hn1 (hf _ _ hv) hn2
        · split at h
          · rename_i e2
            subst e2
            cases h
            exact se_lstRg2 c.calm hy hm b1 m (hf _ _ hu) hn1 (hf _ _ hv) hn2
          · cases h
      · cases h
    · cases h
  · cases h
theorem fs_ok {vs : List Expr} {e' : E} (h : cFs f vs = some e') : SE x nm.T rt call (Zof x nm.T W) X (.JoinedStr vs pos) e' := by
  unfold cFs at h
  split at h
  · obtain ⟨a', ha, h1⟩ := bind_some h
    split at h1
    · rename_i hz
      obtain ⟨rfl, hz⟩ := hz
      cases h1
      exact se_fs2 (hf _ _ ha) hz
    · cases h1
  · cases h
theorem index_ok {a : Expr} {y : Str} {es : List Expr} {apos : Pos} {e' : E} (h : cIndex f a y es (apos.endLine == pos.line) = some e') : SE x nm.T rt call (Zof x nm.T W) X (.Call (.Attribute a y apos) es [] pos) e' := by
  unfold cIndex at h
  obtain ⟨a', ha, h1⟩ := bind_some h
  obtain ⟨es', hes, h2⟩ := bind_some h1
  split at h2
  · rename_i hz
    obtain ⟨rfl, hl1, hl2, hp, hl3⟩ := hz
    cases h2
    match es, hl1 with
    | [e], _ =>
      unfold cList at hes
      obtain ⟨b', hb, hes1⟩ := bind_some hes
      obtain ⟨r, hr, hes2⟩ := bind_some hes1
      obtain ⟨hn, hes3⟩ := if_some hes2
      cases hes3
      cases hr
      exact se_index c.hx c.un (hf _ _ ha) (hf _ _ hb) hn hp hl2
  · cases h2
theorem call_ok {y : Str} {es : List Expr} {kws : List Keyword} {e' : E} {p : Pos} (h : cCall nm sc f y es kws = some e') : SE x nm.T rt call (Zof x nm.T W) X (.Call (.Name y p) es kws pos) e' := by
  unfold cCall at h
  split at h
  · split at h
    · rename_i i hg
      obtain ⟨b1, b2, b3, b4, n, FF⟩ := gk_of c hg
      obtain ⟨es', hes, h⟩ := bind_some h
      obtain ⟨i1, i2⟩ := list_ok c hf hes
      split at h
      · rename_i F hF
        obtain ⟨hfit, h⟩ := if_some h
        cases h
        exact se_call b1 b2 c.tk FF i1 i2 fun F' hF' => by
          rw [hF] at hF'
          cases hF'
          exact fit_of c hf hfit
      · cases h
    · rename_i k m ks hg
      obtain ⟨b1, b2, b3, b4, m1, m2, m3, m4⟩ := gk_of c hg
      obtain ⟨es', hes, h⟩ := bind_some h
      obtain ⟨i1, i2⟩ := list_ok c hf hes
      split at h
      · rename_i q hq
        split at h
        · rename_i i hi
          split at h
          · rename_i F hF
            obtain ⟨hfit, h⟩ := if_some h
            cases h
            rw [Bool.and_eq_true] at hfit
            obtain ⟨n, MF⟩ := m3 hfit.1
            have z1 := of_decide_eq_true hfit.2
            exact se_mk b1 b2 c.tk MF i1 i2 fun q' f' F' h1 h2 h3 => by
              rw [hq] at h1
              cases h1
              rw [hi] at h2
              cases h2
              rw [hF] at h3
              cases h3
              exact z1
          · cases h
        · cases h
      · cases h
    · rename_i hg
      obtain ⟨b1, b2, b3, b4, m⟩ := gk_of c hg
      have m : X.mg y = none := m
      split at h
      · rename_i e
        subst e
        split at h
        · exact isi_ok c hf b1 m h
        · cases h
      · split at h
        · rename_i e0 he
          cases h
          exact conv_ok c hf b1 m he
        · obtain ⟨b, hb, h⟩ := bind_some h
          obtain ⟨es', hes, h⟩ := bind_some h
          obtain ⟨i1, i2⟩ := list_ok c hf hes
          split at h
          · cases h
          · rename_i hne
            cases h
            exact bi_ok c hf b1 m b2 b4 hb i1 i2 (by intro z; rw [z] at hne; exact hne rfl)
    · rename_i hg
      obtain ⟨b1, b2, b3, b4, m⟩ := gk_of c hg
      obtain ⟨es', hes, h⟩ := bind_some h
      obtain ⟨i1, i2⟩ := list_ok c hf hes
      split at h
      · cases h
      · rename_i hne
        cases h
        exact se_gcd b1 m b2 i1 i2 (by intro z; rw [z] at hne; exact hne rfl)
    · cases h
  · split at h
    · rename_i k0 ks0 k m kl hg
      obtain ⟨b1, b2, b3, b4, m1, m2, m3, m4⟩ := gk_of c hg
      obtain ⟨es', hes, h⟩ := bind_some h
      obtain ⟨i1, i2⟩ := list_ok c hf hes
      obtain ⟨ks', hks, h⟩ := bind_some h
      obtain ⟨ns, hns, h⟩ := bind_some h
      obtain ⟨hz, h⟩ := if_some h
      cases h
      simp only [Bool.and_eq_true, decide_eq_true_eq] at hz
      obtain ⟨⟨z1, z2⟩, z3⟩ := hz
      obtain ⟨n, MF⟩ := m4 _ z2
      exact se_mkK b1 b2 c.tk MF i1 i2 (by intro z; rw [z] at z1; cases z1) (kw_ok c hf hks) hns z3
    · cases h
theorem comp_ok (hg : ∀ (s' : Scope) (e : Expr) (e' : E), g s' e = some e' → ∀ (s : Shared) (H : Hp) (C : Addr) (cl : List (Str × Addr)) (fp : List Addr), SE x nm.T rt call (Zof x nm.T W0) (X.blk s H s' (compEnvC s' cl C X.env) fp) e e')
    {elt : Expr} {gens : List Comprehension} {scope : Scope} {e' : E} (h : cComp nm N sc f g elt gens scope = some e') : SE x nm.T rt call (Zof x nm.T W) X (.ListComp elt gens scope pos) e' := by
  unfold cComp at h
  split at h
  · rename_i tg iter ifs a
    split at h
    · rename_i hc
      obtain ⟨rfl, h2, h3⟩ := hc
      obtain ⟨it, hit, h⟩ := bind_some h
      obtain ⟨t, ht, h⟩ := bind_some h
      obtain ⟨elt', helt, h⟩ := bind_some h
      have ok : BlkOk X.N X.env.scope scope (ownOf N scope) := by
        rw [c.hN, c.sc]
        exact blkOk_by h2
      have B : BlkF x nm.T rt call X tg t elt elt' scope := ⟨fun s H C cl fp => tg_ok (c.blk s H C cl fp) ht, fun s H C cl fp => hg scope elt elt' helt s H C cl fp⟩
      rcases ifs with _ | ⟨cnd, _ | ⟨c2, cs⟩⟩
      · cases h
        exact se_comp c.calm (by rw [c.hN]; exact c.nd) (it_ok c hf true hit) ok B (fold_no h3)
      · obtain ⟨c', hc', h⟩ := bind_some (show (g scope cnd >>= fun c' => if notIf c' = true then some (E.compI elt' ((ownOf N scope).map (·.2)) t it c') else none) = some e' from h)
        obtain ⟨hn, h⟩ := if_some h
        cases h
        exact se_compI c.calm (by rw [c.hN]; exact c.nd) (it_ok c hf true hit) ok B (fun s H C cl fp => (hg scope cnd c' hc' s H C cl fp).t hn) (fold_no h3)
      · cases h
    · cases h
  · cases h
theorem step_ok (hg : ∀ (s' : Scope) (e : Expr) (e' : E), g s' e = some e' → ∀ (s : Shared) (H : Hp) (C : Addr) (cl : List (Str × Addr)) (fp : List Addr), SE x nm.T rt call (Zof x nm.T W0) (X.blk s H s' (compEnvC s' cl C X.env) fp) e e')
    {e : Expr} {e' : E} (h : cStep nm N sc f g e = some e') : SE x nm.T rt call (Zof x nm.T W) X e e' := by
  unfold cStep at h
  split at h
  · exact const_ok c h
  · exact name_ok c h
  · obtain ⟨a', ha, rfl⟩ := map_some' h
    exact se_neg (hf _ _ ha)
  · obtain ⟨a', ha, h⟩ := bind_some h
    obtain ⟨hn, h⟩ := if_some h
    cases h
    exact se_not (hf _ _ ha) hn
  · rename_i a b es p
    have P := bool_ok c hf h p
    unfold cBool at h
    obtain ⟨a', ha, h⟩ := bind_some h
    obtain ⟨r, hr, h⟩ := bind_some h
    obtain ⟨hn, h⟩ := if_some h
    cases h
    exact SE.of_vt P.1 (fun ω => rfl) P.2.pt
  · rename_i a b es p
    have P := bool_ok c hf h p
    unfold cBool at h
    obtain ⟨a', ha, h⟩ := bind_some h
    obtain ⟨r, hr, h⟩ := bind_some h
    obtain ⟨hn, h⟩ := if_some h
    cases h
    exact SE.of_vt P.1 (fun ω => rfl) P.2.pt
  · obtain ⟨o, ho, h⟩ := bind_some h
    obtain ⟨a', ha, h⟩ := bind_some h
    obtain ⟨b', hb, h⟩ := bind_some h
    cases h
    have e := bopC_of ho
    subst e
    exact se_bin c.hx (hf _ _ ha) (hf _ _ hb)
  · exact cmp_ok c hf h
  · obtain ⟨c', hc, h⟩ := bind_some h
    obtain ⟨a', ha, h⟩ := bind_some h
    obtain ⟨b', hb, h⟩ := bind_some h
    obtain ⟨hn, h⟩ := if_some h
    cases h
    exact se_ife (hf _ _ hc) hn (hf _ _ ha) (hf _ _ hb)
  · obtain ⟨es', hes, rfl⟩ := map_some' h
    exact se_tup (list_ok c hf hes).1
  · obtain ⟨es', hes, rfl⟩ := map_some' h
    exact se_lst (list_ok c hf hes).1
  · exact sub_ok c hf h
  · exact attr_ok c hf h
  · exact call_ok c hf h
  · exact index_ok c hf h
  · exact fs_ok c hf h
  · exact comp_ok c hf hg h
  · cases h
end
theorem cE_ok {x : Lx} {nm : Nm} {rt : Om} {call : Cal → List D → R D} {N : List Str} : ∀ (k : Nat) {own : Option Scope} {sc : Scope} {W : WX} {X : Cx}, Ctx x nm rt call N own sc W X → ∀ (e : Expr) (e' : E), cE nm N k own sc e = some e' → SE x nm.T rt call (Zof x nm.T W) X e e'
  | 0, _, _, _, _, _, _, _, h => nomatch h
  | k + 1, own, sc, W, X, c, e, e', h => by
    unfold cE at h
    exact step_ok c (fun e e' h => cE_ok k c e e' h) (fun s' e e' h s H C cl fp => cE_ok k (c.blk s H C cl fp) e e' h) h
end PV
/-! PV, part z: from the text to the language: statements. -/
namespace PV
open PySem PySem.Spec PyProof.Rows L2
def notTup : Expr → Bool
  | .Tuple _ _ _ => false
  | _ => true
def isVarE : E → Bool
  | .var _ => true
  | _ => false
section
variable (nm : Nm) (N : List Str) (ke : Nat) (sc : Scope) (f : Stmt → Option S)
def cSs : List Stmt → Option Ss
  | [] => some .nil
  | s :: ss => do
    let a ← f s
    let r ← cSs ss
    some (.cons a r)
def cVar (y : Str) : Option Nat := if visB sc y && okNm y then ixOf y N else none
def cSet1 (y : Str) (py : Pos) : Expr → Option S
  | .ListComp elt gens scope p => do
    let i ← cTgN N none sc y
    let e' ← cE nm N (ke + 1) none sc (.ListComp elt gens scope p)
    if sc.kind == .function && sc.names.lookup y == some .local && (py.line == p.line) && !(scope.names.any fun (n, k) => n == y && (k == .local || k == .cell)) then some (.asg (.one i) e') else none
  | e => do
    let i ← cTgN N none sc y
    let e' ← cE nm N (ke + 1) none sc e
    if plainE e then some (.asg (.one i) e') else none
def cAsg (e : Expr) : Expr → Option S
  | .Name y py => cSet1 nm N ke sc y py e
  | .Tuple ts _ _ => do
    let is ← cTgs N none sc ts
    let e' ← cE nm N (ke + 1) none sc e
    if notTup e then some (.asg (.many is) e') else none
  | .Attribute (.Name y _) g _ => do
    let i ← cVar N sc y
    let a ← ixOf g nm.AN
    let e' ← cE nm N (ke + 1) none sc e
    if plainE e then some (.setA i a e') else none
  | .Subscript (.Name y _) k _ => do
    let i ← cVar N sc y
    let k' ← cE nm N (ke + 1) none sc k
    let e' ← cE nm N (ke + 1) none sc e
    if plainSub k && plainE e then some (.setI i (.cons k' .nil) e') else none
  | _ => none
def cRet (e : Expr) : Option S := do
  let e' ← cE nm N (ke + 1) none sc e
  match e with
  | .Name y _ => if visB sc y then (cVar N sc y).map fun i => .ret (.var i) else if isVarE e' then none else some (.ret e')
  | _ => if isVarE e' then none else some (.ret e')
def cDrop : Expr → Option S
  | .Call (.Attribute (.Name y _) m apos) [e] [] cpos => do
    let i ← cVar N sc y
    let e' ← cE nm N (ke + 1) none sc e
    if m = ("append" : Str) ∧ (apos.endLine == cpos.line) = true ∧ noStar e = true then some (.app i .nil e') else none
  | e => do
    let e' ← cE nm N (ke + 1) none sc e
    if plainE e then some (.expr e') else none
def cSt : Stmt → Option S
  | .Assign [t] e _ => cAsg nm N ke sc e t
  | .Expr e _ => cDrop nm N ke sc e
  | .Return none _ => some .retN
  | .Return (some e) _ => cRet nm N ke sc e
  | .If c a b _ => do
    let c' ← cE nm N (ke + 1) none sc c
    let a' ← cSs f a
    let b' ← cSs f b
    if notIf c' then some (.ife c' a' b') else none
  | .For t i b [] _ => do
    let t' ← cTg N none sc t
    let i' ← cIt nm sc (cE nm N (ke + 1) none sc) i
    let b' ← cSs f b
    if notSet i then some (.for_ t' i' b') else none
  | .While c b [] _ => do
    let c' ← cE nm N (ke + 1) none sc c
    let b' ← cSs f b
    if notIf c' then some (.while_ c' b') else none
  | .Pass _ => some .pass
  | .Break _ => some .brk
  | .Continue _ => some .cont
  | .Raise _ _ _ => some .never
  | _ => none
end
def cS (nm : Nm) (N : List Str) (ke : Nat) (sc : Scope) : Nat → Stmt → Option S
  | 0, _ => none
  | k + 1, s => cSt nm N ke sc (cS nm N ke sc k) s
theorem swaps_sole {e t : Expr} {l : Nat} {env : Env} (h : plainE e = true) : swapsWithSole [t] e l env = pure false := swaps_no h
section
variable {x : Lx} {nm : Nm} {rt : Om} {ro : Ow} {call : Cal → List PV.D → R PV.D} {wf : Nat} {N : List Str} {ke : Nat} {sc : Scope} {W : WX} {X : Cx} {f : Stmt → Option S} {pos : Pos}
theorem cVar_of {y : Str} {i : Nat} (h : cVar N sc y = some i) : N[i]? = some y ∧ Vis sc y ∧ (y == ("__debug__" : Str)) = false ∧ (y == ("__classdict__" : Str)) = false := by
  unfold cVar at h
  obtain ⟨h1, h⟩ := if_some h
  rw [Bool.and_eq_true] at h1
  obtain ⟨a1, a2, a3⟩ := okNm_of h1.2
  exact ⟨ixOf_get h, vis_of h1.1, a1, a2⟩
variable (c : Ctx x nm rt call N none sc W X)
include c
theorem comp_set {elt : Expr} {gens : List Comprehension} {scope : Scope} {p py spos : Pos} {y : Str} {i : Nat} {e' : E} (hi : cTgN N none sc y = some i) (h : cE nm N (ke + 1) none sc (.ListComp elt gens scope p) = some e')
    (h1 : sc.kind = .function) (h2 : sc.names.lookup y = some .local) (h3 : (py.line == p.line) = true) (h4 : (scope.names.any fun (n, k) => n == y && (k == .local || k == .cell)) = false) :
    PS X (.Assign [.Name y py] (.ListComp elt gens scope p) spos) (tS x nm.T rt ro call wf W (.asg (.one i) e')) := by
  have hf := cE_ok ke c
  have hg : ∀ (s' : Scope) (e : Expr) (e' : E), cE nm N ke (some s') (relS s' sc) e = some e' → ∀ (s : Shared) (H : Hp) (C : Addr) (cl : List (Str × Addr)) (fp : List Addr), SE x nm.T rt call (Zof x nm.T W0) (X.blk s H s' (compEnvC s' cl C X.env) fp) e e' :=
    fun s' e e' h s H C cl fp => cE_ok ke (c.blk s H C cl fp) e e' h
  replace h : cComp nm N sc (cE nm N ke none sc) (fun s' => cE nm N ke (some s') (relS s' sc)) elt gens scope = some e' := h
  unfold cComp at h
  split at h
  · rename_i tg iter ifs a
    split at h
    · rename_i hc
      obtain ⟨rfl, k2, k3⟩ := hc
      obtain ⟨it, hit, h⟩ := bind_some h
      obtain ⟨t, ht, h⟩ := bind_some h
      obtain ⟨elt', helt, h⟩ := bind_some h
      have ok : BlkOk X.N X.env.scope scope (ownOf N scope) := by
        rw [c.hN, c.sc]
        exact blkOk_by k2
      have hy : X.N[i]? = some y := by
        rw [c.hN]
        unfold cTgN at hi
        exact ixOf_get (if_some hi).2
      have hyl : X.env.scope.names.lookup y = some .local := by rw [c.sc]; exact h2
      have hsw : swapsWith (.ListComp elt [⟨tg, iter, ifs, 0⟩] scope p) (some (.Name y py)) spos.line X.env = pure true := sw_true (by rw [c.sc]; exact h1) hyl h3 h4
      have B : BlkF x nm.T rt call X tg t elt elt' scope := ⟨fun s H C cl fp => tg_ok (c.blk s H C cl fp) ht, fun s H C cl fp => hg scope elt elt' helt s H C cl fp⟩
      have hit' := it_ok (tg := tg) c hf true hit
      rcases ifs with _ | ⟨cnd, _ | ⟨c2, cs⟩⟩
      · cases h
        exact s_asg1 (ps_setLc c.calm (by rw [c.hN]; exact c.nd) hy hyl hsw hit' ok B.g (fun s H C cl fp => pts_nil) (fun s H C cl fp => (B.e s H C cl fp).v) (fold_no k3)) (lc_comp false)
      · obtain ⟨c', hc', h⟩ := bind_some (show (cE nm N ke (some scope) (relS scope sc) cnd >>= fun c' => if notIf c' = true then some (E.compI elt' ((ownOf N scope).map (·.2)) t it c') else none) = some e' from h)
        obtain ⟨hn, h⟩ := if_some h
        cases h
        exact s_asg1 (ps_setLc c.calm (by rw [c.hN]; exact c.nd) hy hyl hsw hit' ok B.g (fun s H C cl fp => pts_one ((hg scope cnd c' hc' s H C cl fp).t hn)) (fun s H C cl fp => (B.e s H C cl fp).v) (fold_no k3)) (lc_compI false)
      · cases h
    · cases h
  · cases h
theorem set1_ok {y : Str} {py spos : Pos} {e : Expr} {s' : S} (h : cSet1 nm N ke sc y py e = some s') : PS X (.Assign [.Name y py] e spos) (tS x nm.T rt ro call wf W s') := by
  unfold cSet1 at h
  split at h
  · obtain ⟨i, hi, h⟩ := bind_some h
    obtain ⟨e', he, h⟩ := bind_some h
    obtain ⟨hz, h⟩ := if_some h
    cases h
    simp only [Bool.and_eq_true, Bool.not_eq_true', beq_iff_eq] at hz
    obtain ⟨⟨⟨z1, z2⟩, z3⟩, z4⟩ := hz
    exact comp_set c hi he z1 z2 (by simpa using z3) z4
  · obtain ⟨i, hi, h⟩ := bind_some h
    obtain ⟨e', he, h⟩ := bind_some h
    obtain ⟨hz, h⟩ := if_some h
    cases h
    have s := cE_ok _ c _ _ he
    exact s_asg1 (ps_asg s.v (tgn_ok c hi) (swaps_sole hz) rfl rfl) fun σ H Q q => q
theorem asg_ok {e tg : Expr} {spos : Pos} {s' : S} (h : cAsg nm N ke sc e tg = some s') : PS X (.Assign [tg] e spos) (tS x nm.T rt ro call wf W s') := by
  unfold cAsg at h
  split at h
  · exact set1_ok c h
  · rename_i ts k p
    obtain ⟨is, his, h⟩ := bind_some h
    obtain ⟨e', he, h⟩ := bind_some h
    obtain ⟨hz, h⟩ := if_some h
    cases h
    have s := cE_ok _ c _ _ he
    have G : PG X (.Tuple ts k p) (gT x.K (.many is)) := by
      refine tg_ok (own := none) (t := .many is) c ?_
      show (cTgs N none sc ts).map Tg.many = _
      rw [his]
      rfl
    refine s_asgT (ps_asg s.v G ?_ ?_ rfl) fun σ H Q q => q
    · show swapsWith e (some (.Tuple ts k p)) spos.line X.env = pure false
      cases e <;> rfl
    · cases e <;> first | rfl | cases hz
  · rename_i y p g q
    obtain ⟨i, hi, h⟩ := bind_some h
    obtain ⟨a, ha, h⟩ := bind_some h
    obtain ⟨e', he, h⟩ := bind_some h
    obtain ⟨hz, h⟩ := if_some h
    cases h
    obtain ⟨v1, v2, v3, v4⟩ := cVar_of hi
    exact s_setA c.hx c.inj (c.an _ _ (ixOf_get ha)) (fun k q a b => c.at_ _ k q a b) (by rw [c.hN]; exact v1) (by rw [c.sc]; exact v2) v3 v4 (cE_ok _ c _ _ he) hz
  · rename_i y p k q
    obtain ⟨i, hi, h⟩ := bind_some h
    obtain ⟨k', hk, h⟩ := bind_some h
    obtain ⟨e', he, h⟩ := bind_some h
    obtain ⟨hz, h⟩ := if_some h
    cases h
    rw [Bool.and_eq_true] at hz
    obtain ⟨v1, v2, v3, v4⟩ := cVar_of hi
    have s := cE_ok _ c _ _ he
    have sk := cE_ok _ c _ _ hk
    refine s_setI1 (ps_asg s.v (pg_sub (pe_var (by rw [c.hN]; exact v1) (by rw [c.sc]; exact v2) v3 v4) sk.b set_list ?_) ?_ ?_ rfl)
    · intro v
      have h1 := hz.1
      cases k <;> first | rfl | cases h1
    · exact swaps_sole hz.2
    · rfl
  · cases h
theorem ret_ok {e : Expr} {spos : Pos} {s' : S} (h : cRet nm N ke sc e = some s') : PS X (.Return (some e) spos) (tS x nm.T rt ro call wf W s') := by
  unfold cRet at h
  obtain ⟨e', he, h⟩ := bind_some h
  have s := cE_ok _ c _ _ he
  have gen : ∀ {s' : S}, (if isVarE e' = true then none else some (S.ret e')) = some s' → PS X (.Return (some e) spos) (tS x nm.T rt ro call wf W s') := fun {s'} h => by
    split at h
    · cases h
    · rename_i hv
      cases h
      exact s_ret s fun i z => by rw [z] at hv; exact hv rfl
  split at h
  · split at h
    · obtain ⟨i, hi, rfl⟩ := map_some' h
      obtain ⟨v1, v2, v3, v4⟩ := cVar_of hi
      exact s_retV (by rw [c.hN]; exact v1) (by rw [c.sc]; exact v2) v3 v4
    · exact gen h
  · exact gen h
theorem drop_ok {e : Expr} {spos : Pos} {s' : S} (h : cDrop nm N ke sc e = some s') : PS X (.Expr e spos) (tS x nm.T rt ro call wf W s') := by
  unfold cDrop at h
  split at h
  · obtain ⟨i, hi, h⟩ := bind_some h
    obtain ⟨e', he, h⟩ := bind_some h
    split at h
    · rename_i hz
      obtain ⟨z1, z2, z3⟩ := hz
      cases h
      subst z1
      obtain ⟨v1, v2, v3, v4⟩ := cVar_of hi
      exact s_app0 c.hx (by rw [c.hN]; exact v1) (by rw [c.sc]; exact v2) v3 v4 (cE_ok _ c _ _ he) z3 z2
    · cases h
  · obtain ⟨e', he, h⟩ := bind_some h
    obtain ⟨hz, h⟩ := if_some h
    cases h
    exact s_expr (cE_ok _ c _ _ he) hz
theorem ss_ok (hs : ∀ s s', f s = some s' → PS X s (tS x nm.T rt ro call wf W s')) : ∀ {ss : List Stmt} {ss' : Ss}, cSs f ss = some ss' → PSs X ss (tSs x nm.T rt ro call wf W ss')
  | [], ss', h => by cases h; exact ss_nil
  | s :: ss, ss', h => by
    unfold cSs at h
    obtain ⟨a, ha, h⟩ := bind_some h
    obtain ⟨r, hr, h⟩ := bind_some h
    cases h
    exact ss_cons (hs _ _ ha) (ss_ok hs hr)
theorem st_ok (hp : PassesOwn (model X.prog X.w) X.A X.env X.xe) (hs : ∀ s s', f s = some s' → PS X s (tS x nm.T rt ro call wf W s')) {s : Stmt} {s' : S} (h : cSt nm N ke sc f s = some s') : PS X s (tS x nm.T rt ro call wf W s') := by
  unfold cSt at h
  split at h
  · exact asg_ok c h
  · exact drop_ok c h
  · cases h; exact s_retN
  · exact ret_ok c h
  · obtain ⟨c', hc, h⟩ := bind_some h
    obtain ⟨a', ha, h⟩ := bind_some h
    obtain ⟨b', hb, h⟩ := bind_some h
    obtain ⟨hn, h⟩ := if_some h
    cases h
    exact s_ife (cE_ok _ c _ _ hc) hn (ss_ok c hs ha) (ss_ok c hs hb)
  · obtain ⟨t', ht, h⟩ := bind_some h
    obtain ⟨i', hi, h⟩ := bind_some h
    obtain ⟨b', hb, h⟩ := bind_some h
    obtain ⟨hn, h⟩ := if_some h
    cases h
    exact s_for hp c.calm (it_ok c (cE_ok _ c) false hi) (tg_ok c ht) (ss_ok c hs hb) (fold_no hn)
  · obtain ⟨c', hc, h⟩ := bind_some h
    obtain ⟨b', hb, h⟩ := bind_some h
    obtain ⟨hn, h⟩ := if_some h
    cases h
    exact s_while hp (cE_ok _ c _ _ hc) hn (ss_ok c hs hb)
  · cases h; exact s_pass
  · cases h; exact s_brk
  · cases h; exact s_cont
  · cases h; exact s_never
  · cases h
theorem cS_ok (hp : PassesOwn (model X.prog X.w) X.A X.env X.xe) : ∀ (k : Nat) (s : Stmt) (s' : S), cS nm N ke sc k s = some s' → PS X s (tS x nm.T rt ro call wf W s')
  | 0, _, _, h => nomatch h
  | k + 1, s, s', h => by
    unfold cS at h
    exact st_ok c hp (cS_ok hp k) h
end
end PV
/-! PV, part za: a program's functions. -/
namespace PV
open PySem PySem.Spec PyProof.Rows L2
/-! ### the readings do not lean on the pinned slot -/
abbrev Lx.wsv (x : Lx) (u : Option V) : Lx := { x with sv := u }
section
variable {x : Lx} {F H : Hp}
mutual
theorem Rep.wsv (u : Option V) : ∀ {v : V} {d : PV.D}, Rep x F v d → Rep (x.wsv u) F v d
  | _, _, .non => .non
  | _, _, .bl b => .bl b
  | _, _, .int i => .int i
  | _, _, .str s => .str s
  | _, _, .tup h r => .tup h (Reps.wsv u r)
  | _, _, .lst h r => .lst h (Reps.wsv u r)
  | _, _, .scr h => .scr h
  | _, _, .ins h m r => .ins h m (Reps.wsv u r)
theorem Reps.wsv (u : Option V) : ∀ {vs : List V} {ds : List PV.D}, Reps x F vs ds → Reps (x.wsv u) F vs ds
  | _, _, .nil => .nil
  | _, _, .cons r t => .cons (Rep.wsv u r) (Reps.wsv u t)
end
theorem Rp.wsv (u : Option V) : ∀ {o : Ow} {v : V} {d : PV.D} {fp : List Addr}, Rp x F H o v d fp → Rp (x.wsv u) F H o v d fp
  | .fz, _, _, _, h => ⟨h.1.wsv u, h.2⟩
  | .i, _, _, _, h => by
    obtain ⟨a, dx, c, fvs, fs, rfl, rfl, q, nf, m, r, rfl⟩ := h
    exact ⟨a, dx, c, fvs, fs, rfl, rfl, q, nf, m, r.wsv u, rfl⟩
  | .l o, _, _, _, h => by
    obtain ⟨a, vs, ds, fps, rfl, rfl, q, nf, l1, l2, hk, rfl, nd⟩ := h
    exact ⟨a, vs, ds, fps, rfl, rfl, q, nf, l1, l2, fun k w e g a1 a2 a3 => Rp.wsv u (hk k w e g a1 a2 a3), rfl, nd⟩
theorem XRep.wsv {T : Tab} {c : Nat} {as : List PV.D} {dd : Option Addr} (u : Option V) (h : XRep x T F H c as dd) : XRep (x.wsv u) T F H c as dd := by
  unfold XRep at h ⊢
  split at h
  · exact h
  · obtain ⟨d, fvs, vs, h1, h2, h3, h4, h5, h6⟩ := h
    exact ⟨d, fvs, vs, h1, h2, h3, h4, h5.wsv u, h6⟩
  · exact h
end
section
variable {x : Lx} {T : Tab} {rt : Om} {call : Cal → List PV.D → R PV.D}
theorem spD.wsv (u : Option V) {f np : Nat} {vs : List V} {H : Hp} {Q : VK} {E : XK} (h : spD x T rt call f np vs H Q E) : spD (x.wsv u) T rt call f np vs H Q E := by
  obtain ⟨F, ds, s, r, l, w⟩ := h
  exact ⟨F, ds, s, r.wsv u, l, w.mono (fun d k v F' H' fp ex rp n => k v F' H' fp ex (rp.wsv x.sv) n) fun c as k F' H' dd ex xr => k F' H' dd ex (xr.wsv x.sv)⟩
theorem spI.wsv (u : Option V) {f np : Nat} {vs : List V} {H : Hp} {Q : VK} {E : XK} (h : spI x T call f np vs H Q E) : spI (x.wsv u) T call f np vs H Q E := by
  obtain ⟨F, ds, us, a, dx, s, e, h1, h2, r, l, w⟩ := h
  exact ⟨F, ds, us, a, dx, s, e, h1, h2, r.wsv u, l, w.mono (fun d k F' H' a1 a2 a3 a4 rp => k F' H' a1 a2 a3 a4 (rp.wsv x.sv)) fun c as k F' H' dd a1 a2 a3 a4 xr => k F' H' dd a1 a2 a3 a4 (xr.wsv x.sv)⟩
variable {X : Cx}
theorem FnF.wsv (u : Option V) {n f : Nat} {y : Str} (h : FnF X x T rt call n f y) : FnF X (x.wsv u) T rt call n f y := by
  obtain ⟨a, fd, ps, F, hF, hm, hk, FO, hr, hb⟩ := h.ex
  exact ⟨a, fd, ps, F, hF, hm, hk, FO.imp fun vs H Q E q => spD.wsv (x := x.wsv u) x.sv q, hr, fun k k1 k2 => let ⟨dvs, ds, b1, b2, b3, b4⟩ := hb k k1 k2; ⟨dvs, ds, b1, b2, b3.wsv u, b4⟩⟩
theorem MkF.wsv (u : Option V) {n c : Nat} {y : Str} (h : MkF X x T call n c y) : MkF X (x.wsv u) T call n c y := by
  obtain ⟨call0, a, fd, ps, F, q, f, hq, hf, hF, hm, M, FO, hr, hcm, hb⟩ := h.ex
  exact ⟨call0, a, fd, ps, F, q, f, hq, hf, hF, hm, M, FO.imp fun vs H Q E q => spI.wsv (x := x.wsv u) x.sv q, hr, hcm, fun k k1 => let ⟨dvs, ds, b1, b2, b3, b4⟩ := hb k k1; ⟨dvs, ds, b1, b2, b3.wsv u, b4⟩⟩
theorem MkKF.wsv (u : Option V) {n c m : Nat} {y : Str} {ks : List Str} (h : MkKF X x T call n c y m ks) : MkKF X (x.wsv u) T call n c y m ks := by
  obtain ⟨call0, a, fd, ps, F, q, f, g, hq, hf, hF, hm, M, FO, hr, hcm, hnp, hb⟩ := h.ex
  exact ⟨call0, a, fd, ps, F, q, f, g, hq, hf, hF, hm, M, FO.imp fun vs H Q E q => spI.wsv (x := x.wsv u) x.sv q, hr, hcm, hnp, hb⟩
theorem GkOk.wsv (u : Option V) {y : Str} : ∀ {k : Gk}, GkOk X x T rt call y k → GkOk X (x.wsv u) T rt call y k
  | .fn f, ⟨n, h⟩ => ⟨n, h.wsv u⟩
  | .cls c m ks, ⟨h1, h2, h3, h4⟩ => ⟨h1, h2, fun q => let ⟨n, z⟩ := h3 q; ⟨n, z.wsv u⟩, fun q hq => let ⟨n, z⟩ := h4 q hq; ⟨n, z.wsv u⟩⟩
  | .glo g, ⟨u', v, d, h1, h2, h3, h4⟩ => ⟨u', v, d, h1, h2, h3, h4.wsv u⟩
  | .blt, h => h
  | .gcd, h => h
end
/-! ### the entry -/
section
variable {x : Lx} {F H : Hp} {vs : List V} {ds : List PV.D}
theorem Stp.toExt {F H F' H' : Hp} {φ φ' : Nat → List Addr} (s : Stp F H φ F' H' φ') (fh : Sub F H) (h0 : ∀ i, φ i = []) : Ext F H F' H' := by
  refine ⟨s.f, fun a o h => ?_, s.fh, fun a o h n => ?_⟩
  · cases q : F a with
    | some u =>
      have := fh a u q
      rw [h] at this
      cases this
      exact s.fh a o (s.f a o q)
    | none => exact (s.oth a o h q fun i hi => by rw [h0] at hi; cases hi).1
  · cases q : H a with
    | none => rfl
    | some u =>
      have := (s.oth a u q n fun i hi => by rw [h0] at hi; cases hi).2
      rw [h] at this
      cases this
theorem startE_get {n : Nat} {i : Nat} {d : PV.D} (h : (startE n ds)[i]? = some (some d)) : ds[i]? = some d := by
  unfold startE at h
  by_cases hi : i < ds.length
  · rw [List.getElem?_append_left (by simpa using hi), List.getElem?_map] at h
    cases q : ds[i]? with
    | none => rw [q] at h; cases h
    | some e => rw [q] at h; cases h; rfl
  · rw [List.getElem?_append_right (by simpa using Nat.le_of_not_lt hi), List.getElem?_replicate] at h
    split at h <;> cases h
theorem start_get {N : List Str} {i : Nat} {v : V} (h : vs[i]? = some v) : (L2.start N vs)[i]? = some (some v) := by
  unfold L2.start
  have hi : i < vs.length := (List.getElem?_eq_some_iff.mp h).1
  rw [List.getElem?_append_left (by simpa using hi), List.getElem?_map, h]
  rfl
theorem og_rep {n i : Nat} : og (List.replicate n Ow.fz) i = .fz := by
  unfold og
  rw [List.getD_eq_getElem?_getD, List.getElem?_replicate]
  split <;> rfl
theorem SR.start {N : List Str} {n : Nat} (hs : Sub F H) (r : Reps x F vs ds) (hn : N.length = n) (hl : ds.length ≤ n) : SR x (startE n ds) (List.replicate n .fz) (L2.start N vs) F H (fun _ => []) where
  fh := hs
  len := by
    unfold L2.start startE
    rw [List.length_append, List.length_append, List.length_map, List.length_map, List.length_replicate, List.length_replicate, r.length, hn]
  lo := by
    unfold startE
    rw [List.length_append, List.length_map, List.length_replicate, List.length_replicate]
    omega
  at_ := fun i d h => by
    obtain ⟨v, hv, rv⟩ := r.get (startE_get h)
    exact ⟨v, start_get hv, by rw [og_rep]; exact ⟨rv, rfl⟩⟩
  apart := fun i j a h => nomatch h
  no := fun i _ => rfl
  sf := fun v _ h => by rw [og_rep] at h; cases h
theorem og_cons {n i : Nat} {o : Ow} : og (o :: List.replicate n Ow.fz) i = if i = 0 then o else .fz := by
  cases i with
  | zero => rfl
  | succ i =>
    rw [if_neg (Nat.succ_ne_zero i)]
    exact og_rep (n := n) (i := i)
/-- an __init__'s entry -/
theorem SR.startI {N : List Str} {n c : Nat} {a dx : Addr} (hs : Sub F H) (ha : H a = some (.ins (x.cA c) dx [])) (na : F a = none) (r : Reps x F vs ds) (hn : N.length = n + 1) (hl : ds.length ≤ n) :
    SR (x.wsv (some (.ref a))) (startE (n + 1) (.ins c [] :: ds)) (.i :: List.replicate n .fz) (L2.start N (.ref a :: vs)) F H (fun i => if i = 0 then [a] else []) where
  fh := hs
  len := by
    unfold L2.start startE
    rw [List.length_append, List.length_append, List.length_map, List.length_map, List.length_replicate, List.length_replicate, List.length_cons, List.length_cons, r.length, hn]
  lo := by
    unfold startE
    rw [List.length_append, List.length_map, List.length_replicate, List.length_cons, List.length_replicate, List.length_cons]
    omega
  at_ := fun i d h => by
    have h := startE_get h
    cases i with
    | zero =>
      cases h
      exact ⟨.ref a, start_get rfl, a, dx, c, [], [], rfl, rfl, ha, na, rfl, .nil, rfl⟩
    | succ i =>
      obtain ⟨v, hv, rv⟩ := r.get (i := i) (by simpa using h)
      refine ⟨v, start_get (by simpa using hv), ?_⟩
      rw [og_cons, if_neg (Nat.succ_ne_zero i)]
      exact ⟨rv.wsv _, if_neg (Nat.succ_ne_zero i)⟩
  apart := fun i j b h1 h2 => by
    have h1 : b ∈ (if i = 0 then [a] else []) := h1
    have h2 : b ∈ (if j = 0 then [a] else []) := h2
    split at h1
    · split at h2
      · rename_i p q; rw [p, q]
      · cases h2
    · cases h1
  no := fun i h => by
    show (if i = 0 then [a] else []) = []
    split
    · rename_i e
      subst e
      exact absurd rfl (h (.ins c []))
    · rfl
  sf := fun v hv _ => by
    cases hv
    exact start_get rfl
end
end PV
/-! PV, part zb: a def's body, an __init__'s body. -/
namespace PV
open PySem PySem.Spec PyProof.Rows L2
def okFn (rt : Om) (i : Nat) (F : Fn) : Bool := decide (F.np ≤ F.ns) && match anSs rt (og rt i) (List.replicate F.ns .fz) F.body with
  | some r => match r.nx with
    | none => true
    | some _ => decide (og rt i = .fz)
  | none => false
def okIn (rt : Om) (F : Fn) : Bool := decide (F.np ≤ F.ns) && decide (1 ≤ F.ns) && match anSs rt .fz (.i :: List.replicate (F.ns - 1) .fz) F.body with
  | some r => match r.nx with
    | none => true
    | some w => decide (og w 0 = .i)
  | none => false
section
variable {x : Lx} {nm : Nm} {rt : Om} {wf m : Nat} {N : List Str} {sc : Scope} {X : Cx} {Q : VK} {E : XK} {F0 : Fn} {i c ke kk : Nat} {body : List Stmt} {vs : List V} {H : Hp}
theorem dropD {α : Type} (l : List α) (n : Nat) (h : n = 0) : l.drop (l.length - n) = [] := by
  rw [h, Nat.sub_zero, List.drop_length]
theorem body_run {n : Nat} {F : Fn} {ds : List PV.D} (call : Cal → List PV.D → R PV.D) (h1 : ds.length = F.np) : bodyD nm.T call wf F ds = exSs nm.T call wf (startE F.ns ds) F.body := by
  unfold bodyD
  rw [if_neg (by rw [List.length_append]; omega), if_neg (by omega), h1, Nat.sub_self, dropD _ _ rfl, List.append_nil]
theorem fn_body (cx : Ctx x nm rt (calN nm.T wf (m + 1)) N none sc (fun cls d _ H => E cls d H) X) (hp : PassesOwn (model X.prog X.w) X.A X.env X.xe) (hF : nm.T.fns[i]? = some F0) (ok : okFn rt i F0 = true) (hN : N.length = F0.ns)
    (hb : cSs (cS nm N ke sc kk) body = some F0.body) (h : spD x nm.T rt (calN nm.T wf (m + 2)) i F0.np vs H Q E) :
    ∃ t, PSs X body t ∧ t { nx := fun _ H' => Q .non H', rt := Q } (L2.start N vs) H := by
  refine ⟨tSs x nm.T rt (og rt i) (calN nm.T wf (m + 1)) wf (fun cls d _ H => E cls d H) F0.body, ss_ok cx (cS_ok cx hp kk) hb, ?_⟩
  obtain ⟨F, ds, s, r, l, w⟩ := h
  unfold okFn at ok
  rw [Bool.and_eq_true] at ok
  obtain ⟨ok1, ok⟩ := ok
  have ok1 : F0.np ≤ F0.ns := of_decide_eq_true ok1
  cases han : anSs rt (og rt i) (List.replicate F0.ns .fz) F0.body with
  | none => rw [han] at ok; cases ok
  | some rr =>
    rw [han] at ok
    have e : calN nm.T wf (m + 2) (.fn i) ds = ((bodyD nm.T (calN nm.T wf (m + 1)) wf F0 ds) >>= fun q => match q with
      | (.ret d, _) => R.ok d
      | (.next, _) => R.ok .non
      | _ => .bad) := by
      show (match nm.T.fns[i]? with
        | some F => (bodyD nm.T (calN nm.T wf (m + 1)) wf F ds) >>= fun q => match q with
          | (.ret d, _) => R.ok d
          | (.next, _) => R.ok .non
          | _ => .bad
        | none => .bad) = _
      rw [hF]
    rw [e, body_run (n := 0) _ l] at w
    refine ⟨startE F0.ns ds, List.replicate F0.ns .fz, F, fun _ => [], rr, SR.start s r hN (by omega), han, w.bind.mono (fun q hq => ?_) fun c as z σ' F' H' dd st xr => z F' H' dd (st.toExt s fun _ => rfl) xr⟩
    obtain ⟨fl, ρ'⟩ := q
    cases fl with
    | next =>
      intro ω' e1 σ' F' H' φ' st s2
      have hq : ∀ v F' H' fp, Ext F H F' H' → Rp x F' H' (og rt i) v .non fp → (∀ a ∈ fp, H a = none) → Q v H' := hq
      have ok : (match rr.nx with
        | none => true
        | some _ => decide (og rt i = .fz)) = true := ok
      rw [e1] at ok
      have hz : og rt i = .fz := of_decide_eq_true ok
      exact hq .non F' H' [] (st.toExt s fun _ => rfl) (by rw [hz]; exact ⟨.non, rfl⟩) fun _ h => nomatch h
    | brk => exact False.elim hq
    | cont => exact False.elim hq
    | ret d =>
      intro v F' H' fp st rp
      have hq : ∀ v F' H' fp, Ext F H F' H' → Rp x F' H' (og rt i) v d fp → (∀ a ∈ fp, H a = none) → Q v H' := hq
      refine hq v F' H' fp (st.toExt s fun _ => rfl) rp fun a ha => ?_
      rcases st.own 0 a (by show a ∈ (if 0 = 0 then fp else []); rw [if_pos rfl]; exact ha) with ⟨j, hj⟩ | z
      · cases hj
      · exact z
theorem in_body (cx : ∀ a : Addr, Ctx (x.wsv (some (.ref a))) nm rt (calN nm.T wf (m + 1)) N none sc (fun cls d _ H => E cls d H) X) (hp : PassesOwn (model X.prog X.w) X.A X.env X.xe) {q : Cl} (hq0 : nm.T.cls[c]? = some q) (hi0 : q.init = some i) (hF : nm.T.fns[i]? = some F0)
    (ok : okIn rt F0 = true) (hN : N.length = F0.ns) (hb : cSs (cS nm N ke sc kk) body = some F0.body) (h : spI x nm.T (calN nm.T wf (m + 2)) c F0.np vs H Q E) :
    ∃ t, PSs X body t ∧ t { nx := fun _ H' => Q .non H', rt := Q } (L2.start N vs) H := by
  obtain ⟨F, ds, us, a, dx, s, rfl, ha, na, r, l, w⟩ := h
  refine ⟨tSs (x.wsv (some (.ref a))) nm.T rt .fz (calN nm.T wf (m + 1)) wf (fun cls d _ H => E cls d H) F0.body, ss_ok (cx a) (cS_ok (cx a) hp kk) hb, ?_⟩
  unfold okIn at ok
  rw [Bool.and_eq_true, Bool.and_eq_true] at ok
  obtain ⟨⟨ok1, ok2⟩, ok⟩ := ok
  have ok1 : F0.np ≤ F0.ns := of_decide_eq_true ok1
  have ok2 : 1 ≤ F0.ns := of_decide_eq_true ok2
  cases han : anSs rt .fz (.i :: List.replicate (F0.ns - 1) .fz) F0.body with
  | none => rw [han] at ok; cases ok
  | some rr =>
    rw [han] at ok
    have e : calN nm.T wf (m + 2) (.ini c) ds = ((bodyD nm.T (calN nm.T wf (m + 1)) wf F0 (.ins c [] :: ds)) >>= fun q => match q with
      | (.next, ρ) => rdV ρ 0
      | _ => .bad) := by
      show (match (nm.T.cls[c]?).bind (·.init) with
        | some f => (match nm.T.fns[f]? with
          | some F => (bodyD nm.T (calN nm.T wf (m + 1)) wf F (.ins c [] :: ds)) >>= fun q => match q with
            | (.next, ρ) => rdV ρ 0
            | _ => .bad
          | none => .bad)
        | none => .bad) = _
      rw [hq0]
      show (match q.init with
        | some f => (match nm.T.fns[f]? with
          | some F => (bodyD nm.T (calN nm.T wf (m + 1)) wf F (.ins c [] :: ds)) >>= fun q => match q with
            | (.next, ρ) => rdV ρ 0
            | _ => .bad
          | none => .bad)
        | none => .bad) = _
      rw [hi0]
      show (match nm.T.fns[i]? with
          | some F => (bodyD nm.T (calN nm.T wf (m + 1)) wf F (.ins c [] :: ds)) >>= fun q => match q with
            | (.next, ρ) => rdV ρ 0
            | _ => .bad
          | none => .bad) = _
      rw [hF]
    rw [e, body_run (n := 0) _ (by rw [List.length_cons]; exact l)] at w
    have hns : F0.ns = (F0.ns - 1) + 1 := by omega
    have S := SR.startI (N := N) (n := F0.ns - 1) (c := c) s ha na r (by rw [hN]; exact hns) (by omega)
    rw [← hns] at S
    have conv : ∀ {F' H' : Hp} {φ' : Nat → List Addr}, Stp F H (fun i => if i = 0 then [a] else []) F' H' φ' → Sub F F' ∧ Sub F' H' ∧ (∀ b o, b ≠ a → H b = some o → H' b = some o) ∧ (∀ b o, F' b = some o → F b = none → b ≠ a → H b = none) := fun {F' H' φ'} st => by
      have out : ∀ b, b ≠ a → ∀ i, b ∉ (if i = 0 then [a] else [] : List Addr) := fun b hb i z => by
        split at z
        · exact hb (by simpa using z)
        · cases z
      refine ⟨st.f, st.fh, fun b o hb h => ?_, fun b o h n hb => ?_⟩
      · cases q : F b with
        | some u =>
          have := s b u q
          rw [h] at this
          cases this
          exact st.fh b o (st.f b o q)
        | none => exact (st.oth b o h q (out b hb)).1
      · cases q : H b with
        | none => rfl
        | some u =>
          have := (st.oth b u q n (out b hb)).2
          rw [h] at this
          cases this
    refine ⟨_, _, F, _, rr, S, han, w.bind.mono (fun q hq => ?_) fun c as z σ' F' H' dd st xr => ?_⟩
    · obtain ⟨fl, ρ'⟩ := q
      cases fl with
      | next =>
        intro ω' e1 σ' F' H' φ' st s2
        obtain ⟨d, hd, hq⟩ := rdV_wp (show Wp (rdV ρ' 0) _ _ from hq)
        have ok : (match rr.nx with
          | none => true
          | some w => decide (og w 0 = .i)) = true := ok
        rw [e1] at ok
        have hz : og ω' 0 = .i := of_decide_eq_true ok
        obtain ⟨v, hv, rp⟩ := s2.at_ 0 d hd
        have hv2 := s2.sf (.ref a) rfl hz
        rw [hv] at hv2
        cases hv2
        rw [hz] at rp
        obtain ⟨c1, c2, c3, c4⟩ := conv st
        have rp0 := rp
        obtain ⟨a', dx', c', fvs, fs, e2, e3, hH, hF', m1, m2, hfp⟩ := rp
        cases e2
        refine hq F' H' c1 c2 c3 c4 ?_
        rw [← hfp]
        exact rp0.wsv (x := x.wsv (some (.ref a))) x.sv
      | brk => exact False.elim hq
      | cont => exact False.elim hq
      | ret d => exact False.elim hq
    · obtain ⟨c1, c2, c3, c4⟩ := conv st
      exact z F' H' dd c1 c2 c3 c4 (xr.wsv (x := x.wsv (some (.ref a))) x.sv)
end
end PV
/-! PV, part zc: all functions of a program, by the depth of calls. -/
namespace PV
open PySem PySem.Spec PyProof.Rows L2
/-- a def as the text has it -/
structure FI where
  x : Str
  qual : Str
  params : Arguments
  body : List Stmt
  scope : Scope
  N : List Str
  ps : List Str
  dvs : List V
  kws : List (Str × V)
section
variable (mg : Str → Option Value) (x : Lx) (nm : Nm) (rt : Om) (fis : List FI) (fA : Nat → Addr) (fD : Nat → FuncData)
/-- the defaults that fill up a call with k values -/
def Fills (i j k : Nat) (F : Fn) (fi : FI) : Prop := ∃ (dvs : List V) (ds : List Value), Binds x.K (fD i) fi.ps ds ∧ Vals dvs ds ∧ Reps x (fun _ => none) dvs (F.dfl.drop (F.dfl.length - (F.np - (k + j))))
/-- what a global name stands for, without depth -/
def GlOk (y : Str) : Gk → Prop
  | .fn i => ∃ F fi, nm.T.fns[i]? = some F ∧ fis[i]? = some fi ∧ mg y = some (.ref (fA i)) ∧ PySem.W.keepIn x.K (.ref (fA i)) = true ∧ okFn rt i F = true ∧ ∀ k, k ≤ F.np → F.np ≤ k + F.dfl.length → Fills x fD i 0 k F fi
  | .cls c m ks => mg y = some (.ref (x.cA c)) ∧ c < nm.T.cls.length ∧
      ((m = true ∨ ks ≠ []) → ∃ q i F fi, nm.T.cls[c]? = some q ∧ q.init = some i ∧ nm.T.fns[i]? = some F ∧ fis[i]? = some fi ∧ Mk x.K (x.cA c) (fA i) ∧ okIn rt F = true ∧
        (m = true → ∀ k, k + 1 + F.dfl.length = F.np → Fills x fD i 1 k F fi) ∧ ∀ p ∈ ks, p.1 + p.2.length + 1 = F.np ∧ ∃ g, KBn x.K (fD i) fi.ps (p.1 + 1) p.2 g (fun vs zs => vs ++ zs))
  | .glo g => ∃ u v d, mg y = some u ∧ RelV v u ∧ nm.T.globs[g]? = some d ∧ Rep x (fun _ => none) v d
  | .blt => mg y = none
  | .gcd => mg y = some (.builtin "math.gcd")
structure PF (ke kk : Nat) : Prop where
  fd : ∀ (i : Nat) (fi : FI), fis[i]? = some fi → FunD x.K fi.x fi.qual fi.params fi.body fi.scope fi.dvs fi.kws (fA i) (fD i) ∧ FnScope fi.N fi.ps fi.scope
  tf : ∀ (i : Nat) (F : Fn) (fi : FI), nm.T.fns[i]? = some F → fis[i]? = some fi → fi.ps.length = F.np ∧ fi.N.length = F.ns ∧ cSs (cS nm fi.N ke fi.scope kk) fi.body = some F.body
  g : ∀ y k, nm.G.lookup y = some k → GlOk mg x nm rt fis fA fD y k
  inj : ∀ f g, x.an f = x.an g → f = g
  an : ∀ (f : Nat) (y : Str), nm.AN[f]? = some y → x.an f = y
  at_ : ∀ (f c : Nat) (q : Cl), nm.T.cls[c]? = some q → f ∈ q.flds → Cls x.K (x.cA c) ∧ NoAttr x.K (x.cA c) (x.an f)
  isF : IsF x nm.T
end
section
variable {mg : Str → Option Value} {x : Lx} {nm : Nm} {rt : Om} {fis : List FI} {fA : Nat → Addr} {fD : Nat → FuncData} {ke kk wf : Nat} {P : Program} {w : World} {base : Heap}
theorem calN_fn {n i : Nat} {F : Fn} (hF : nm.T.fns[i]? = some F) {es : List PV.D} (h1 : es.length ≤ F.np) (h2 : F.np ≤ es.length + F.dfl.length) :
    calN nm.T wf n (.fn i) (es ++ F.dfl.drop (F.dfl.length - (F.np - es.length))) = calN nm.T wf n (.fn i) es := by
  match n with
  | 0 => rfl
  | 1 => rfl
  | n + 2 =>
    have e : ∀ ds, calN nm.T wf (n + 2) (.fn i) ds = ((bodyD nm.T (calN nm.T wf (n + 1)) wf F ds) >>= fun q => match q with
      | (.ret d, _) => R.ok d
      | (.next, _) => R.ok .non
      | _ => .bad) := fun ds => by
      show (match nm.T.fns[i]? with
        | some F => (bodyD nm.T (calN nm.T wf (n + 1)) wf F ds) >>= fun q => match q with
          | (.ret d, _) => R.ok d
          | (.next, _) => R.ok .non
          | _ => .bad
        | none => .bad) = _
      rw [hF]
    have hl : (es ++ F.dfl.drop (F.dfl.length - (F.np - es.length))).length = F.np := by
      rw [List.length_append, List.length_drop]
      omega
    rw [e, e, body_run (n := 0) _ hl]
    unfold bodyD
    rw [if_neg (by rw [List.length_append]; omega), if_neg (by omega)]
theorem calN_ini {n c i : Nat} {q : Cl} {F : Fn} (hq : nm.T.cls[c]? = some q) (hi : q.init = some i) (hF : nm.T.fns[i]? = some F) {es : List PV.D} (h1 : es.length + 1 ≤ F.np) (h2 : F.np ≤ es.length + 1 + F.dfl.length) :
    calN nm.T wf n (.ini c) (es ++ F.dfl.drop (F.dfl.length - (F.np - (es.length + 1)))) = calN nm.T wf n (.ini c) es := by
  match n with
  | 0 => rfl
  | 1 => rfl
  | n + 2 =>
    have e : ∀ ds, calN nm.T wf (n + 2) (.ini c) ds = ((bodyD nm.T (calN nm.T wf (n + 1)) wf F (.ins c [] :: ds)) >>= fun q => match q with
      | (.next, ρ) => rdV ρ 0
      | _ => .bad) := fun ds => by
      show (match (nm.T.cls[c]?).bind (·.init) with
        | some f => (match nm.T.fns[f]? with
          | some F => (bodyD nm.T (calN nm.T wf (n + 1)) wf F (.ins c [] :: ds)) >>= fun q => match q with
            | (.next, ρ) => rdV ρ 0
            | _ => .bad
          | none => .bad)
        | none => .bad) = _
      rw [hq]
      show (match q.init with
        | some f => (match nm.T.fns[f]? with
          | some F => (bodyD nm.T (calN nm.T wf (n + 1)) wf F (.ins c [] :: ds)) >>= fun q => match q with
            | (.next, ρ) => rdV ρ 0
            | _ => .bad
          | none => .bad)
        | none => .bad) = _
      rw [hi]
      show (match nm.T.fns[i]? with
          | some F => (bodyD nm.T (calN nm.T wf (n + 1)) wf F (.ins c [] :: ds)) >>= fun q => match q with
            | (.next, ρ) => rdV ρ 0
            | _ => .bad
          | none => .bad) = _
      rw [hF]
    have hl : (PV.D.ins c [] :: (es ++ F.dfl.drop (F.dfl.length - (F.np - (es.length + 1))))).length = F.np := by
      rw [List.length_cons, List.length_append, List.length_drop]
      omega
    have e2 : (PV.D.ins c [] :: es).length = es.length + 1 := rfl
    rw [e, e, body_run (n := 0) _ hl]
    unfold bodyD
    rw [if_neg (by rw [List.length_append, e2]; omega), if_neg (by rw [e2]; omega), e2]
    rfl
/-- the defs, the __init__s keep their promises, n deep -/
structure Lv (P : Program) (w : World) (mg : Str → Option Value) (base : Heap) (x : Lx) (nm : Nm) (rt : Om) (fis : List FI) (fA : Nat → Addr) (fD : Nat → FuncData) (wf n : Nat) : Prop where
  f : ∀ (i : Nat) (F : Fn) (fi : FI), nm.T.fns[i]? = some F → fis[i]? = some fi → okFn rt i F = true → FnOk P w x.K mg base (L2.CX P w) n (fA i) (fD i) fi.ps (spD x nm.T rt (calN nm.T wf n) i F.np)
  i : ∀ (c : Nat) (q : Cl) (i : Nat) (F : Fn) (fi : FI), nm.T.cls[c]? = some q → q.init = some i → nm.T.fns[i]? = some F → fis[i]? = some fi → okIn rt F = true → FnOk P w x.K mg base (L2.CX P w) n (fA i) (fD i) fi.ps (spI x nm.T (calN nm.T wf n) c F.np)
theorem FnOk.bad {CX : CXT} {n : Nat} {a : Addr} {K : PySem.W.Frag} {fd : FuncData} {ps : List Str} {sp : Sp} (h : ∀ vs H Q E, ¬ sp vs H Q E) : FnOk P w K mg base CX n a fd ps sp :=
  ⟨fun vs H Q E z => absurd z (h vs H Q E), fun A outer s H args us vs Q E _ _ _ _ z => absurd z (h vs H Q E)⟩
theorem Lv.low {n : Nat} (h : ∀ k ds, calN nm.T wf n k ds = .bad) : Lv P w mg base x nm rt fis fA fD wf n where
  f := fun i F fi _ _ _ => FnOk.bad fun vs H Q E ⟨G, ds, _, _, _, w⟩ => by
    rw [h] at w
    exact w
  i := fun c q i F fi _ _ _ _ _ => FnOk.bad fun vs H Q E ⟨G, ds, us, a, dx, _, _, _, _, _, _, w⟩ => by
    rw [h] at w
    exact w
/-- what a body's context knows -/
theorem Lv.ctx {m : Nat} (pf : PF mg x nm rt fis fA fD ke kk) (L0 : Lv P w mg base x nm rt fis fA fD wf m) (L1 : Lv P w mg base x nm rt fis fA fD wf (m + 1)) {X : Cx} {N : List Str} {sc : Scope} {W : WX} (u : Option V)
    (e1 : X.prog = P) (e2 : X.w = w) (e3 : X.K = x.K) (e4 : X.mg = mg) (e5 : X.base = base) (hN : X.N = N) (nd : N.Nodup) (hsc : X.env.scope = sc) (hc : X.calm = true) (tk : Takes X W) (hr : Room (m + 1) X.A) (hfn : ∀ y, X.fn y = true) :
    Ctx (x.wsv u) nm rt (calN nm.T wf (m + 1)) N none sc W X where
  hx := e3
  hN := hN
  nd := nd
  sc := hsc
  calm := hc
  tk := tk
  un := by
    have := hr.un
    omega
  g := fun y k h => by
    refine GkOk.wsv u ?_
    have G := pf.g y k h
    subst e1 e2 e4 e5
    cases k with
    | fn i =>
      obtain ⟨F, fi, hF, hfi, hm, hk, ok, hb⟩ := G
      refine ⟨m + 1, ⟨fA i, fD i, fi.ps, F, hF, hm, by rw [e3]; exact hk, by rw [e3]; exact L1.f i F fi hF hfi ok, hr, fun k k1 k2 => ?_⟩⟩
      obtain ⟨dvs, ds, b1, b2, b3⟩ := hb k k1 k2
      exact ⟨dvs, ds, by rw [e3]; exact b1, b2, b3, fun es hl => by rw [← hl]; exact calN_fn hF (by omega) (by omega)⟩
    | cls c mm ks =>
      obtain ⟨hm, hlt, hh⟩ := G
      have hcall : ∀ ds, calN nm.T wf (m + 1) (.mk c) ds = calN nm.T wf m (.ini c) ds := fun ds => by cases m <;> rfl
      refine ⟨hm, hlt, fun hmm => ?_, fun p hp => ?_⟩
      · obtain ⟨q, i, F, fi, hq, hi, hF, hfi, M, ok, hb, _⟩ := hh (.inl hmm)
        refine ⟨m, ⟨calN nm.T wf m, fA i, fD i, fi.ps, F, q, i, hq, hi, hF, hm, by rw [e3]; exact M, by rw [e3]; exact L0.i c q i F fi hq hi hF hfi ok, hr, hcall, fun k k1 => ?_⟩⟩
        obtain ⟨dvs, ds, b1, b2, b3⟩ := hb hmm k k1
        exact ⟨dvs, ds, by rw [e3]; exact b1, b2, b3, fun es hl => by rw [← hl]; exact calN_ini hq hi hF (by omega) (by omega)⟩
      · obtain ⟨q, i, F, fi, hq, hi, hF, hfi, M, ok, _, hb⟩ := hh (.inr (List.ne_nil_of_mem hp))
        obtain ⟨hnp, g, kb⟩ := hb p hp
        exact ⟨m, ⟨calN nm.T wf m, fA i, fD i, fi.ps, F, q, i, g, hq, hi, hF, hm, by rw [e3]; exact M, by rw [e3]; exact L0.i c q i F fi hq hi hF hfi ok, hr, hcall, hnp, by rw [e3]; exact kb⟩⟩
    | glo g => exact G
    | blt => exact G
    | gcd => exact G
  fn := fun y _ => hfn y
  inj := pf.inj
  an := pf.an
  at_ := pf.at_
  isF := ⟨pf.isF.cl, pf.isF.kit⟩
theorem Lv.next {m : Nat} (pf : PF mg x nm rt fis fA fD ke kk) (L0 : Lv P w mg base x nm rt fis fA fD wf m) (L1 : Lv P w mg base x nm rt fis fA fD wf (m + 1)) : Lv P w mg base x nm rt fis fA fD wf (m + 2) where
  f := fun i F fi hF hfi ok => by
    obtain ⟨FD, S⟩ := pf.fd i fi hfi
    obtain ⟨t1, t2, t3⟩ := pf.tf i F fi hF hfi
    refine FD.ok S (fun vs H Q E h => ?_) fun cdv A outer s H vs Q E hr h => ?_
    · obtain ⟨G, ds, _, r, l, _⟩ := h
      rw [r.length, l, t1]
    · exact fn_body (Lv.ctx pf L0 L1 x.sv rfl rfl rfl rfl rfl rfl S.nd rfl rfl (takes_of rfl rfl rfl rfl) hr fun _ => rfl) (passes_of rfl) hF ok t2 t3 h
  i := fun c q i F fi hq hi hF hfi ok => by
    obtain ⟨FD, S⟩ := pf.fd i fi hfi
    obtain ⟨t1, t2, t3⟩ := pf.tf i F fi hF hfi
    refine FD.ok S (fun vs H Q E h => ?_) fun cdv A outer s H vs Q E hr h => ?_
    · obtain ⟨G, ds, us, a, dx, _, rfl, _, _, r, l, _⟩ := h
      rw [List.length_cons, r.length, l, t1]
    · exact in_body (fun a => Lv.ctx pf L0 L1 (some (.ref a)) rfl rfl rfl rfl rfl rfl S.nd rfl rfl (takes_of rfl rfl rfl rfl) hr fun _ => rfl) (passes_of rfl) hq hi hF ok t2 t3 h
theorem Lv.all (pf : PF mg x nm rt fis fA fD ke kk) : ∀ n, Lv P w mg base x nm rt fis fA fD wf n ∧ Lv P w mg base x nm rt fis fA fD wf (n + 1)
  | 0 => ⟨Lv.low fun _ _ => rfl, Lv.low fun _ _ => rfl⟩
  | n + 1 => let ⟨a, b⟩ := Lv.all pf n; ⟨b, Lv.next pf a b⟩
end
end PV
/-! PV, part zd: from the head's facts to the end. -/
namespace PV
open PySem PySem.Spec PyProof.Rows L2
/-! ### attributes by number -/
def anOf (AN : List Str) (f : Nat) : Str := match AN[f]? with
  | some y => y
  | none => ⟨(List.replicate (f + 1) 1).toArray⟩
def anB (AN : List Str) : Bool := AN.all fun y => match y.cps.toList with
  | c :: _ => c != 1
  | [] => false
theorem nd_get {α : Type} {y : α} : ∀ {l : List α} {i j : Nat}, l.Nodup → l[i]? = some y → l[j]? = some y → i = j
  | [], i, j, _, h, _ => by simp at h
  | a :: l, 0, 0, _, _, _ => rfl
  | a :: l, 0, j + 1, nd, h1, h2 => by
    cases h1
    exact absurd (List.mem_of_getElem? (l := l) (i := j) (by simpa using h2)) (List.nodup_cons.mp nd).1
  | a :: l, i + 1, 0, nd, h1, h2 => by
    cases h2
    exact absurd (List.mem_of_getElem? (l := l) (i := i) (by simpa using h1)) (List.nodup_cons.mp nd).1
  | a :: l, i + 1, j + 1, nd, h1, h2 => by rw [nd_get (List.nodup_cons.mp nd).2 (i := i) (j := j) (by simpa using h1) (by simpa using h2)]
theorem anOf_inj {AN : List Str} (nd : AN.Nodup) (hb : anB AN = true) : ∀ f g, anOf AN f = anOf AN g → f = g := by
  have key : ∀ {f : Nat} {y : Str}, AN[f]? = some y → ∀ n, y ≠ ⟨(List.replicate (n + 1) 1).toArray⟩ := fun {f y} h n e => by
    have h1 := List.all_eq_true.mp hb y (List.mem_of_getElem? h)
    subst e
    simp [List.replicate_succ] at h1
  intro f g h
  unfold anOf at h
  cases h1 : AN[f]? with
  | some y =>
    cases h2 : AN[g]? with
    | some z =>
      rw [h1, h2] at h
      have h : y = z := h
      subst h
      exact nd_get nd h1 h2
    | none =>
      rw [h1, h2] at h
      exact absurd h (key h1 g)
  | none =>
    cases h2 : AN[g]? with
    | some z =>
      rw [h1, h2] at h
      exact absurd h.symm (key h2 f)
    | none =>
      rw [h1, h2] at h
      have h : (⟨(List.replicate (f + 1) 1).toArray⟩ : Str) = ⟨(List.replicate (g + 1) 1).toArray⟩ := h
      have e := congrArg (fun s : Str => s.cps.toList.length) h
      simpa using e
theorem anOf_get {AN : List Str} (f : Nat) (y : Str) (h : AN[f]? = some y) : anOf AN f = y := by
  unfold anOf
  rw [h]
/-! ### rows of facts -/
def AllI {α : Type} (P : Nat → α → Prop) : Nat → List α → Prop
  | _, [] => True
  | n, a :: l => P n a ∧ AllI P (n + 1) l
theorem AllI.get {α : Type} {P : Nat → α → Prop} : ∀ {l : List α} {n i : Nat} {a : α}, AllI P n l → l[i]? = some a → P (n + i) a
  | [], _, _, _, _, h => by simp at h
  | b :: l, n, 0, a, h, e => by
    cases e
    exact h.1
  | b :: l, n, i + 1, a, h, e => by
    have := h.2.get (i := i) (by simpa using e)
    rw [show n + (i + 1) = n + 1 + i by omega]
    exact this
theorem lookup_all {G : List (Str × Gk)} {P : Str → Gk → Prop} (h : AllI (fun _ p => P p.1 p.2) 0 G) : ∀ y k, G.lookup y = some k → P y k := by
  have key : ∀ (l : List (Str × Gk)) (n : Nat), AllI (fun _ (p : Str × Gk) => P p.1 p.2) n l → ∀ y k, l.lookup y = some k → P y k := by
    intro l
    induction l with
    | nil => intro n _ y k h; cases h
    | cons p l ih =>
      intro n h y k hl
      obtain ⟨z, g⟩ := p
      cases q : y == z with
      | true =>
        rw [List.lookup_cons, q] at hl
        cases hl
        have : y = z := by simpa using q
        rw [this]
        exact h.1
      | false =>
        rw [List.lookup_cons, q] at hl
        exact ih _ h.2 y k hl
  exact key G 0 h
/-! ### scopes -/
def fsB (N ps : List Str) (sc : Scope) : Bool := (sc.kind == .function) && !sc.isCoroutine && !sc.isGenerator && decide N.Nodup && decide (N.take ps.length = ps) &&
  (ps.all fun y => sc.names.lookup y == some .local || sc.names.lookup y == some .cell) && sc.names.all fun p => p.2 != .free
theorem fs_of {N ps : List Str} {sc : Scope} (h : fsB N ps sc = true) : FnScope N ps sc := by
  unfold fsB at h
  simp only [Bool.and_eq_true, beq_iff_eq, Bool.not_eq_true', decide_eq_true_eq, List.all_eq_true, Bool.or_eq_true, bne_iff_ne] at h
  obtain ⟨⟨⟨⟨⟨⟨h1, h2⟩, h3⟩, h4⟩, h5⟩, h6⟩, h7⟩ := h
  exact ⟨h1, h2, h3, h4, h5, h6, h7⟩
/-! ### a law's program -/
/-- one def: as the head has it, its slots, its parameters -/
structure DI where
  d : He.DefD
  N : List Str
  ps : List Str
def DI.fi (K : PySem.W.Frag) (d : DI) : FI := ⟨d.d.name, d.d.qual, d.d.params, d.d.body, d.d.scope, d.N, d.ps, d.d.dvs K, d.d.kws K⟩
/-- the addresses, by names -/
def fAof (K : PySem.W.Frag) (ds : List DI) (i : Nat) : Addr := match ds[i]? with
  | some d => He.fAd K d.d.at_
  | none => 0
def lxOf (K : PySem.W.Frag) (cn AN : List Str) : Lx := { K := K, cA := fun c => He.ga K (cn.getD c ""), an := anOf AN }
section
variable {K : PySem.W.Frag} {mg : Str → Option Value} {h : Heap} {cn AN : List Str} {nm : Nm} {rt : Om} {ds : List DI} {fD : Nat → FuncData} {fa : List He.Fa} {ke kk wf : Nat}
theorem fd_choose (c : He.SaysD fa (ds.map (·.d)) K) : ∃ fD : Nat → FuncData, ∀ (i : Nat) (d : DI), ds[i]? = some d → FunD K d.d.name d.d.qual d.d.params d.d.body d.d.scope (d.d.dvs K) (d.d.kws K) (fAof K ds i) (fD i) := by
  have key : ∀ i : Nat, ∃ fd : FuncData, ∀ d : DI, ds[i]? = some d → FunD K d.d.name d.d.qual d.d.params d.d.body d.d.scope (d.d.dvs K) (d.d.kws K) (fAof K ds i) fd := fun i => by
    cases q : ds[i]? with
    | none => exact ⟨⟨"", "", ⟨[], [], none, [], [], none, []⟩, .stmts [], ⟨.function, [], false, false, []⟩, 0, [], .none, .none, .none, .none, none, .none, .none, 0⟩, fun d h => nomatch h⟩
    | some d =>
      obtain ⟨fd, F⟩ := c.def_ i (d := d.d) (by rw [List.getElem?_map, q]; rfl)
      refine ⟨fd, fun d' h' => ?_⟩
      cases h'
      have e : fAof K ds i = He.fAd K d.d.at_ := by
        unfold fAof
        rw [q]
      rw [e]
      exact F
  exact ⟨fun i => (key i).choose, fun i => (key i).choose_spec⟩
theorem gl_fn {i : Nat} {y : Str} {F : Fn} {d : DI} (hF : nm.T.fns[i]? = some F) (hd : ds[i]? = some d) (hz : F.dfl = []) (hm : mg y = some (.ref (He.ga K y))) (ha : d.d.at_ = (y, none)) (ok : okFn rt i F = true)
    (FD : ∀ (i : Nat) (d : DI), ds[i]? = some d → FunD K d.d.name d.d.qual d.d.params d.d.body d.d.scope (d.d.dvs K) (d.d.kws K) (fAof K ds i) (fD i))
    (hb : ∀ {f : Addr} {fd : FuncData}, FunD K d.d.name d.d.qual d.d.params d.d.body d.d.scope (d.d.dvs K) (d.d.kws K) f fd → Binds K fd d.ps []) :
    GlOk mg (lxOf K cn AN) nm rt (ds.map (DI.fi K)) (fAof K ds) fD y (.fn i) := by
  have e : fAof K ds i = He.ga K y := by
    unfold fAof
    rw [hd]
    show He.fAd K d.d.at_ = _
    rw [ha]
    rfl
  refine ⟨F, d.fi K, hF, by rw [List.getElem?_map, hd]; rfl, by rw [e]; exact hm, (FD i d hd).kp, ok, fun k k1 k2 => ⟨[], [], hb (FD i d hd), .nil, ?_⟩⟩
  rw [hz, List.drop_nil]
  exact .nil
theorem gl_int {g : Nat} {y : Str} {i : Int} (X : K.In h) (G : h.Ns mainGlobals mg) (c : (He.Fa.int y i).ok K = true) (hT : nm.T.globs[g]? = some (.int i)) : GlOk mg (lxOf K cn AN) nm rt (ds.map (DI.fi K)) (fAof K ds) fD y (.glo g) := by
  obtain ⟨t, e⟩ := He.int_ok X G c
  exact ⟨_, .int i, _, e, ⟨t, rfl⟩, hT, .int i⟩
theorem gl_str {g : Nat} {y z : Str} (X : K.In h) (G : h.Ns mainGlobals mg) (c : (He.Fa.str y z).ok K = true) (hT : nm.T.globs[g]? = some (.str z)) : GlOk mg (lxOf K cn AN) nm rt (ds.map (DI.fi K)) (fAof K ds) fD y (.glo g) := by
  obtain ⟨t, e⟩ := He.str_ok X G c
  exact ⟨_, .str z, _, e, ⟨t, rfl⟩, hT, .str z⟩
theorem gl_clsK {c i : Nat} {y : Str} {q : Cl} {F : Fn} {d : DI} {kl : List (Nat × List Str)} (hq : nm.T.cls[c]? = some q) (hi : q.init = some i) (hF : nm.T.fns[i]? = some F) (hd : ds[i]? = some d) (hm : mg y = some (.ref (He.ga K y))) (hc : cn[c]? = some y)
    (ha : d.d.at_ = (y, some ("__init__" : Str))) (M : Mk K (He.ga K y) (He.ma K (He.ga K y) "__init__")) (ok : okIn rt F = true)
    (FD : ∀ (i : Nat) (d : DI), ds[i]? = some d → FunD K d.d.name d.d.qual d.d.params d.d.body d.d.scope (d.d.dvs K) (d.d.kws K) (fAof K ds i) (fD i))
    (hb : ∀ {f : Addr} {fd : FuncData}, FunD K d.d.name d.d.qual d.d.params d.d.body d.d.scope (d.d.dvs K) (d.d.kws K) f fd → ∀ p ∈ kl, p.1 + p.2.length + 1 = F.np ∧ ∃ g, KBn K fd d.ps (p.1 + 1) p.2 g (fun vs zs => vs ++ zs)) :
    GlOk mg (lxOf K cn AN) nm rt (ds.map (DI.fi K)) (fAof K ds) fD y (.cls c false kl) := by
  have ec : (lxOf K cn AN).cA c = He.ga K y := by
    show He.ga K (cn.getD c "") = _
    rw [List.getD_eq_getElem?_getD, hc]
    rfl
  have e : fAof K ds i = He.ma K (He.ga K y) "__init__" := by
    unfold fAof
    rw [hd]
    show He.fAd K d.d.at_ = _
    rw [ha]
    rfl
  refine ⟨by rw [ec]; exact hm, (List.getElem?_eq_some_iff.mp hq).1, fun _ => ⟨q, i, F, d.fi K, hq, hi, hF, by rw [List.getElem?_map, hd]; rfl, by rw [ec, e]; exact M, ok, fun z => (nomatch z), fun p hp => hb (FD i d hd) p hp⟩⟩
/-- what a law's text must be: its defs read as the table has them -/
def Reads (nm : Nm) (ke kk : Nat) (ds : List DI) : Prop := AllI (fun i (d : DI) => fsB d.N d.ps d.d.scope = true ∧ ∀ F, nm.T.fns[i]? = some F → d.ps.length = F.np ∧ d.N.length = F.ns ∧ cSs (cS nm d.N ke d.d.scope kk) d.d.body = some F.body) 0 ds
def Flds (K : PySem.W.Frag) (cn AN : List Str) (cls : List Cl) : Prop := AllI (fun c (q : Cl) => ∀ f ∈ q.flds, Cls K (He.ga K (cn.getD c "")) ∧ NoAttr K (He.ga K (cn.getD c "")) (anOf AN f)) 0 cls
theorem pf_of (nd : nm.AN.Nodup) (hb : anB nm.AN = true) (FD : ∀ (i : Nat) (d : DI), ds[i]? = some d → FunD K d.d.name d.d.qual d.d.params d.d.body d.d.scope (d.d.dvs K) (d.d.kws K) (fAof K ds i) (fD i)) (R : Reads nm ke kk ds)
    (G : ∀ y k, nm.G.lookup y = some k → GlOk mg (lxOf K cn nm.AN) nm rt (ds.map (DI.fi K)) (fAof K ds) fD y k) (A : Flds K cn nm.AN nm.T.cls) (I : IsF (lxOf K cn nm.AN) nm.T) :
    PF mg (lxOf K cn nm.AN) nm rt (ds.map (DI.fi K)) (fAof K ds) fD ke kk where
  fd := fun i fi h => by
    rw [List.getElem?_map] at h
    cases q : ds[i]? with
    | none => rw [q] at h; cases h
    | some d =>
      rw [q] at h
      cases h
      have := R.get q
      exact ⟨FD i d q, fs_of this.1⟩
  tf := fun i F fi hF h => by
    rw [List.getElem?_map] at h
    cases q : ds[i]? with
    | none => rw [q] at h; cases h
    | some d =>
      rw [q] at h
      cases h
      have := R.get q
      rw [Nat.zero_add] at this
      exact this.2 F hF
  g := G
  inj := anOf_inj nd hb
  an := anOf_get
  at_ := fun f c q h hf => by
    have := A.get h
    rw [Nat.zero_add] at this
    exact this f hf
  isF := I
theorem isF_none {x : Lx} {T : Tab} (h : T.cls.all (fun q => !q.isi) = true) : IsF x T := by
  have key : ∀ {k : Nat} {q : Cl}, T.cls[k]? = some q → q.isi = true → False := fun {k q} hq hi => by
    have := List.all_eq_true.mp h q (List.mem_of_getElem? hq)
    rw [hi] at this
    cases this
  exact ⟨fun k q hq hi => (key hq hi).elim, fun k c q hq hi _ => (key hq hi).elim⟩
/-- the law's def, called with the script -/
theorem law_ok {P : Program} {w : World} {base : Heap} {i n : Nat} {F : Fn} {d : DI} (pf : PF mg (lxOf K cn nm.AN) nm rt (ds.map (DI.fi K)) (fAof K ds) fD ke kk) (hF : nm.T.fns[i]? = some F) (hd : ds[i]? = some d) (hnp : F.np = 1) (ok : okFn rt i F = true) :
    FnOk P w K mg base (L2.CX P w) n (fAof K ds i) (fD i) d.ps (spD (lxOf K cn nm.AN) nm.T rt (calN nm.T wf n) i 1) := by
  have := (Lv.all (wf := wf) (P := P) (w := w) (base := base) pf n).1.f i F (d.fi K) hF (by rw [List.getElem?_map, hd]; rfl) ok
  rw [hnp] at this
  exact this
theorem law_sp {i n : Nat} {H : Hp} {a : Addr} {ns : List Int} (hS : SqL K H a (ns.map V.int)) (law : calN nm.T wf n (.fn i) [.scr ns] = .ok (.bl true)) : spD (lxOf K cn nm.AN) nm.T rt (calN nm.T wf n) i 1 [.ref a] H (fun v _ => v = .bl true) fun _ _ _ => False :=
  ⟨H, [.scr ns], fun _ _ h => h, .cons (.scr hS) .nil, rfl, by
    rw [law]
    exact fun v F' H' fp _ rp _ => rp.bl_of⟩
theorem cx_end {P : Program} {w : World} (H : Hp) (s : Shared) (e : Value) (s' : Shared) (h : L2.CX P w [] H s (fun _ _ _ => False) e s') : False := by
  obtain ⟨a, B, H', cls, d, _, _, _, _, _, _, _, z⟩ := h
  exact z
end
/-- no exception leaves the law: the same without any -/
theorem ok_cx0 {P : Program} {w : World} {K : PySem.W.Frag} {mg : Str → Option Value} {base : Heap} {n : Nat} {a : Addr} {fd : FuncData} {ps : List Str} {sp : Sp} (F : FnOk P w K mg base (L2.CX P w) n a fd ps sp) :
    FnOk P w K mg base L2.CX0 n a fd ps (fun vs H Q _ => sp vs H Q fun _ _ _ => False) :=
  ⟨fun vs H Q E h => F.len vs H Q _ h, fun A outer s H args us vs Q E hr e hb hv h => codeAny_mono (F.run A outer s H args us vs Q _ hr e hb hv h) fun r s' q => by
    cases r with
    | error e =>
      obtain ⟨a, B, H', cls, d, _, _, _, _, _, _, _, z⟩ := q
      exact z.elim
    | ok fl => cases fl <;> exact q⟩
def mth (s : Stmt) (j : Nat) : Stmt := match s with
  | .ClassDef _ _ _ b _ _ _ _ _ _ _ => b.getD j (.Pass ⟨0, 0, 0, 0⟩)
  | _ => .Pass ⟨0, 0, 0, 0⟩
theorem bind1 {fd : FuncData} {y : Str} {a : List Str} (h : ∀ (s : Shared) (us : List Value), us.length = a.length → BindsTo s fd ⟨us, []⟩ (a.zip us)) (ha : a = [y]) (s : Shared) (v : Value) : BindsTo s fd ⟨[v], []⟩ [(y, v)] := by
  subst ha
  exact h s [v] rfl
end PV
/-! PV, part ze: data of the top (tuples), names of built-in functions, defaults that are tuples. -/
namespace PV
open PySem PySem.Spec PyProof.Rows L2
mutual
/-- the value shows the data -/
def dB (K : PySem.W.Frag) : D → Value → Bool
  | .non, u => He.relB .non u
  | .bl b, u => He.relB (.bl b) u
  | .int i, u => He.relB (.int i) u
  | .str z, u => He.relB (.str z) u
  | .tup ds, u => match u with
    | .ref a => match K.lookup a with
      | some ⟨.type c, _, .seq its _, _⟩ => decide (c = "tuple") && (decide (its.size ≤ sizeLine) && dBs K ds its.toList)
      | _ => false
    | _ => false
  | _, _ => false
def dBs (K : PySem.W.Frag) : List D → List Value → Bool
  | [], [] => true
  | d :: ds, u :: us => dB K d u && dBs K ds us
  | _, _ => false
end
mutual
theorem dB_ok {x : Lx} {F : Hp} : ∀ {d : D} {u : Value}, dB x.K d u = true → ∃ v, RelV v u ∧ Rep x F v d
  | .non, u, h => ⟨_, He.relB_ok (by rw [← h]; unfold dB; rfl), .non⟩
  | .bl b, u, h => ⟨_, He.relB_ok (by rw [← h]; unfold dB; rfl), .bl b⟩
  | .int i, u, h => ⟨_, He.relB_ok (by rw [← h]; unfold dB; rfl), .int i⟩
  | .str z, u, h => ⟨_, He.relB_ok (by rw [← h]; unfold dB; rfl), .str z⟩
  | .tup ds, u, h => by
    unfold dB at h
    cases u with
    | ref a =>
      replace h : (match x.K.lookup a with
        | some ⟨.type c, _, .seq its _, _⟩ => decide (c = "tuple") && (decide (its.size ≤ sizeLine) && dBs x.K ds its.toList)
        | _ => false) = true := h
      cases q : x.K.lookup a with
      | none => rw [q] at h; cases h
      | some o =>
        obtain ⟨oc, od, dt, osl⟩ := o
        rw [q] at h
        cases oc with
        | type c =>
          cases dt with
          | seq its n =>
            obtain ⟨h1, h2⟩ := He.ba (show (decide (c = "tuple") && (decide (its.size ≤ sizeLine) && dBs x.K ds its.toList)) = true from h)
            obtain ⟨h3, h4⟩ := He.ba h2
            obtain ⟨vs, r1, r2⟩ := dBs_ok h4
            exact ⟨.ref a, rfl, .tup (.inr ⟨_, its, n, q, congrArg Value.type (of_decide_eq_true h1), rfl, of_decide_eq_true h3, r1⟩) r2⟩
          | _ => cases h
        | _ => cases dt <;> cases h
    | _ => cases h
  | .lst _, u, h => by unfold dB at h; cases h
  | .scr _, u, h => by unfold dB at h; cases h
  | .ins _ _, u, h => by unfold dB at h; cases h
  | .exn _ _, u, h => by unfold dB at h; cases h
theorem dBs_ok {x : Lx} {F : Hp} : ∀ {ds : List D} {us : List Value}, dBs x.K ds us = true → ∃ vs, Vals vs us ∧ Reps x F vs ds
  | [], [], _ => ⟨[], .nil, .nil⟩
  | [], _ :: _, h => by unfold dBs at h; cases h
  | _ :: _, [], h => by unfold dBs at h; cases h
  | d :: ds, u :: us, h => by
    unfold dBs at h
    obtain ⟨h1, h2⟩ := He.ba h
    obtain ⟨v, a1, a2⟩ := dB_ok (F := F) h1
    obtain ⟨vs, b1, b2⟩ := dBs_ok (F := F) h2
    exact ⟨v :: vs, .cons a1 b1, .cons a2 b2⟩
end
/-- the keyword-only default y of the def at f, if it is an object -/
def kwAt (f : Str × Option Str) (y : Str) (K : PySem.W.Frag) : Addr := match K.lookup (He.fAd K f) with
  | some ⟨_, _, .func fd, _⟩ => (match fd.kwdefaults with
    | .ref D => (match PySem.W.nsIn K D y with
      | some (some (.ref a)) => a
      | _ => 0)
    | _ => 0)
  | _ => 0
def gB (K : PySem.W.Frag) (p : Str × D) : Bool := match PySem.W.nsIn K mainGlobals p.1 with
  | some (some u) => dB K p.2 u
  | _ => false
def bB (K : PySem.W.Frag) (p : Str × String) : Bool := He.eqO (PySem.W.nsIn K mainGlobals p.1) (some (some (.builtin p.2)))
def kB (K : PySem.W.Frag) (p : (Str × Option Str) × Str × D) : Bool := dB K p.2.2 (.ref (kwAt p.1 p.2.1 K))
/-- more facts of the top -/
structure Tp where
  gs : List (Str × D) := []
  bs : List (Str × String) := []
  ks : List ((Str × Option Str) × Str × D) := []
def Tp.ok (t : Tp) (K : PySem.W.Frag) : Bool := t.gs.all (gB K) && (t.bs.all (bB K) && t.ks.all (kB K))
def obsP (fa : List He.Fa) (fn : List He.DefD) (t : Tp) (K : PySem.W.Frag) : He.AlD := ((He.obsD fa fn K).1 && t.ok K, (He.obsD fa fn K).2)
def SaysP (fa : List He.Fa) (fn : List He.DefD) (t : Tp) (K : PySem.W.Frag) : Prop := obsP fa fn t K = He.valD fn
def obsPG (n : Nat) (fa : List He.Fa) (fn : List He.DefD) (t : Tp) (g : Addr → Option Obj) : He.AlD := obsP fa fn t (He.frG g (He.asD g n))
def hookP (n : Nat) (fa : List He.Fa) (fn : List He.DefD) (t : Tp) : PySem.W.Hook where
  α := He.AlD
  obs := fun s => obsPG n fa fn t s.heap.get?
  val := fun _ => He.valD fn
  says := fun _ h => ∃ K : PySem.W.Frag, K.In h ∧ SaysP fa fn t K
  of := fun _ _ e => ⟨_, He.frG_in, e⟩
  keeps := fun _ _ _ ⟨K, hK, c⟩ k => ⟨K, PySem.W.Frag.In.keeps hK k, c⟩
theorem obsPG_eq {n : Nat} {fa : List He.Fa} {fn : List He.DefD} {t : Tp} {g : Addr → Option Obj} {s : Shared} (h : ∀ a, g a = s.heap.get? a) : obsPG n fa fn t g = (hookP n fa fn t).obs s := by
  have e : g = s.heap.get? := funext h
  rw [e] <;> rfl
section
variable {fa : List He.Fa} {fn : List He.DefD} {t : Tp} {K : PySem.W.Frag}
theorem SaysP.both (c : SaysP fa fn t K) : (He.obsD fa fn K).1 = true ∧ t.ok K = true := He.ba (show ((He.obsD fa fn K).1 && t.ok K) = true from congrArg (fun z : He.AlD => z.1) c)
theorem SaysP.d (c : SaysP fa fn t K) : He.SaysD fa fn K := Prod.ext (c.both.1.trans rfl) (show (obsP fa fn t K).2 = (He.valD fn).2 from congrArg (fun z : He.AlD => z.2) c)
theorem SaysP.g (c : SaysP fa fn t K) (i : Nat) {p : Str × D} (h : t.gs[i]? = some p := by rfl) : gB K p = true := List.all_eq_true.mp (He.ba c.both.2).1 p (List.mem_of_getElem? h)
theorem SaysP.b (c : SaysP fa fn t K) (i : Nat) {p : Str × String} (h : t.bs[i]? = some p := by rfl) : bB K p = true := List.all_eq_true.mp (He.ba (He.ba c.both.2).2).1 p (List.mem_of_getElem? h)
theorem SaysP.k (c : SaysP fa fn t K) (i : Nat) {p : (Str × Option Str) × Str × D} (h : t.ks[i]? = some p := by rfl) : kB K p = true := List.all_eq_true.mp (He.ba (He.ba c.both.2).2).2 p (List.mem_of_getElem? h)
end
section
variable {K : PySem.W.Frag} {mg : Str → Option Value} {h : Heap} {cn AN : List Str} {nm : Nm} {rt : Om} {ds : List DI} {fD : Nat → FuncData} {fa : List He.Fa} {ke kk wf : Nat}
theorem gl_data {g : Nat} {y : Str} {d : D} (X : K.In h) (G : h.Ns mainGlobals mg) (c : gB K (y, d) = true) (hT : nm.T.globs[g]? = some d) : GlOk mg (lxOf K cn AN) nm rt (ds.map (DI.fi K)) (fAof K ds) fD y (.glo g) := by
  have c2 : (match PySem.W.nsIn K mainGlobals y with
    | some (some u) => dB K d u
    | _ => false) = true := c
  cases e : PySem.W.nsIn K mainGlobals y with
  | none => rw [e] at c2; cases c2
  | some o =>
    rw [e] at c2
    cases o with
    | none => cases c2
    | some u =>
      obtain ⟨v, r1, r2⟩ := dB_ok (x := lxOf K cn AN) (F := fun _ => none) (d := d) (u := u) c2
      exact ⟨u, v, d, PySem.W.mg_of X G e, r1, hT, r2⟩
theorem gl_gcd {y : Str} (X : K.In h) (G : h.Ns mainGlobals mg) (c : bB K (y, "math.gcd") = true) : GlOk mg (lxOf K cn AN) nm rt (ds.map (DI.fi K)) (fAof K ds) fD y .gcd := PySem.W.mg_of X G (He.eqO_ok c)
/-- a keyword-only default that is a tuple -/
theorem kw_rep {p : Str × Option Str} {y : Str} {ds : List D} (c : kB K (p, y, .tup ds) = true) {F : Hp} : Rep (lxOf K cn AN) F (.ref (kwAt p y K)) (.tup ds) := by
  obtain ⟨v, r1, r2⟩ := dB_ok (x := lxOf K cn AN) (F := F) (d := .tup ds) (u := .ref (kwAt p y K)) c
  cases r2 with
  | tup h r =>
    cases r1
    exact .tup h r
/-- a class, by position and by keywords -/
theorem gl_cls {c i : Nat} {y : Str} {q : Cl} {F : Fn} {d : DI} {m : Bool} {kl : List (Nat × List Str)} (hq : nm.T.cls[c]? = some q) (hi : q.init = some i) (hF : nm.T.fns[i]? = some F) (hd : ds[i]? = some d) (hm : mg y = some (.ref (He.ga K y))) (hc : cn[c]? = some y)
    (ha : d.d.at_ = (y, some ("__init__" : Str))) (M : Mk K (He.ga K y) (He.ma K (He.ga K y) "__init__")) (ok : okIn rt F = true)
    (FD : ∀ (i : Nat) (d : DI), ds[i]? = some d → FunD K d.d.name d.d.qual d.d.params d.d.body d.d.scope (d.d.dvs K) (d.d.kws K) (fAof K ds i) (fD i))
    (hb : ∀ {f : Addr} {fd : FuncData}, FunD K d.d.name d.d.qual d.d.params d.d.body d.d.scope (d.d.dvs K) (d.d.kws K) f fd → (m = true → ∃ (dvs : List V) (us : List Value), Binds K fd d.ps us ∧ Vals dvs us ∧ Reps (lxOf K cn AN) (fun _ => none) dvs F.dfl) ∧
      ∀ p ∈ kl, p.1 + p.2.length + 1 = F.np ∧ ∃ g, KBn K fd d.ps (p.1 + 1) p.2 g (fun vs zs => vs ++ zs)) :
    GlOk mg (lxOf K cn AN) nm rt (ds.map (DI.fi K)) (fAof K ds) fD y (.cls c m kl) := by
  have ec : (lxOf K cn AN).cA c = He.ga K y := by
    show He.ga K (cn.getD c "") = _
    rw [List.getD_eq_getElem?_getD, hc]
    rfl
  have e : fAof K ds i = He.ma K (He.ga K y) "__init__" := by
    unfold fAof
    rw [hd]
    show He.fAd K d.d.at_ = _
    rw [ha]
    rfl
  refine ⟨by rw [ec]; exact hm, (List.getElem?_eq_some_iff.mp hq).1, fun _ => ⟨q, i, F, d.fi K, hq, hi, hF, by rw [List.getElem?_map, hd]; rfl, by rw [ec, e]; exact M, ok, fun z k hk => ?_, fun p hp => (hb (FD i d hd)).2 p hp⟩⟩
  obtain ⟨dvs, us, b1, b2, b3⟩ := (hb (FD i d hd)).1 z
  refine ⟨dvs, us, b1, b2, ?_⟩
  rw [show F.dfl.length - (F.np - (k + 1)) = 0 by omega, List.drop_zero]
  exact b3
end
end PV
namespace LW
open PySem PySem.Spec PyProof.Rows L2 PV
/-- law -/
def b0_c0 : E := .comp (.bin .add (.lit (.str "s")) (.bi .str (.cons (.var 7) .nil))) [8, 7] (.one 7) (.rng1 (.bi .len (.cons (.call 45 (.cons (.var 4) .nil)) .nil)))
def b0_l0 : Ss := (.cons (.ife (.or (.not (.call 49 (.cons (.sub (.sub (.attr (.var 5) 1) (.var 7)) (.lit (.int 2))) (.cons (.sub (.sub (.var 6) (.var 7)) (.lit (.int 2))) .nil)))) (.not (.call 50 (.cons (.sub (.sub (.attr (.var 5) 1) (.var 7)) (.lit (.int 3))) .nil)))) (.cons (.ret (.lit (.bl false)))
    .nil) .nil)
   .nil)
def b0_f0 : S := .for_ (.one 7) (.rng1 (.bi .len (.cons (.var 6) .nil))) b0_l0
def b0_l1 : Ss := (.cons (.asg (.one 4) (.lst (.cons (.sub (.var 1) (.lit (.int 0))) (.cons (.sub (.var 1) (.lit (.int 1))) (.cons (.var 3) .nil)))))
  (.cons (.asg (.one 5) (.call 5 (.cons (.mkK 1 (.cons (.var 2) (.cons (.sub (.var 1) (.lit (.int 0))) (.cons (.sub (.var 1) (.lit (.int 1))) .nil))) (.cons (.var 3) .nil)) .nil)))
  (.cons (.asg (.one 6) (.call 44 (.cons (.var 4) .nil)))
  (.cons (.ife (.or (.cmp .ne (.attr (.var 5) 2) (.tup (.cons (.lit (.int 1)) (.cons (.lit (.int 1)) .nil)))) (.cmp .ne (.attr (.var 5) 0) (.bi .tuple (.cons b0_c0 .nil)))) (.cons (.ret (.lit (.bl false)))
   .nil) .nil)
  (.cons (.ife (.or (.not (.isi (.attr (.var 5) 1) [.tuple])) (.cmp .ne (.attr (.var 5) 1) (.bi .tuple (.cons (.var 6) .nil)))) (.cons (.ret (.lit (.bl false)))
   .nil) .nil)
  (.cons b0_f0
  .nil))))))
def b0_f1 : S := .for_ (.one 3) (.seq (.lst (.cons (.sub (.var 1) (.lit (.int 2))) (.cons (.sub (.fzl (.lst (.cons (.lit (.str "even")) (.cons (.lit (.str "loss")) .nil)))) (.bi .int (.cons (.cmp .eq (.sub (.var 1) (.lit (.int 2))) (.lit (.str "even"))) .nil))) .nil)))) b0_l1
def b0 : Ss := (.cons (.asg (.one 1) (.call 1 (.cons (.var 0) (.cons (.lit (.int 0)) (.cons (.lit (.bl false)) .nil)))))
 (.cons (.asg (.one 2) (.call 4 (.cons (.var 1) .nil)))
 (.cons b0_f1
 (.cons (.ret (.lit (.bl true)))
 .nil))))
/-- _law_town -/
def b1_c0 : E := .comp (.sub (.var 5) (.var 19)) [17, 19] (.one 19) (.rng1 (.var 18))
def b1_c1 : E := .comp b1_c0 [17, 18] (.one 18) (.seq (.var 4))
def b1_l0 : Ss := (.cons (.asg (.one 15) (.sub (.fzl (.lst (.cons (.bin .sub (.sub (.var 7) (.bin .mul (.lit (.int 2)) (.var 10))) (.lit (.int 10))) (.cons (.bin .fdiv (.sub (.var 7) (.bin .mul (.lit (.int 2)) (.var 10))) (.lit (.int 4))) (.cons (.lit (.int 0)) .nil))))) (.sub (.var 7) (.bin .add (.bin .mul (.lit (.int 2)) (.var 10)) (.lit (.int 1))))))
     (.cons (.asg (.one 16) (.var 15))
     (.cons (.ife (.and (.not (.var 2)) (.cmp .gt (.sub (.var 8) (.bin .add (.bin .mul (.lit (.int 2)) (.var 10)) (.lit (.int 1)))) (.lit (.int 0)))) (.cons (.asg (.one 16) (.bin .sub (.sub (.var 8) (.bin .mul (.lit (.int 2)) (.var 10))) (.lit (.int 10))))
      .nil) .nil)
     (.cons (.ife (.or (.cmp .gt (.sub (.var 3) (.lit (.int 3))) (.lit (.int 0))) (.cmp .ne (.sub (.var 7) (.bin .add (.bin .mul (.lit (.int 2)) (.var 10)) (.lit (.int 1)))) (.lit (.int 2)))) (.cons (.app 9 .nil (.lst (.cons (.var 11) (.cons (.var 13) (.cons (.var 12) (.cons (.var 14) (.cons (.var 15) .nil)))))))
      (.cons (.app 9 .nil (.lst (.cons (.var 12) (.cons (.var 14) (.cons (.var 11) (.cons (.var 13) (.cons (.var 16) .nil)))))))
      .nil)) .nil)
     (.cons (.asg (.one 10) (.bin .mod (.bi .int (.cons (.bin .add (.var 10) (.lit (.int 1))) .nil)) (.lit (.int 48))))
     .nil)))))
def b1_f0 : S := .for_ (.one 14) (.rng1 (.sub (.var 4) (.var 12))) b1_l0
def b1_l1 : Ss := (.cons b1_f0
    .nil)
def b1_f1 : S := .for_ (.one 13) (.rng1 (.sub (.var 4) (.var 11))) b1_l1
def b1_l2 : Ss := (.cons b1_f1
   .nil)
def b1_f2 : S := .for_ (.one 12) (.rng2 (.bin .add (.var 11) (.lit (.int 1))) (.bi .len (.cons (.var 4) .nil))) b1_l2
def b1_l3 : Ss := (.cons b1_f2
  .nil)
def b1_f3 : S := .for_ (.one 11) (.rng1 (.bi .len (.cons (.var 4) .nil))) b1_l3
def b1 : Ss := (.cons (.asg (.one 3) (.call 2 (.cons (.call 3 (.cons (.var 0) (.cons (.var 1) .nil))) (.cons (.lst (.cons (.lit (.int 12)) (.cons (.lit (.int 2)) (.cons (.lit (.int 97)) (.cons (.lit (.int 3)) .nil))))) .nil))))
 (.cons (.asg (.one 4) (.sub (.fzl (.lst (.cons (.lst (.cons (.lit (.int 2)) (.cons (.lit (.int 2)) .nil))) (.cons (.lst (.cons (.lit (.int 2)) (.cons (.lit (.int 2)) (.cons (.lit (.int 2)) .nil)))) (.cons (.lst (.cons (.lit (.int 3)) (.cons (.lit (.int 2)) .nil))) (.cons (.lst (.cons (.lit (.int 2)) (.cons (.lit (.int 3)) .nil))) (.cons (.lst (.cons (.lit (.int 3)) (.cons (.lit (.int 3)) .nil))) (.cons (.lst (.cons (.lit (.int 2)) .nil)) (.cons (.lst (.cons (.lit (.int 1)) (.cons (.lit (.int 2)) .nil))) (.cons (.lst (.cons (.lit (.int 2)) (.cons (.lit (.int 2)) (.cons (.lit (.int 2)) (.cons (.lit (.int 2)) .nil))))) (.cons (.lst (.cons (.lit (.int 4)) (.cons (.lit (.int 2)) .nil))) (.cons (.lst (.cons (.lit (.int 4)) (.cons (.lit (.int 4)) .nil))) (.cons (.lst (.cons (.lit (.int 1)) (.cons (.lit (.int 1)) (.cons (.lit (.int 2)) .nil)))) (.cons (.lst (.cons (.lit (.int 2)) (.cons (.lit (.int 2)) (.cons (.lit (.int 3)) .nil)))) .nil)))))))))))))) (.sub (.var 3) (.lit (.int 0)))))
 (.cons (.asg (.one 5) (.lst (.cons (.lit (.str "left")) (.cons (.lit (.str "right")) (.cons (.lit (.str "mid")) (.cons (.lit (.str "far")) .nil))))))
 (.cons (.asg (.one 6) b1_c1)
 (.cons (.asg (.one 7) (.call 2 (.cons (.call 3 (.cons (.var 0) (.cons (.bin .add (.var 1) (.lit (.int 1))) .nil))) (.cons (.bin .mul (.lst (.cons (.lit (.int 21)) (.cons (.lit (.int 3)) .nil))) (.lit (.int 48))) .nil))))
 (.cons (.asg (.one 8) (.call 2 (.cons (.call 3 (.cons (.var 0) (.cons (.bin .add (.var 1) (.lit (.int 2))) .nil))) (.cons (.bin .mul (.lst (.cons (.lit (.int 21)) (.cons (.lit (.int 4)) .nil))) (.lit (.int 48))) .nil))))
 (.cons (.asg (.one 9) (.lst .nil))
 (.cons (.asg (.one 10) (.lit (.int 0)))
 (.cons b1_f3
 (.cons (.ret (.lst (.cons (.var 6) (.cons (.var 9) (.cons (.sub (.fzl (.lst (.cons (.lit (.str "even")) (.cons (.lit (.str "loss")) .nil)))) (.sub (.var 3) (.lit (.int 1)))) .nil)))))
 .nil))))))))))
/-- _law_digits -/
def b2_l0 : Ss := (.cons (.app 2 .nil (.bin .mod (.bi .int (.cons (.var 3) .nil)) (.var 4)))
   (.cons (.asg (.one 3) (.bin .fdiv (.bi .int (.cons (.var 3) .nil)) (.var 4)))
   .nil))
def b2_f0 : S := .for_ (.one 4) (.seq (.var 1)) b2_l0
def b2_l1 : Ss := (.cons (.asg (.one 5) (.bin .mod (.bi .int (.cons (.bin .add (.bin .add (.bin .mul (.var 5) (.lit (.int 48271))) (.bin .mul (.lit (.int 974711)) (.var 6))) (.lit (.int 12345))) .nil)) (.lit (.int 2147483647))))
  (.cons (.asg (.one 7) (.bin .mod (.bi .int (.cons (.bin .mul (.var 5) (.bin .add (.bin .fdiv (.var 5) (.lit (.int 65537))) (.lit (.int 3)))) .nil)) (.lit (.int 2147483629))))
  (.cons (.app 2 .nil (.bin .mod (.bin .fdiv (.var 7) (.lit (.int 19))) (.sub (.var 1) (.var 6))))
  .nil)))
def b2_f1 : S := .for_ (.one 6) (.rng1 (.bi .len (.cons (.var 1) .nil))) b2_l1
def b2 : Ss := (.cons (.asg (.one 2) (.lst .nil))
 (.cons (.asg (.one 3) (.bi .int (.cons (.var 0) .nil)))
 (.cons (.ife (.cmp .ge (.var 3) (.bin .pow (.lit (.int 10)) (.lit (.int 18)))) (.cons (.asg (.one 3) (.bin .sub (.var 3) (.bin .pow (.lit (.int 10)) (.lit (.int 18)))))
  (.cons b2_f0
  (.cons (.ret (.var 2))
  .nil))) .nil)
 (.cons (.asg (.one 5) (.bin .mod (.bi .int (.cons (.var 3) .nil)) (.lit (.int 2147483629))))
 (.cons b2_f1
 (.cons (.ret (.var 2))
 .nil))))))
/-- _law_cell -/
def b3_l0 : Ss := (.cons (.asg (.one 2) (.bin .mod (.bi .int (.cons (.bin .add (.bin .mul (.var 2) (.lit (.int 31))) (.bin .mod (.bi .int (.cons (.var 3) .nil)) (.lit (.int 1000003)))) .nil)) (.lit (.int 1000003))))
  .nil)
def b3_f0 : S := .for_ (.one 3) (.seq (.var 0)) b3_l0
def b3 : Ss := (.cons (.ife (.cmp .lt (.var 1) (.bi .len (.cons (.var 0) .nil))) (.cons (.ret (.sub (.var 0) (.var 1)))
  .nil) .nil)
 (.cons (.asg (.one 2) (.lit (.int 17)))
 (.cons b3_f0
 (.cons (.ret (.bin .mod (.bi .int (.cons (.bin .mul (.bin .mul (.bin .add (.var 2) (.lit (.int 7))) (.bin .add (.var 1) (.lit (.int 3)))) (.lit (.int 69621))) .nil)) (.lit (.int 2147483647))))
 .nil))))
/-- _law_people -/
def b4 : Ss := (.cons (.ret (.slH (.lst (.cons (.lit (.str "ann")) (.cons (.lit (.str "bob")) (.cons (.lit (.str "cid")) (.cons (.lit (.str "dee")) .nil))))) (.bi .len (.cons (.sub (.var 0) (.lit (.int 0))) .nil))))
 .nil)
/-- town_machine -/
def b5_l0 : Ss := (.cons (.asg (.one 1) (.bin .add (.var 1) (.call 9 (.cons (.var 0) (.cons (.var 3) .nil)))))
  .nil)
def b5_f0 : S := .for_ (.one 3) (.seq (.var 2)) b5_l0
def b5_c0 : E := .comp (.bin .add (.lit (.str "s")) (.bi .fmt (.cons (.var 5) .nil))) [4, 5] (.one 5) (.rng1 (.bi .len (.cons (.var 2) .nil)))
def b5 : Ss := (.cons (.asg (.one 1) (.lst .nil))
 (.cons (.asg (.one 2) (.call 6 (.cons (.var 0) .nil)))
 (.cons b5_f0
 (.cons (.ret (.mk 0 (.cons b5_c0 (.cons (.var 1) .nil))))
 .nil))))
/-- every_row -/
def b6_c0 : E := .comp (.call 7 (.cons (.var 0) (.cons (.var 2) .nil))) [1, 2] (.one 2) (.rng1 (.call 8 (.cons (.attr (.var 0) 5) .nil)))
def b6 : Ss := (.cons (.ret b6_c0)
 .nil)
/-- row_of -/
def b7_l0 : Ss := (.cons (.app 2 .nil (.bin .sub (.var 3) (.bin .mul (.bin .fdiv (.var 3) (.bi .len (.cons (.var 4) .nil))) (.bi .len (.cons (.var 4) .nil)))))
  (.cons (.asg (.one 3) (.bin .fdiv (.var 3) (.bi .len (.cons (.var 4) .nil))))
  .nil))
def b7_f0 : S := .for_ (.one 4) (.rev (.attr (.var 0) 5)) b7_l0
def b7 : Ss := (.cons (.asg (.one 2) (.lst .nil))
 (.cons (.asg (.one 3) (.var 1))
 (.cons b7_f0
 (.cons (.ret (.bi .trev (.cons (.var 2) .nil)))
 .nil))))
/-- row_count -/
def b8_l0 : Ss := (.cons (.asg (.one 1) (.bin .mul (.var 1) (.bi .len (.cons (.var 2) .nil))))
  .nil)
def b8_f0 : S := .for_ (.one 2) (.seq (.var 0)) b8_l0
def b8 : Ss := (.cons (.asg (.one 1) (.lit (.int 1)))
 (.cons b8_f0
 (.cons (.ret (.var 1))
 .nil)))
/-- town_steps -/
def b9_l0 : Ss := (.cons (.ife (.cmp .ne (.var 4) (.sub (.var 1) (.var 3))) (.cons (.asg (.one 5) (.call 10 (.cons (.var 0) (.cons (.call 11 (.cons (.var 1) (.cons (.var 3) (.cons (.var 4) .nil)))) .nil))))
    (.cons (.ife (.cmp .eq (.attr (.var 0) 7) (.lit (.str "even"))) (.cons (.asg (.many [6, 7]) (.call 12 (.cons (.var 0) (.cons (.var 1) (.cons (.var 3) (.cons (.var 4) .nil))))))
     .nil) (.cons (.asg (.many [6, 7]) (.call 16 (.cons (.var 0) (.cons (.var 1) (.cons (.var 3) (.cons (.var 4) .nil))))))
     .nil))
    (.cons (.app 2 .nil (.tup (.cons (.call 10 (.cons (.var 0) (.cons (.var 1) .nil))) (.cons (.var 5) (.cons (.var 6) (.cons (.var 7) .nil))))))
    .nil))) .nil)
   .nil)
def b9_f0 : S := .for_ (.one 4) (.rng1 (.bi .len (.cons (.sub (.attr (.var 0) 5) (.var 3)) .nil))) b9_l0
def b9_l1 : Ss := (.cons b9_f0
  .nil)
def b9_f1 : S := .for_ (.one 3) (.rng1 (.bi .len (.cons (.var 1) .nil))) b9_l1
def b9 : Ss := (.cons (.asg (.one 2) (.lst .nil))
 (.cons b9_f1
 (.cons (.ret (.var 2))
 .nil)))
/-- number_of -/
def b10_l0 : Ss := (.cons (.asg (.one 2) (.bin .add (.bin .mul (.var 2) (.bi .len (.cons (.sub (.attr (.var 0) 5) (.var 3)) .nil))) (.sub (.var 1) (.var 3))))
  .nil)
def b10_f0 : S := .for_ (.one 3) (.rng1 (.bi .len (.cons (.var 1) .nil))) b10_l0
def b10 : Ss := (.cons (.asg (.one 2) (.lit (.int 0)))
 (.cons b10_f0
 (.cons (.ret (.var 2))
 .nil)))
/-- with_custom -/
def b11_c0 : E := .comp (.ife (.cmp .eq (.var 4) (.var 1)) (.var 2) (.sub (.var 0) (.var 4))) [3, 4] (.one 4) (.rng1 (.bi .len (.cons (.var 0) .nil)))
def b11 : Ss := (.cons (.ret (.bi .tuple (.cons b11_c0 .nil)))
 .nil)
/-- even_step -/
def b12 : Ss := (.cons (.asg (.one 4) (.call 13 (.cons (.var 0) (.cons (.var 1) (.cons (.var 2) .nil)))))
 (.cons (.ife (.cmp .isin (.var 3) (.var 4)) (.cons (.ret (.tup (.cons (.tup (.cons (.lit (.int 1)) (.cons (.bin .mul (.bin .mul (.lit (.int 2)) (.bi .len (.cons (.attr (.var 0) 4) .nil))) (.bi .len (.cons (.var 4) .nil))) .nil))) (.cons (.lit (.int 0)) .nil))))
  .nil) .nil)
 (.cons (.ret (.tup (.cons (.tup (.cons (.lit (.int 1)) (.cons (.bin .mul (.bin .mul (.lit (.int 2)) (.bi .len (.cons (.attr (.var 0) 4) .nil))) (.bi .len (.cons (.sub (.attr (.var 0) 5) (.var 2)) .nil))) .nil))) (.cons (.lit (.int 1)) .nil))))
 .nil)))
/-- best -/
def b13_c0 : E := .compI (.var 6) [5, 6] (.one 6) (.rng1 (.bi .len (.cons (.var 3) .nil))) (.cmp .eq (.sub (.var 3) (.var 6)) (.var 4))
def b13 : Ss := (.cons (.asg (.one 3) (.call 14 (.cons (.var 0) (.cons (.var 1) (.cons (.var 2) .nil)))))
 (.cons (.asg (.one 4) (.bi .max (.cons (.var 3) .nil)))
 (.cons (.ret (.bi .tuple (.cons b13_c0 .nil)))
 .nil)))
/-- worth_row -/
def b14_c0 : E := .comp (.call 15 (.cons (.var 0) (.cons (.call 11 (.cons (.var 1) (.cons (.var 2) (.cons (.var 4) .nil)))) (.cons (.var 2) .nil)))) [3, 4] (.one 4) (.rng1 (.bi .len (.cons (.sub (.attr (.var 0) 5) (.var 2)) .nil)))
def b14 : Ss := (.cons (.ret b14_c0)
 .nil)
/-- worth_of -/
def b15_l0 : Ss := (.cons (.ife (.and (.cmp .eq (.var 4) (.var 2)) (.and (.cmp .eq (.sub (.var 1) (.var 2)) (.var 5)) (.cmp .eq (.sub (.var 1) (.var 6)) (.var 7)))) (.cons (.asg (.one 3) (.bin .add (.var 3) (.var 8)))
   .nil) .nil)
  .nil)
def b15_f0 : S := .for_ (.many [4, 5, 6, 7, 8]) (.seq (.attr (.var 0) 6)) b15_l0
def b15 : Ss := (.cons (.asg (.one 3) (.lit (.int 0)))
 (.cons b15_f0
 (.cons (.ret (.var 3))
 .nil)))
/-- loss_step -/
def b16 : Ss := (.cons (.asg (.one 4) (.call 14 (.cons (.var 0) (.cons (.var 1) (.cons (.var 2) .nil)))))
 (.cons (.ret (.tup (.cons (.tup (.cons (.lit (.int 1)) (.cons (.bin .mul (.bi .len (.cons (.attr (.var 0) 4) .nil)) (.bi .len (.cons (.sub (.attr (.var 0) 5) (.var 2)) .nil))) .nil))) (.cons (.bin .sub (.bi .max (.cons (.var 4) .nil)) (.sub (.var 4) (.var 3))) .nil))))
 .nil))
/-- Machine.__init__ -/
def b17_l0 : Ss := (.cons (.ife (.cmp .gt (.call 28 (.cons (.call 29 (.cons (.attr (.var 0) 1) (.cons (.var 4) (.cons (.var 3) .nil)))) (.cons (.glob 3) .nil))) (.lit (.int 0))) (.cons .never
   .nil) .nil)
  .nil)
def b17_f0 : S := .for_ (.one 4) (.rng1 (.bi .len (.cons (.attr (.var 0) 0) .nil))) b17_l0
def b17 : Ss := (.cons (.setA 0 0 (.call 18 (.cons (.call 20 (.cons (.var 1) .nil)) .nil)))
 (.cons (.setA 0 1 (.call 21 (.cons (.call 20 (.cons (.var 2) .nil)) (.cons (.bi .len (.cons (.attr (.var 0) 0) .nil)) .nil))))
 (.cons (.ife (.or (.not (.call 26 (.cons (.var 3) .nil))) (.cmp .gt (.call 28 (.cons (.var 3) (.cons (.glob 3) .nil))) (.lit (.int 0)))) (.cons .never
  .nil) .nil)
 (.cons (.setA 0 2 (.var 3))
 (.cons b17_f0
 (.cons (.expr (.call 35 (.cons (.attr (.var 0) 1) (.cons (.bi .len (.cons (.attr (.var 0) 0) .nil)) .nil))))
 (.cons (.setA 0 3 (.call 37 (.cons (.attr (.var 0) 1) (.cons (.bi .len (.cons (.attr (.var 0) 0) .nil)) .nil))))
 .nil)))))))
/-- checked_names -/
def b18_l0 : Ss := (.cons (.ife (.or (.not (.call 19 (.cons (.sub (.var 0) (.var 1)) .nil))) (.cmp .isin (.sub (.var 0) (.var 1)) (.slH (.var 0) (.var 1)))) (.cons .never
   .nil) .nil)
  .nil)
def b18_f0 : S := .for_ (.one 1) (.rng1 (.bi .len (.cons (.var 0) .nil))) b18_l0
def b18 : Ss := (.cons (.ife (.cmp .eq (.bi .len (.cons (.var 0) .nil)) (.lit (.int 0))) (.cons .never
  .nil) .nil)
 (.cons b18_f0
 (.cons (.ret (.var 0))
 .nil)))
/-- is_name -/
def b19_l0 : Ss := (.cons (.ife (.and (.cmp .notin (.var 1) (.glob 0)) (.and (.cmp .notin (.var 1) (.glob 1)) (.cmp .ne (.var 1) (.lit (.str "-"))))) (.cons (.ret (.lit (.bl false)))
   .nil) .nil)
  .nil)
def b19_f0 : S := .for_ (.one 1) (.seq (.var 0)) b19_l0
def b19 : Ss := (.cons (.ife (.or (.not (.isi (.var 0) [.str])) (.or (.not (.chain .le .le (.lit (.int 1)) (.bi .len (.cons (.var 0) .nil)) (.lit (.int 12)))) (.cmp .notin (.sub (.var 0) (.lit (.int 0))) (.glob 0)))) (.cons (.ret (.lit (.bl false)))
  .nil) .nil)
 (.cons b19_f0
 (.cons (.ret (.lit (.bl true)))
 .nil)))
/-- frozen -/
def b20_c0 : E := .comp (.call 20 (.cons (.var 2) .nil)) [1, 2] (.one 2) (.seq (.var 0))
def b20 : Ss := (.cons (.ife (.isi (.var 0) [.list, .tuple]) (.cons (.ret (.bi .tuple (.cons b20_c0 .nil)))
  .nil) .nil)
 (.cons (.ret (.var 0))
 .nil))
/-- checked_steps -/
def b21_l0 : Ss := (.cons (.ife (.not (.call 22 (.cons (.sub (.var 0) (.var 2)) (.cons (.var 1) .nil)))) (.cons .never
   .nil) .nil)
  .nil)
def b21_f0 : S := .for_ (.one 2) (.rng1 (.bi .len (.cons (.var 0) .nil))) b21_l0
def b21 : Ss := (.cons b21_f0
 (.cons (.ret (.var 0))
 .nil))
/-- is_step -/
def b22 : Ss := (.cons (.ife (.or (.not (.call 23 (.cons (.var 0) (.cons (.lit (.int 4)) .nil)))) (.or (.not (.call 24 (.cons (.sub (.var 0) (.lit (.int 0))) (.cons (.var 1) .nil)))) (.or (.not (.call 24 (.cons (.sub (.var 0) (.lit (.int 1))) (.cons (.var 1) .nil)))) (.cmp .eq (.sub (.var 0) (.lit (.int 0))) (.sub (.var 0) (.lit (.int 1))))))) (.cons (.ret (.lit (.bl false)))
  .nil) .nil)
 (.cons (.ret (.and (.call 26 (.cons (.sub (.var 0) (.lit (.int 2))) .nil)) (.and (.call 25 (.cons (.sub (.var 0) (.lit (.int 3))) .nil)) (.chain .le .le (.lit (.int 0)) (.sub (.var 0) (.lit (.int 3))) (.glob 2)))))
 .nil))
/-- is_row -/
def b23 : Ss := (.cons (.ret (.and (.isi (.var 0) [.list, .tuple]) (.cmp .eq (.bi .len (.cons (.var 0) .nil)) (.var 1))))
 .nil)
/-- is_state -/
def b24 : Ss := (.cons (.ret (.and (.call 25 (.cons (.var 0) .nil)) (.chain .le .lt (.lit (.int 0)) (.var 0) (.var 1))))
 .nil)
/-- is_whole -/
def b25 : Ss := (.cons (.ret (.and (.isi (.var 0) [.int]) (.not (.isi (.var 0) [.bool]))))
 .nil)
/-- is_positive -/
def b26 : Ss := (.cons (.ret (.and (.call 27 (.cons (.var 0) .nil)) (.cmp .gt (.sub (.var 0) (.lit (.int 0))) (.lit (.int 0)))))
 .nil)
/-- is_ratio -/
def b27 : Ss := (.cons (.ife (.or (.not (.isi (.var 0) [.tuple])) (.cmp .ne (.bi .len (.cons (.var 0) .nil)) (.lit (.int 2)))) (.cons (.ret (.lit (.bl false)))
  .nil) .nil)
 (.cons (.ife (.or (.not (.call 25 (.cons (.sub (.var 0) (.lit (.int 0))) .nil))) (.or (.not (.call 25 (.cons (.sub (.var 0) (.lit (.int 1))) .nil))) (.cmp .lt (.sub (.var 0) (.lit (.int 1))) (.lit (.int 1))))) (.cons (.ret (.lit (.bl false)))
  .nil) .nil)
 (.cons (.ret (.cmp .eq (.bi .gcd (.cons (.sub (.var 0) (.lit (.int 0))) (.cons (.sub (.var 0) (.lit (.int 1))) .nil))) (.lit (.int 1))))
 .nil)))
/-- compare -/
def b28 : Ss := (.cons (.asg (.one 2) (.bin .mul (.sub (.var 0) (.lit (.int 0))) (.sub (.var 1) (.lit (.int 1)))))
 (.cons (.asg (.one 3) (.bin .mul (.sub (.var 1) (.lit (.int 0))) (.sub (.var 0) (.lit (.int 1)))))
 (.cons (.ife (.cmp .lt (.var 2) (.var 3)) (.cons (.ret (.neg (.lit (.int 1))))
  .nil) .nil)
 (.cons (.ife (.cmp .gt (.var 2) (.var 3)) (.cons (.ret (.lit (.int 1)))
  .nil) .nil)
 (.cons (.ret (.lit (.int 0)))
 .nil)))))
/-- chance_out -/
def b29_l0 : Ss := (.cons (.ife (.cmp .eq (.sub (.var 4) (.lit (.int 0))) (.var 1)) (.cons (.asg (.one 3) (.call 30 (.cons (.var 3) (.cons (.call 32 (.cons (.var 4) (.cons (.var 2) .nil))) .nil))))
   .nil) .nil)
  .nil)
def b29_f0 : S := .for_ (.one 4) (.seq (.var 0)) b29_l0
def b29 : Ss := (.cons (.asg (.one 3) (.glob 4))
 (.cons b29_f0
 (.cons (.ret (.var 3))
 .nil)))
/-- plus -/
def b30 : Ss := (.cons (.ret (.call 31 (.cons (.bin .add (.bin .mul (.sub (.var 0) (.lit (.int 0))) (.sub (.var 1) (.lit (.int 1)))) (.bin .mul (.sub (.var 1) (.lit (.int 0))) (.sub (.var 0) (.lit (.int 1))))) (.cons (.bin .mul (.sub (.var 0) (.lit (.int 1))) (.sub (.var 1) (.lit (.int 1)))) .nil))))
 .nil)
/-- lowest -/
def b31 : Ss := (.cons (.asg (.one 2) (.bi .gcd (.cons (.var 0) (.cons (.var 1) .nil))))
 (.cons (.ife (.cmp .lt (.var 1) (.lit (.int 0))) (.cons (.asg (.one 2) (.neg (.var 2)))
  .nil) .nil)
 (.cons (.ret (.tup (.cons (.bin .fdiv (.var 0) (.var 2)) (.cons (.bin .fdiv (.var 1) (.var 2)) .nil))))
 .nil)))
/-- step_chance -/
def b32 : Ss := (.cons (.ret (.call 33 (.cons (.sub (.var 0) (.lit (.int 2))) (.cons (.call 34 (.cons (.var 1) (.cons (.sub (.var 0) (.lit (.int 3))) .nil))) .nil))))
 .nil)
/-- times -/
def b33 : Ss := (.cons (.ret (.call 31 (.cons (.bin .mul (.sub (.var 0) (.lit (.int 0))) (.sub (.var 1) (.lit (.int 0)))) (.cons (.bin .mul (.sub (.var 0) (.lit (.int 1))) (.sub (.var 1) (.lit (.int 1)))) .nil))))
 .nil)
/-- raised -/
def b34_l0 : Ss := (.cons (.asg (.one 2) (.bin .mul (.var 2) (.sub (.var 0) (.lit (.int 0)))))
  (.cons (.asg (.one 3) (.bin .mul (.var 3) (.sub (.var 0) (.lit (.int 1)))))
  .nil))
def b34_f0 : S := .for_ (.one 4) (.rng1 (.var 1)) b34_l0
def b34 : Ss := (.cons (.ife (.cmp .lt (.var 1) (.lit (.int 0))) (.cons (.ife (.cmp .eq (.sub (.var 0) (.lit (.int 0))) (.lit (.int 0))) (.cons .never
   .nil) .nil)
  (.cons (.ret (.call 34 (.cons (.call 31 (.cons (.sub (.var 0) (.lit (.int 1))) (.cons (.sub (.var 0) (.lit (.int 0))) .nil))) (.cons (.neg (.var 1)) .nil))))
  .nil)) .nil)
 (.cons (.asg (.one 2) (.lit (.int 1)))
 (.cons (.asg (.one 3) (.lit (.int 1)))
 (.cons b34_f0
 (.cons (.ret (.tup (.cons (.var 2) (.cons (.var 3) .nil))))
 .nil)))))
/-- check_ways -/
def b35_l0 : Ss := (.cons (.ife (.not (.sub (.var 3) (.var 4))) (.cons .never
    .nil) .nil)
   .nil)
def b35_f0 : S := .for_ (.one 4) (.rng1 (.var 1)) b35_l0
def b35_l1 : Ss := (.cons (.asg (.one 3) (.call 36 (.cons (.var 0) (.cons (.var 1) (.cons (.var 2) .nil)))))
  (.cons b35_f0
  .nil))
def b35_f1 : S := .for_ (.one 2) (.rng1 (.var 1)) b35_l1
def b35 : Ss := (.cons b35_f1
 .nil)
/-- reached_from -/
def b36_c0 : E := .comp (.cmp .eq (.var 7) (.var 2)) [6, 7] (.one 7) (.rng1 (.var 1))
def b36_l0 : Ss := (.cons (.ife (.sub (.var 3) (.sub (.var 5) (.lit (.int 0)))) (.cons (.setI 3 (.cons (.sub (.var 5) (.lit (.int 1))) .nil) (.lit (.bl true)))
    .nil) .nil)
   .nil)
def b36_f0 : S := .for_ (.one 5) (.seq (.var 0)) b36_l0
def b36_l1 : Ss := (.cons b36_f0
  .nil)
def b36_f1 : S := .for_ (.one 4) (.rng1 (.var 1)) b36_l1
def b36 : Ss := (.cons (.asg (.one 3) b36_c0)
 (.cons b36_f1
 (.cons (.ret (.var 3))
 .nil)))
/-- leaving_rows -/
def b37_c0 : E := .compI (.var 4) [2, 4] (.one 4) (.rng1 (.bi .len (.cons (.var 0) .nil))) (.cmp .eq (.sub (.sub (.var 0) (.var 4)) (.lit (.int 0))) (.var 3))
def b37_c1 : E := .comp (.bi .tuple (.cons b37_c0 .nil)) [2, 3] (.one 3) (.rng1 (.var 1))
def b37 : Ss := (.cons (.ret (.bi .tuple (.cons b37_c1 .nil)))
 .nil)
/-- Town.__init__ -/
def b38 : Ss := (.cons (.setA 0 4 (.call 39 (.cons (.call 20 (.cons (.var 1) .nil)) .nil)))
 (.cons (.setA 0 5 (.call 40 (.cons (.call 20 (.cons (.var 2) .nil)) (.cons (.bi .len (.cons (.attr (.var 0) 4) .nil)) .nil))))
 (.cons (.asg (.one 5) (.call 8 (.cons (.attr (.var 0) 5) .nil)))
 (.cons (.ife (.cmp .gt (.var 5) (.glob 6)) (.cons .never
  .nil) .nil)
 (.cons (.setA 0 6 (.call 42 (.cons (.call 20 (.cons (.var 3) .nil)) (.cons (.attr (.var 0) 5) .nil))))
 (.cons (.ife (.cmp .notin (.var 4) (.tup (.cons (.lit (.str "even")) (.cons (.lit (.str "loss")) .nil)))) (.cons .never
  .nil) .nil)
 (.cons (.setA 0 7 (.var 4))
 .nil)))))))
/-- checked_people -/
def b39_l0 : Ss := (.cons (.ife (.or (.not (.call 19 (.cons (.sub (.var 0) (.var 1)) .nil))) (.cmp .isin (.sub (.var 0) (.var 1)) (.slH (.var 0) (.var 1)))) (.cons .never
   .nil) .nil)
  .nil)
def b39_f0 : S := .for_ (.one 1) (.rng1 (.bi .len (.cons (.var 0) .nil))) b39_l0
def b39 : Ss := (.cons (.ife (.cmp .eq (.bi .len (.cons (.var 0) .nil)) (.lit (.int 0))) (.cons .never
  .nil) .nil)
 (.cons b39_f0
 (.cons (.ret (.var 0))
 .nil)))
/-- checked_customs -/
def b40_l0 : Ss := (.cons (.ife (.or (.cmp .ge (.var 2) (.var 1)) (.or (.cmp .ge (.var 2) (.bi .len (.cons (.var 0) .nil))) (.not (.call 41 (.cons (.sub (.var 0) (.var 2)) .nil))))) (.cons .never
   .nil) .nil)
  .nil)
def b40_f0 : S := .for_ (.one 2) (.rng1 (.bi .max (.cons (.bi .len (.cons (.var 0) .nil)) (.cons (.var 1) .nil)))) b40_l0
def b40 : Ss := (.cons b40_f0
 (.cons (.ret (.var 0))
 .nil))
/-- are_customs -/
def b41_l0 : Ss := (.cons (.ife (.or (.not (.call 19 (.cons (.sub (.var 0) (.var 1)) .nil))) (.cmp .isin (.sub (.var 0) (.var 1)) (.slH (.var 0) (.var 1)))) (.cons (.ret (.lit (.bl false)))
   .nil) .nil)
  .nil)
def b41_f0 : S := .for_ (.one 1) (.rng1 (.bi .len (.cons (.var 0) .nil))) b41_l0
def b41 : Ss := (.cons (.ife (.or (.not (.isi (.var 0) [.tuple])) (.not (.chain .le .le (.lit (.int 1)) (.bi .len (.cons (.var 0) .nil)) (.glob 5)))) (.cons (.ret (.lit (.bl false)))
  .nil) .nil)
 (.cons b41_f0
 (.cons (.ret (.lit (.bl true)))
 .nil)))
/-- checked_worths -/
def b42_l0 : Ss := (.cons (.ife (.or (.not (.call 43 (.cons (.sub (.var 0) (.var 3)) (.cons (.var 1) .nil)))) (.cmp .isin (.slH (.sub (.var 0) (.var 3)) (.lit (.int 4))) (.var 2))) (.cons .never
   .nil) .nil)
  (.cons (.app 2 .nil (.slH (.sub (.var 0) (.var 3)) (.lit (.int 4))))
  .nil))
def b42_f0 : S := .for_ (.one 3) (.rng1 (.bi .len (.cons (.var 0) .nil))) b42_l0
def b42 : Ss := (.cons (.asg (.one 2) (.lst .nil))
 (.cons b42_f0
 (.cons (.ret (.var 0))
 .nil)))
/-- is_worth -/
def b43 : Ss := (.cons (.ife (.or (.not (.call 23 (.cons (.var 0) (.cons (.lit (.int 5)) .nil)))) (.or (.not (.call 24 (.cons (.sub (.var 0) (.lit (.int 0))) (.cons (.bi .len (.cons (.var 1) .nil)) .nil)))) (.not (.call 24 (.cons (.sub (.var 0) (.lit (.int 2))) (.cons (.bi .len (.cons (.var 1) .nil)) .nil)))))) (.cons (.ret (.lit (.bl false)))
  .nil) .nil)
 (.cons (.ife (.or (.cmp .eq (.sub (.var 0) (.lit (.int 0))) (.sub (.var 0) (.lit (.int 2)))) (.not (.call 24 (.cons (.sub (.var 0) (.lit (.int 1))) (.cons (.bi .len (.cons (.sub (.var 1) (.sub (.var 0) (.lit (.int 0)))) .nil)) .nil))))) (.cons (.ret (.lit (.bl false)))
  .nil) .nil)
 (.cons (.ife (.not (.call 24 (.cons (.sub (.var 0) (.lit (.int 3))) (.cons (.bi .len (.cons (.sub (.var 1) (.sub (.var 0) (.lit (.int 2)))) .nil)) .nil)))) (.cons (.ret (.lit (.bl false)))
  .nil) .nil)
 (.cons (.ret (.and (.call 25 (.cons (.sub (.var 0) (.lit (.int 4))) .nil)) (.chain .le .le (.neg (.glob 7)) (.sub (.var 0) (.lit (.int 4))) (.glob 7))))
 .nil))))
/-- _law_town_steps -/
def b44_c0 : E := .compI (.var 12) [11, 12] (.one 12) (.seq (.var 5)) (.cmp .eq (.var 12) (.var 6))
def b44_l0 : Ss := (.cons (.ife (.cmp .ne (.var 8) (.sub (.var 3) (.var 4))) (.cons (.asg (.one 9) (.bm .index (.var 1) (.cons (.call 48 (.cons (.var 3) (.cons (.var 4) (.cons (.var 8) .nil)))) .nil)))
     (.cons (.asg (.one 10) (.tup (.cons (.bm .index (.var 1) (.cons (.var 3) .nil)) (.cons (.var 9) (.cons (.tup (.cons (.lit (.int 1)) (.cons (.bin .mul (.bi .len (.cons (.var 3) .nil)) (.bi .len (.cons (.var 5) .nil))) .nil))) (.cons (.bin .sub (.var 6) (.sub (.var 5) (.var 8))) .nil))))))
     (.cons (.ife (.cmp .eq (.sub (.var 0) (.lit (.int 2))) (.lit (.str "even"))) (.cons (.asg (.one 10) (.tup (.cons (.bm .index (.var 1) (.cons (.var 3) .nil)) (.cons (.var 9) (.cons (.tup (.cons (.lit (.int 1)) (.cons (.bin .mul (.bin .mul (.lit (.int 2)) (.bi .len (.cons (.var 3) .nil))) (.bi .len (.cons (.var 5) .nil))) .nil))) (.cons (.lit (.int 1)) .nil))))))
      (.cons (.ife (.cmp .eq (.sub (.var 5) (.var 8)) (.var 6)) (.cons (.asg (.one 10) (.tup (.cons (.bm .index (.var 1) (.cons (.var 3) .nil)) (.cons (.var 9) (.cons (.tup (.cons (.lit (.int 1)) (.cons (.bin .mul (.bin .mul (.lit (.int 2)) (.bi .len (.cons (.var 3) .nil))) (.var 7)) .nil))) (.cons (.lit (.int 0)) .nil))))))
       .nil) .nil)
      .nil)) .nil)
     (.cons (.app 2 .nil (.var 10))
     .nil)))) .nil)
    .nil)
def b44_f0 : S := .for_ (.one 8) (.rng1 (.bi .len (.cons (.var 5) .nil))) b44_l0
def b44_l1 : Ss := (.cons (.asg (.one 5) (.call 46 (.cons (.var 0) (.cons (.var 3) (.cons (.var 4) .nil)))))
   (.cons (.asg (.one 6) (.bi .max (.cons (.var 5) .nil)))
   (.cons (.asg (.one 7) (.bi .len (.cons b44_c0 .nil)))
   (.cons b44_f0
   .nil))))
def b44_f1 : S := .for_ (.one 4) (.rng1 (.bi .len (.cons (.var 3) .nil))) b44_l1
def b44_l2 : Ss := (.cons b44_f1
  .nil)
def b44_f2 : S := .for_ (.one 3) (.seq (.var 1)) b44_l2
def b44 : Ss := (.cons (.asg (.one 1) (.call 45 (.cons (.var 0) .nil)))
 (.cons (.asg (.one 2) (.lst .nil))
 (.cons b44_f2
 (.cons (.ret (.var 2))
 .nil))))
/-- _law_rows -/
def b45_l0 : Ss := (.cons (.app 3 .nil (.bin .add (.var 4) (.tup (.cons (.var 5) .nil))))
    .nil)
def b45_f0 : S := .for_ (.one 5) (.rng1 (.bi .len (.cons (.var 2) .nil))) b45_l0
def b45_l1 : Ss := (.cons b45_f0
   .nil)
def b45_f1 : S := .for_ (.one 4) (.seq (.var 1)) b45_l1
def b45_l2 : Ss := (.cons (.asg (.one 3) (.lst .nil))
  (.cons b45_f1
  (.cons (.asg (.one 1) (.bi .list (.cons (.var 3) .nil)))
  .nil)))
def b45_f2 : S := .for_ (.one 2) (.seq (.sub (.var 0) (.lit (.int 0)))) b45_l2
def b45 : Ss := (.cons (.asg (.one 1) (.lst (.cons (.tup .nil) .nil)))
 (.cons b45_f2
 (.cons (.ret (.var 1))
 .nil)))
/-- _law_worths -/
def b46_c0 : E := .comp (.call 47 (.cons (.var 0) (.cons (.call 48 (.cons (.var 1) (.cons (.var 2) (.cons (.var 4) .nil)))) (.cons (.var 2) .nil)))) [3, 4] (.one 4) (.rng1 (.bi .len (.cons (.sub (.sub (.var 0) (.lit (.int 0))) (.var 2)) .nil)))
def b46 : Ss := (.cons (.ret b46_c0)
 .nil)
/-- _law_worth -/
def b47_l0 : Ss := (.cons (.ife (.and (.cmp .eq (.sub (.var 4) (.lit (.int 0))) (.var 2)) (.and (.cmp .eq (.sub (.var 1) (.var 2)) (.sub (.var 4) (.lit (.int 1)))) (.cmp .eq (.sub (.var 1) (.sub (.var 4) (.lit (.int 2)))) (.sub (.var 4) (.lit (.int 3)))))) (.cons (.asg (.one 3) (.bin .add (.var 3) (.sub (.var 4) (.lit (.int 4)))))
   .nil) .nil)
  .nil)
def b47_f0 : S := .for_ (.one 4) (.seq (.sub (.var 0) (.lit (.int 1)))) b47_l0
def b47 : Ss := (.cons (.asg (.one 3) (.lit (.int 0)))
 (.cons b47_f0
 (.cons (.ret (.var 3))
 .nil)))
/-- _law_with -/
def b48 : Ss := (.cons (.ret (.bin .add (.bin .add (.slH (.var 0) (.var 1)) (.tup (.cons (.var 2) .nil))) (.slL (.var 0) (.bin .add (.var 1) (.lit (.int 1))))))
 .nil)
/-- _law_is_ratio -/
def b49 : Ss := (.cons (.ife (.or (.not (.isi (.var 0) [.tuple])) (.cmp .ne (.bi .len (.cons (.var 0) .nil)) (.lit (.int 2)))) (.cons (.ret (.lit (.bl false)))
  .nil) .nil)
 (.cons (.ife (.or (.not (.call 50 (.cons (.sub (.var 0) (.lit (.int 0))) .nil))) (.not (.call 50 (.cons (.sub (.var 0) (.lit (.int 1))) .nil)))) (.cons (.ret (.lit (.bl false)))
  .nil) .nil)
 (.cons (.ret (.and (.cmp .eq (.sub (.var 0) (.lit (.int 0))) (.sub (.var 1) (.lit (.int 0)))) (.cmp .eq (.sub (.var 0) (.lit (.int 1))) (.sub (.var 1) (.lit (.int 1))))))
 .nil)))
/-- _law_whole -/
def b50 : Ss := (.cons (.ret (.and (.isi (.var 0) [.int]) (.not (.isi (.var 0) [.bool]))))
 .nil)
def F0 : Fn := ⟨1, 9, [], b0⟩
def F1 : Fn := ⟨3, 20, [], b1⟩
def F2 : Fn := ⟨2, 8, [], b2⟩
def F3 : Fn := ⟨2, 4, [], b3⟩
def F4 : Fn := ⟨1, 1, [], b4⟩
def F5 : Fn := ⟨1, 6, [], b5⟩
def F6 : Fn := ⟨1, 3, [], b6⟩
def F7 : Fn := ⟨2, 5, [], b7⟩
def F8 : Fn := ⟨1, 3, [], b8⟩
def F9 : Fn := ⟨2, 8, [], b9⟩
def F10 : Fn := ⟨2, 4, [], b10⟩
def F11 : Fn := ⟨3, 5, [], b11⟩
def F12 : Fn := ⟨4, 5, [], b12⟩
def F13 : Fn := ⟨3, 7, [], b13⟩
def F14 : Fn := ⟨3, 5, [], b14⟩
def F15 : Fn := ⟨3, 9, [], b15⟩
def F16 : Fn := ⟨4, 5, [], b16⟩
def F17 : Fn := ⟨4, 5, [(.tup [(.int 1), (.int 1)])], b17⟩
def F18 : Fn := ⟨1, 2, [], b18⟩
def F19 : Fn := ⟨1, 2, [], b19⟩
def F20 : Fn := ⟨1, 3, [], b20⟩
def F21 : Fn := ⟨2, 3, [], b21⟩
def F22 : Fn := ⟨2, 2, [], b22⟩
def F23 : Fn := ⟨2, 2, [], b23⟩
def F24 : Fn := ⟨2, 2, [], b24⟩
def F25 : Fn := ⟨1, 1, [], b25⟩
def F26 : Fn := ⟨1, 1, [], b26⟩
def F27 : Fn := ⟨1, 1, [], b27⟩
def F28 : Fn := ⟨2, 4, [], b28⟩
def F29 : Fn := ⟨3, 5, [], b29⟩
def F30 : Fn := ⟨2, 2, [], b30⟩
def F31 : Fn := ⟨2, 3, [], b31⟩
def F32 : Fn := ⟨2, 2, [], b32⟩
def F33 : Fn := ⟨2, 2, [], b33⟩
def F34 : Fn := ⟨2, 5, [], b34⟩
def F35 : Fn := ⟨2, 5, [], b35⟩
def F36 : Fn := ⟨3, 8, [], b36⟩
def F37 : Fn := ⟨2, 5, [], b37⟩
def F38 : Fn := ⟨5, 6, [(.str "even")], b38⟩
def F39 : Fn := ⟨1, 2, [], b39⟩
def F40 : Fn := ⟨2, 3, [], b40⟩
def F41 : Fn := ⟨1, 2, [], b41⟩
def F42 : Fn := ⟨2, 4, [], b42⟩
def F43 : Fn := ⟨2, 2, [], b43⟩
def F44 : Fn := ⟨1, 13, [], b44⟩
def F45 : Fn := ⟨1, 6, [], b45⟩
def F46 : Fn := ⟨3, 5, [], b46⟩
def F47 : Fn := ⟨3, 5, [], b47⟩
def F48 : Fn := ⟨3, 3, [], b48⟩
def F49 : Fn := ⟨2, 2, [], b49⟩
def F50 : Fn := ⟨1, 1, [], b50⟩
def fnT : List Fn := F0 :: F1 :: F2 :: F3 :: F4 :: F5 :: F6 :: F7 :: F8 :: F9 :: F10 :: F11 :: F12 :: F13 :: F14 :: F15 :: F16 :: F17 :: F18 :: F19 :: F20 :: F21 :: F22 :: F23 :: F24 :: F25 :: F26 :: F27 :: F28 :: F29 :: F30 :: F31 :: F32 :: F33 :: F34 :: F35 :: F36 :: F37 :: F38 :: F39 :: F40 :: F41 :: F42 :: F43 :: F44 :: F45 :: F46 :: F47 :: F48 :: F49 :: F50 :: []
def C0 : Cl := { init := some 17, exf := none, meths := [], flds := [0, 1, 2, 3], up := [] }
def C1 : Cl := { init := some 38, exf := none, meths := [], flds := [4, 5, 6, 7], up := [] }
def T : Tab := ⟨fnT, [C0, C1], [(.str "abcdefghijklmnopqrstuvwxyz"), (.str "0123456789"), (.int 60), (.tup [(.int 1), (.int 1)]), (.tup [(.int 0), (.int 1)]), (.int 4), (.int 16), (.int 10)]⟩
theorem hF0 : T.fns[0]? = some F0 := rfl
theorem hF1 : T.fns[1]? = some F1 := rfl
theorem hF2 : T.fns[2]? = some F2 := rfl
theorem hF3 : T.fns[3]? = some F3 := rfl
theorem hF4 : T.fns[4]? = some F4 := rfl
theorem hF5 : T.fns[5]? = some F5 := rfl
theorem hF6 : T.fns[6]? = some F6 := rfl
theorem hF7 : T.fns[7]? = some F7 := rfl
theorem hF8 : T.fns[8]? = some F8 := rfl
theorem hF9 : T.fns[9]? = some F9 := rfl
theorem hF10 : T.fns[10]? = some F10 := rfl
theorem hF11 : T.fns[11]? = some F11 := rfl
theorem hF12 : T.fns[12]? = some F12 := rfl
theorem hF13 : T.fns[13]? = some F13 := rfl
theorem hF14 : T.fns[14]? = some F14 := rfl
theorem hF15 : T.fns[15]? = some F15 := rfl
theorem hF16 : T.fns[16]? = some F16 := rfl
theorem hF17 : T.fns[17]? = some F17 := rfl
theorem hF18 : T.fns[18]? = some F18 := rfl
theorem hF19 : T.fns[19]? = some F19 := rfl
theorem hF20 : T.fns[20]? = some F20 := rfl
theorem hF21 : T.fns[21]? = some F21 := rfl
theorem hF22 : T.fns[22]? = some F22 := rfl
theorem hF23 : T.fns[23]? = some F23 := rfl
theorem hF24 : T.fns[24]? = some F24 := rfl
theorem hF25 : T.fns[25]? = some F25 := rfl
theorem hF26 : T.fns[26]? = some F26 := rfl
theorem hF27 : T.fns[27]? = some F27 := rfl
theorem hF28 : T.fns[28]? = some F28 := rfl
theorem hF29 : T.fns[29]? = some F29 := rfl
theorem hF30 : T.fns[30]? = some F30 := rfl
theorem hF31 : T.fns[31]? = some F31 := rfl
theorem hF32 : T.fns[32]? = some F32 := rfl
theorem hF33 : T.fns[33]? = some F33 := rfl
theorem hF34 : T.fns[34]? = some F34 := rfl
theorem hF35 : T.fns[35]? = some F35 := rfl
theorem hF36 : T.fns[36]? = some F36 := rfl
theorem hF37 : T.fns[37]? = some F37 := rfl
theorem hF38 : T.fns[38]? = some F38 := rfl
theorem hF39 : T.fns[39]? = some F39 := rfl
theorem hF40 : T.fns[40]? = some F40 := rfl
theorem hF41 : T.fns[41]? = some F41 := rfl
theorem hF42 : T.fns[42]? = some F42 := rfl
theorem hF43 : T.fns[43]? = some F43 := rfl
theorem hF44 : T.fns[44]? = some F44 := rfl
theorem hF45 : T.fns[45]? = some F45 := rfl
theorem hF46 : T.fns[46]? = some F46 := rfl
theorem hF47 : T.fns[47]? = some F47 := rfl
theorem hF48 : T.fns[48]? = some F48 := rfl
theorem hF49 : T.fns[49]? = some F49 := rfl
theorem hF50 : T.fns[50]? = some F50 := rfl
end LW
namespace LX
open PySem PySem.Spec PyProof.Rows L2 PV LW
def top (i : Nat) : Stmt := PySem.Challenge.pw_rareslips_k83_town_machines.main.body.getD i (.Pass ⟨0, 0, 0, 0⟩)
def G : List (Str × Gk) := (("law" : PySem.Str), Gk.fn 0) ::
  (("_law_town" : PySem.Str), Gk.fn 1) ::
  (("_law_digits" : PySem.Str), Gk.fn 2) ::
  (("int" : PySem.Str), Gk.blt) ::
  (("range" : PySem.Str), Gk.blt) ::
  (("len" : PySem.Str), Gk.blt) ::
  (("_law_cell" : PySem.Str), Gk.fn 3) ::
  (("_law_people" : PySem.Str), Gk.fn 4) ::
  (("town_machine" : PySem.Str), Gk.fn 5) ::
  (("every_row" : PySem.Str), Gk.fn 6) ::
  (("row_of" : PySem.Str), Gk.fn 7) ::
  (("reversed" : PySem.Str), Gk.blt) ::
  (("tuple" : PySem.Str), Gk.blt) ::
  (("row_count" : PySem.Str), Gk.fn 8) ::
  (("town_steps" : PySem.Str), Gk.fn 9) ::
  (("number_of" : PySem.Str), Gk.fn 10) ::
  (("with_custom" : PySem.Str), Gk.fn 11) ::
  (("even_step" : PySem.Str), Gk.fn 12) ::
  (("best" : PySem.Str), Gk.fn 13) ::
  (("worth_row" : PySem.Str), Gk.fn 14) ::
  (("worth_of" : PySem.Str), Gk.fn 15) ::
  (("max" : PySem.Str), Gk.blt) ::
  (("loss_step" : PySem.Str), Gk.fn 16) ::
  (("Machine" : PySem.Str), Gk.cls 0 true []) ::
  (("checked_names" : PySem.Str), Gk.fn 18) ::
  (("is_name" : PySem.Str), Gk.fn 19) ::
  (("isinstance" : PySem.Str), Gk.blt) ::
  (("str" : PySem.Str), Gk.blt) ::
  (("LETTERS" : PySem.Str), Gk.glo 0) ::
  (("DIGITS" : PySem.Str), Gk.glo 1) ::
  (("frozen" : PySem.Str), Gk.fn 20) ::
  (("list" : PySem.Str), Gk.blt) ::
  (("checked_steps" : PySem.Str), Gk.fn 21) ::
  (("is_step" : PySem.Str), Gk.fn 22) ::
  (("is_row" : PySem.Str), Gk.fn 23) ::
  (("is_state" : PySem.Str), Gk.fn 24) ::
  (("is_whole" : PySem.Str), Gk.fn 25) ::
  (("bool" : PySem.Str), Gk.blt) ::
  (("is_positive" : PySem.Str), Gk.fn 26) ::
  (("is_ratio" : PySem.Str), Gk.fn 27) ::
  (("gcd" : PySem.Str), Gk.gcd) ::
  (("MOST_COST" : PySem.Str), Gk.glo 2) ::
  (("compare" : PySem.Str), Gk.fn 28) ::
  (("ONE" : PySem.Str), Gk.glo 3) ::
  (("chance_out" : PySem.Str), Gk.fn 29) ::
  (("ZERO" : PySem.Str), Gk.glo 4) ::
  (("plus" : PySem.Str), Gk.fn 30) ::
  (("lowest" : PySem.Str), Gk.fn 31) ::
  (("step_chance" : PySem.Str), Gk.fn 32) ::
  (("times" : PySem.Str), Gk.fn 33) ::
  (("raised" : PySem.Str), Gk.fn 34) ::
  (("check_ways" : PySem.Str), Gk.fn 35) ::
  (("reached_from" : PySem.Str), Gk.fn 36) ::
  (("leaving_rows" : PySem.Str), Gk.fn 37) ::
  (("Town" : PySem.Str), Gk.cls 1 false [(3, ["slips"])]) ::
  (("checked_people" : PySem.Str), Gk.fn 39) ::
  (("checked_customs" : PySem.Str), Gk.fn 40) ::
  (("are_customs" : PySem.Str), Gk.fn 41) ::
  (("MOST_CUSTOMS" : PySem.Str), Gk.glo 5) ::
  (("MOST_ROWS" : PySem.Str), Gk.glo 6) ::
  (("checked_worths" : PySem.Str), Gk.fn 42) ::
  (("is_worth" : PySem.Str), Gk.fn 43) ::
  (("MOST_WORTH" : PySem.Str), Gk.glo 7) ::
  (("_law_town_steps" : PySem.Str), Gk.fn 44) ::
  (("_law_rows" : PySem.Str), Gk.fn 45) ::
  (("_law_worths" : PySem.Str), Gk.fn 46) ::
  (("_law_worth" : PySem.Str), Gk.fn 47) ::
  (("_law_with" : PySem.Str), Gk.fn 48) ::
  (("_law_is_ratio" : PySem.Str), Gk.fn 49) ::
  (("_law_whole" : PySem.Str), Gk.fn 50) ::
  []
def nm : Nm := ⟨T, G, ["names", "steps", "first", "leaving", "people", "customs", "worths", "slips"]⟩
def rt : Om := []
def cn : List Str := ["Machine", "Town"]
abbrev s0 : Stmt := top 81
def d0 : DI := ⟨⟨("law", none), "law", "law", defArgs s0, defBody s0, defScope s0, [], []⟩, ["script", "drawn", "people", "slips", "one", "machine", "due", "k", ".0"], ["script"]⟩
abbrev s1 : Stmt := top 74
def d1 : DI := ⟨⟨("_law_town", none), "_law_town", "_law_town", defArgs s1, defBody s1, defScope s1, [], []⟩, ["script", "at", "shared", "shape", "counts", "menu", "customs", "row", "other", "worths", "place", "i", "j", "a", "b", "one", "two", ".0", "count", "k"], ["script", "at", "shared"]⟩
abbrev s2 : Stmt := top 72
def d2 : DI := ⟨⟨("_law_digits", none), "_law_digits", "_law_digits", defArgs s2, defBody s2, defScope s2, [], []⟩, ["cell", "sizes", "row", "rest", "size", "seed", "k", "twice"], ["cell", "sizes"]⟩
abbrev s3 : Stmt := top 71
def d3 : DI := ⟨⟨("_law_cell", none), "_law_cell", "_law_cell", defArgs s3, defBody s3, defScope s3, [], []⟩, ["script", "k", "seed", "cell"], ["script", "k"]⟩
abbrev s4 : Stmt := top 75
def d4 : DI := ⟨⟨("_law_people", none), "_law_people", "_law_people", defArgs s4, defBody s4, defScope s4, [], []⟩, ["drawn"], ["drawn"]⟩
abbrev s5 : Stmt := top 68
def d5 : DI := ⟨⟨("town_machine", none), "town_machine", "town_machine", defArgs s5, defBody s5, defScope s5, [], []⟩, ["town", "steps", "rows", "row", ".0", "number"], ["town"]⟩
abbrev s6 : Stmt := top 58
def d6 : DI := ⟨⟨("every_row", none), "every_row", "every_row", defArgs s6, defBody s6, defScope s6, [], []⟩, ["town", ".0", "number"], ["town"]⟩
abbrev s7 : Stmt := top 56
def d7 : DI := ⟨⟨("row_of", none), "row_of", "row_of", defArgs s7, defBody s7, defScope s7, [], []⟩, ["town", "number", "told", "rest", "row"], ["town", "number"]⟩
abbrev s8 : Stmt := top 53
def d8 : DI := ⟨⟨("row_count", none), "row_count", "row_count", defArgs s8, defBody s8, defScope s8, [], []⟩, ["customs", "count", "row"], ["customs"]⟩
abbrev s9 : Stmt := top 67
def d9 : DI := ⟨⟨("town_steps", none), "town_steps", "town_steps", defArgs s9, defBody s9, defScope s9, [], []⟩, ["town", "row", "told", "person", "custom", "goal", "factor", "cost"], ["town", "row"]⟩
abbrev s10 : Stmt := top 57
def d10 : DI := ⟨⟨("number_of", none), "number_of", "number_of", defArgs s10, defBody s10, defScope s10, [], []⟩, ["town", "row", "told", "person"], ["town", "row"]⟩
abbrev s11 : Stmt := top 59
def d11 : DI := ⟨⟨("with_custom", none), "with_custom", "with_custom", defArgs s11, defBody s11, defScope s11, [], []⟩, ["row", "person", "custom", ".0", "index"], ["row", "person", "custom"]⟩
abbrev s12 : Stmt := top 65
def d12 : DI := ⟨⟨("even_step", none), "even_step", "even_step", defArgs s12, defBody s12, defScope s12, [], []⟩, ["town", "row", "person", "custom", "good"], ["town", "row", "person", "custom"]⟩
abbrev s13 : Stmt := top 63
def d13 : DI := ⟨⟨("best", none), "best", "best", defArgs s13, defBody s13, defScope s13, [], []⟩, ["town", "row", "person", "worths", "highest", ".0", "custom"], ["town", "row", "person"]⟩
abbrev s14 : Stmt := top 62
def d14 : DI := ⟨⟨("worth_row", none), "worth_row", "worth_row", defArgs s14, defBody s14, defScope s14, [], []⟩, ["town", "row", "person", ".0", "custom"], ["town", "row", "person"]⟩
abbrev s15 : Stmt := top 61
def d15 : DI := ⟨⟨("worth_of", none), "worth_of", "worth_of", defArgs s15, defBody s15, defScope s15, [], []⟩, ["town", "row", "person", "told", "one", "custom", "other", "held", "worth"], ["town", "row", "person"]⟩
abbrev s16 : Stmt := top 66
def d16 : DI := ⟨⟨("loss_step", none), "loss_step", "loss_step", defArgs s16, defBody s16, defScope s16, [], []⟩, ["town", "row", "person", "custom", "worths"], ["town", "row", "person", "custom"]⟩
abbrev s17 : Stmt := mth (top 35) 0
def d17 : DI := ⟨⟨("Machine", some ("__init__" : PySem.Str)), "__init__", "Machine.__init__", defArgs s17, defBody s17, defScope s17, [], [("first", (.adr (kwAt ("Machine", some ("__init__" : PySem.Str)) "first")))]⟩, ["self", "names", "steps", "first", "state"], ["self", "names", "steps", "first"]⟩
abbrev s18 : Stmt := top 36
def d18 : DI := ⟨⟨("checked_names", none), "checked_names", "checked_names", defArgs s18, defBody s18, defScope s18, [], []⟩, ["names", "index"], ["names"]⟩
abbrev s19 : Stmt := top 21
def d19 : DI := ⟨⟨("is_name", none), "is_name", "is_name", defArgs s19, defBody s19, defScope s19, [], []⟩, ["value", "char"], ["value"]⟩
abbrev s20 : Stmt := top 20
def d20 : DI := ⟨⟨("frozen", none), "frozen", "frozen", defArgs s20, defBody s20, defScope s20, [], []⟩, ["value", ".0", "item"], ["value"]⟩
abbrev s21 : Stmt := top 39
def d21 : DI := ⟨⟨("checked_steps", none), "checked_steps", "checked_steps", defArgs s21, defBody s21, defScope s21, [], []⟩, ["steps", "size", "index"], ["steps", "size"]⟩
abbrev s22 : Stmt := top 38
def d22 : DI := ⟨⟨("is_step", none), "is_step", "is_step", defArgs s22, defBody s22, defScope s22, [], []⟩, ["step", "size"], ["step", "size"]⟩
abbrev s23 : Stmt := top 22
def d23 : DI := ⟨⟨("is_row", none), "is_row", "is_row", defArgs s23, defBody s23, defScope s23, [], []⟩, ["value", "size"], ["value", "size"]⟩
abbrev s24 : Stmt := top 37
def d24 : DI := ⟨⟨("is_state", none), "is_state", "is_state", defArgs s24, defBody s24, defScope s24, [], []⟩, ["value", "size"], ["value", "size"]⟩
abbrev s25 : Stmt := top 19
def d25 : DI := ⟨⟨("is_whole", none), "is_whole", "is_whole", defArgs s25, defBody s25, defScope s25, [], []⟩, ["value"], ["value"]⟩
abbrev s26 : Stmt := top 32
def d26 : DI := ⟨⟨("is_positive", none), "is_positive", "is_positive", defArgs s26, defBody s26, defScope s26, [], []⟩, ["value"], ["value"]⟩
abbrev s27 : Stmt := top 31
def d27 : DI := ⟨⟨("is_ratio", none), "is_ratio", "is_ratio", defArgs s27, defBody s27, defScope s27, [], []⟩, ["value"], ["value"]⟩
abbrev s28 : Stmt := top 30
def d28 : DI := ⟨⟨("compare", none), "compare", "compare", defArgs s28, defBody s28, defScope s28, [], []⟩, ["a", "b", "left", "right"], ["a", "b"]⟩
abbrev s29 : Stmt := top 41
def d29 : DI := ⟨⟨("chance_out", none), "chance_out", "chance_out", defArgs s29, defBody s29, defScope s29, [], []⟩, ["steps", "state", "e", "told", "step"], ["steps", "state", "e"]⟩
abbrev s30 : Stmt := top 27
def d30 : DI := ⟨⟨("plus", none), "plus", "plus", defArgs s30, defBody s30, defScope s30, [], []⟩, ["a", "b"], ["a", "b"]⟩
abbrev s31 : Stmt := top 26
def d31 : DI := ⟨⟨("lowest", none), "lowest", "lowest", defArgs s31, defBody s31, defScope s31, [], []⟩, ["top", "bottom", "common"], ["top", "bottom"]⟩
abbrev s32 : Stmt := top 40
def d32 : DI := ⟨⟨("step_chance", none), "step_chance", "step_chance", defArgs s32, defBody s32, defScope s32, [], []⟩, ["step", "e"], ["step", "e"]⟩
abbrev s33 : Stmt := top 28
def d33 : DI := ⟨⟨("times", none), "times", "times", defArgs s33, defBody s33, defScope s33, [], []⟩, ["a", "b"], ["a", "b"]⟩
abbrev s34 : Stmt := top 29
def d34 : DI := ⟨⟨("raised", none), "raised", "raised", defArgs s34, defBody s34, defScope s34, [], []⟩, ["a", "exponent", "top", "bottom", "_"], ["a", "exponent"]⟩
abbrev s35 : Stmt := top 43
def d35 : DI := ⟨⟨("check_ways", none), "check_ways", "check_ways", defArgs s35, defBody s35, defScope s35, [], []⟩, ["steps", "size", "start", "reached", "goal"], ["steps", "size"]⟩
abbrev s36 : Stmt := top 42
def d36 : DI := ⟨⟨("reached_from", none), "reached_from", "reached_from", defArgs s36, defBody s36, defScope s36, [], []⟩, ["steps", "size", "start", "told", "_", "step", ".0", "state"], ["steps", "size", "start"]⟩
abbrev s37 : Stmt := top 44
def d37 : DI := ⟨⟨("leaving_rows", none), "leaving_rows", "leaving_rows", defArgs s37, defBody s37, defScope s37, [], []⟩, ["steps", "size", ".0", "state", "index"], ["steps", "size"]⟩
abbrev s38 : Stmt := mth (top 49) 0
def d38 : DI := ⟨⟨("Town", some ("__init__" : PySem.Str)), "__init__", "Town.__init__", defArgs s38, defBody s38, defScope s38, [], [("slips", (.str "even"))]⟩, ["self", "people", "customs", "worths", "slips", "count"], ["self", "people", "customs", "worths", "slips"]⟩
abbrev s39 : Stmt := top 50
def d39 : DI := ⟨⟨("checked_people", none), "checked_people", "checked_people", defArgs s39, defBody s39, defScope s39, [], []⟩, ["people", "index"], ["people"]⟩
abbrev s40 : Stmt := top 52
def d40 : DI := ⟨⟨("checked_customs", none), "checked_customs", "checked_customs", defArgs s40, defBody s40, defScope s40, [], []⟩, ["customs", "size", "index"], ["customs", "size"]⟩
abbrev s41 : Stmt := top 51
def d41 : DI := ⟨⟨("are_customs", none), "are_customs", "are_customs", defArgs s41, defBody s41, defScope s41, [], []⟩, ["row", "index"], ["row"]⟩
abbrev s42 : Stmt := top 55
def d42 : DI := ⟨⟨("checked_worths", none), "checked_worths", "checked_worths", defArgs s42, defBody s42, defScope s42, [], []⟩, ["worths", "customs", "known", "index"], ["worths", "customs"]⟩
abbrev s43 : Stmt := top 54
def d43 : DI := ⟨⟨("is_worth", none), "is_worth", "is_worth", defArgs s43, defBody s43, defScope s43, [], []⟩, ["item", "customs"], ["item", "customs"]⟩
abbrev s44 : Stmt := top 80
def d44 : DI := ⟨⟨("_law_town_steps", none), "_law_town_steps", "_law_town_steps", defArgs s44, defBody s44, defScope s44, [], []⟩, ["drawn", "rows", "steps", "row", "person", "worths", "highest", "many", "k", "goal", "step", ".0", "worth"], ["drawn"]⟩
abbrev s45 : Stmt := top 76
def d45 : DI := ⟨⟨("_law_rows", none), "_law_rows", "_law_rows", defArgs s45, defBody s45, defScope s45, [], []⟩, ["drawn", "rows", "customs", "grown", "row", "k"], ["drawn"]⟩
abbrev s46 : Stmt := top 79
def d46 : DI := ⟨⟨("_law_worths", none), "_law_worths", "_law_worths", defArgs s46, defBody s46, defScope s46, [], []⟩, ["drawn", "row", "person", ".0", "k"], ["drawn", "row", "person"]⟩
abbrev s47 : Stmt := top 78
def d47 : DI := ⟨⟨("_law_worth", none), "_law_worth", "_law_worth", defArgs s47, defBody s47, defScope s47, [], []⟩, ["drawn", "row", "person", "told", "item"], ["drawn", "row", "person"]⟩
abbrev s48 : Stmt := top 77
def d48 : DI := ⟨⟨("_law_with", none), "_law_with", "_law_with", defArgs s48, defBody s48, defScope s48, [], []⟩, ["row", "person", "custom"], ["row", "person", "custom"]⟩
abbrev s49 : Stmt := top 73
def d49 : DI := ⟨⟨("_law_is_ratio", none), "_law_is_ratio", "_law_is_ratio", defArgs s49, defBody s49, defScope s49, [], []⟩, ["value", "due"], ["value", "due"]⟩
abbrev s50 : Stmt := top 70
def d50 : DI := ⟨⟨("_law_whole", none), "_law_whole", "_law_whole", defArgs s50, defBody s50, defScope s50, [], []⟩, ["value"], ["value"]⟩
def ds : List DI := d0 :: d1 :: d2 :: d3 :: d4 :: d5 :: d6 :: d7 :: d8 :: d9 :: d10 :: d11 :: d12 :: d13 :: d14 :: d15 :: d16 :: d17 :: d18 :: d19 :: d20 :: d21 :: d22 :: d23 :: d24 :: d25 :: d26 :: d27 :: d28 :: d29 :: d30 :: d31 :: d32 :: d33 :: d34 :: d35 :: d36 :: d37 :: d38 :: d39 :: d40 :: d41 :: d42 :: d43 :: d44 :: d45 :: d46 :: d47 :: d48 :: d49 :: d50 :: []
def fa : List He.Fa := .glo "law" ::
  .glo "_law_town" ::
  .glo "_law_digits" ::
  .free "int" ::
  .free "range" ::
  .free "len" ::
  .glo "_law_cell" ::
  .glo "_law_people" ::
  .glo "town_machine" ::
  .glo "every_row" ::
  .glo "row_of" ::
  .free "reversed" ::
  .free "tuple" ::
  .glo "row_count" ::
  .glo "town_steps" ::
  .glo "number_of" ::
  .glo "with_custom" ::
  .glo "even_step" ::
  .glo "best" ::
  .glo "worth_row" ::
  .glo "worth_of" ::
  .free "max" ::
  .glo "loss_step" ::
  .glo "Machine" ::
  .mkr "Machine" ::
  .glo "checked_names" ::
  .glo "is_name" ::
  .free "isinstance" ::
  .free "str" ::
  .str "LETTERS" "abcdefghijklmnopqrstuvwxyz" ::
  .str "DIGITS" "0123456789" ::
  .glo "frozen" ::
  .free "list" ::
  .glo "checked_steps" ::
  .glo "is_step" ::
  .glo "is_row" ::
  .glo "is_state" ::
  .glo "is_whole" ::
  .free "bool" ::
  .glo "is_positive" ::
  .glo "is_ratio" ::
  .int "MOST_COST" 60 ::
  .glo "compare" ::
  .glo "chance_out" ::
  .glo "plus" ::
  .glo "lowest" ::
  .glo "step_chance" ::
  .glo "times" ::
  .glo "raised" ::
  .glo "check_ways" ::
  .glo "reached_from" ::
  .glo "leaving_rows" ::
  .glo "Town" ::
  .mkr "Town" ::
  .glo "checked_people" ::
  .glo "checked_customs" ::
  .glo "are_customs" ::
  .int "MOST_CUSTOMS" 4 ::
  .int "MOST_ROWS" 16 ::
  .glo "checked_worths" ::
  .glo "is_worth" ::
  .int "MOST_WORTH" 10 ::
  .glo "_law_town_steps" ::
  .glo "_law_rows" ::
  .glo "_law_worths" ::
  .glo "_law_worth" ::
  .glo "_law_with" ::
  .glo "_law_is_ratio" ::
  .glo "_law_whole" ::
  .cls "Machine" ::
  .noat "Machine" "names" ::
  .noat "Machine" "steps" ::
  .noat "Machine" "first" ::
  .noat "Machine" "leaving" ::
  .cls "Town" ::
  .noat "Town" "people" ::
  .noat "Town" "customs" ::
  .noat "Town" "worths" ::
  .noat "Town" "slips" ::
  []
def tp : Tp := { gs := [("ONE", (.tup [(.int 1), (.int 1)])), ("ZERO", (.tup [(.int 0), (.int 1)]))], bs := [("gcd", "math.gcd")], ks := [(("Machine", some ("__init__" : PySem.Str)), "first", (.tup [(.int 1), (.int 1)]))] }
theorem ok0 : okFn rt 0 F0 = true := by kernel_rfl
theorem ok1 : okFn rt 1 F1 = true := by kernel_rfl
theorem ok2 : okFn rt 2 F2 = true := by kernel_rfl
theorem ok3 : okFn rt 3 F3 = true := by kernel_rfl
theorem ok4 : okFn rt 4 F4 = true := by kernel_rfl
theorem ok5 : okFn rt 5 F5 = true := by kernel_rfl
theorem ok6 : okFn rt 6 F6 = true := by kernel_rfl
theorem ok7 : okFn rt 7 F7 = true := by kernel_rfl
theorem ok8 : okFn rt 8 F8 = true := by kernel_rfl
theorem ok9 : okFn rt 9 F9 = true := by kernel_rfl
theorem ok10 : okFn rt 10 F10 = true := by kernel_rfl
theorem ok11 : okFn rt 11 F11 = true := by kernel_rfl
theorem ok12 : okFn rt 12 F12 = true := by kernel_rfl
theorem ok13 : okFn rt 13 F13 = true := by kernel_rfl
theorem ok14 : okFn rt 14 F14 = true := by kernel_rfl
theorem ok15 : okFn rt 15 F15 = true := by kernel_rfl
theorem ok16 : okFn rt 16 F16 = true := by kernel_rfl
theorem ok17 : okIn rt F17 = true := by kernel_rfl
theorem ok18 : okFn rt 18 F18 = true := by kernel_rfl
theorem ok19 : okFn rt 19 F19 = true := by kernel_rfl
theorem ok20 : okFn rt 20 F20 = true := by kernel_rfl
theorem ok21 : okFn rt 21 F21 = true := by kernel_rfl
theorem ok22 : okFn rt 22 F22 = true := by kernel_rfl
theorem ok23 : okFn rt 23 F23 = true := by kernel_rfl
theorem ok24 : okFn rt 24 F24 = true := by kernel_rfl
theorem ok25 : okFn rt 25 F25 = true := by kernel_rfl
theorem ok26 : okFn rt 26 F26 = true := by kernel_rfl
theorem ok27 : okFn rt 27 F27 = true := by kernel_rfl
theorem ok28 : okFn rt 28 F28 = true := by kernel_rfl
theorem ok29 : okFn rt 29 F29 = true := by kernel_rfl
theorem ok30 : okFn rt 30 F30 = true := by kernel_rfl
theorem ok31 : okFn rt 31 F31 = true := by kernel_rfl
theorem ok32 : okFn rt 32 F32 = true := by kernel_rfl
theorem ok33 : okFn rt 33 F33 = true := by kernel_rfl
theorem ok34 : okFn rt 34 F34 = true := by kernel_rfl
theorem ok35 : okFn rt 35 F35 = true := by kernel_rfl
theorem ok36 : okFn rt 36 F36 = true := by kernel_rfl
theorem ok37 : okFn rt 37 F37 = true := by kernel_rfl
theorem ok38 : okIn rt F38 = true := by kernel_rfl
theorem ok39 : okFn rt 39 F39 = true := by kernel_rfl
theorem ok40 : okFn rt 40 F40 = true := by kernel_rfl
theorem ok41 : okFn rt 41 F41 = true := by kernel_rfl
theorem ok42 : okFn rt 42 F42 = true := by kernel_rfl
theorem ok43 : okFn rt 43 F43 = true := by kernel_rfl
theorem ok44 : okFn rt 44 F44 = true := by kernel_rfl
theorem ok45 : okFn rt 45 F45 = true := by kernel_rfl
theorem ok46 : okFn rt 46 F46 = true := by kernel_rfl
theorem ok47 : okFn rt 47 F47 = true := by kernel_rfl
theorem ok48 : okFn rt 48 F48 = true := by kernel_rfl
theorem ok49 : okFn rt 49 F49 = true := by kernel_rfl
theorem ok50 : okFn rt 50 F50 = true := by kernel_rfl
theorem rd0 : cSs (cS nm d0.N 40 d0.d.scope 20) d0.d.body = some b0 := by kernel_rfl
theorem rd1 : cSs (cS nm d1.N 40 d1.d.scope 20) d1.d.body = some b1 := by kernel_rfl
theorem rd2 : cSs (cS nm d2.N 40 d2.d.scope 20) d2.d.body = some b2 := by kernel_rfl
theorem rd3 : cSs (cS nm d3.N 40 d3.d.scope 20) d3.d.body = some b3 := by kernel_rfl
theorem rd4 : cSs (cS nm d4.N 40 d4.d.scope 20) d4.d.body = some b4 := by kernel_rfl
theorem rd5 : cSs (cS nm d5.N 40 d5.d.scope 20) d5.d.body = some b5 := by kernel_rfl
theorem rd6 : cSs (cS nm d6.N 40 d6.d.scope 20) d6.d.body = some b6 := by kernel_rfl
theorem rd7 : cSs (cS nm d7.N 40 d7.d.scope 20) d7.d.body = some b7 := by kernel_rfl
theorem rd8 : cSs (cS nm d8.N 40 d8.d.scope 20) d8.d.body = some b8 := by kernel_rfl
theorem rd9 : cSs (cS nm d9.N 40 d9.d.scope 20) d9.d.body = some b9 := by kernel_rfl
theorem rd10 : cSs (cS nm d10.N 40 d10.d.scope 20) d10.d.body = some b10 := by kernel_rfl
theorem rd11 : cSs (cS nm d11.N 40 d11.d.scope 20) d11.d.body = some b11 := by kernel_rfl
theorem rd12 : cSs (cS nm d12.N 40 d12.d.scope 20) d12.d.body = some b12 := by kernel_rfl
theorem rd13 : cSs (cS nm d13.N 40 d13.d.scope 20) d13.d.body = some b13 := by kernel_rfl
theorem rd14 : cSs (cS nm d14.N 40 d14.d.scope 20) d14.d.body = some b14 := by kernel_rfl
theorem rd15 : cSs (cS nm d15.N 40 d15.d.scope 20) d15.d.body = some b15 := by kernel_rfl
theorem rd16 : cSs (cS nm d16.N 40 d16.d.scope 20) d16.d.body = some b16 := by kernel_rfl
theorem rd17 : cSs (cS nm d17.N 40 d17.d.scope 20) d17.d.body = some b17 := by kernel_rfl
theorem rd18 : cSs (cS nm d18.N 40 d18.d.scope 20) d18.d.body = some b18 := by kernel_rfl
theorem rd19 : cSs (cS nm d19.N 40 d19.d.scope 20) d19.d.body = some b19 := by kernel_rfl
theorem rd20 : cSs (cS nm d20.N 40 d20.d.scope 20) d20.d.body = some b20 := by kernel_rfl
theorem rd21 : cSs (cS nm d21.N 40 d21.d.scope 20) d21.d.body = some b21 := by kernel_rfl
theorem rd22 : cSs (cS nm d22.N 40 d22.d.scope 20) d22.d.body = some b22 := by kernel_rfl
theorem rd23 : cSs (cS nm d23.N 40 d23.d.scope 20) d23.d.body = some b23 := by kernel_rfl
theorem rd24 : cSs (cS nm d24.N 40 d24.d.scope 20) d24.d.body = some b24 := by kernel_rfl
theorem rd25 : cSs (cS nm d25.N 40 d25.d.scope 20) d25.d.body = some b25 := by kernel_rfl
theorem rd26 : cSs (cS nm d26.N 40 d26.d.scope 20) d26.d.body = some b26 := by kernel_rfl
theorem rd27 : cSs (cS nm d27.N 40 d27.d.scope 20) d27.d.body = some b27 := by kernel_rfl
theorem rd28 : cSs (cS nm d28.N 40 d28.d.scope 20) d28.d.body = some b28 := by kernel_rfl
theorem rd29 : cSs (cS nm d29.N 40 d29.d.scope 20) d29.d.body = some b29 := by kernel_rfl
theorem rd30 : cSs (cS nm d30.N 40 d30.d.scope 20) d30.d.body = some b30 := by kernel_rfl
theorem rd31 : cSs (cS nm d31.N 40 d31.d.scope 20) d31.d.body = some b31 := by kernel_rfl
theorem rd32 : cSs (cS nm d32.N 40 d32.d.scope 20) d32.d.body = some b32 := by kernel_rfl
theorem rd33 : cSs (cS nm d33.N 40 d33.d.scope 20) d33.d.body = some b33 := by kernel_rfl
theorem rd34 : cSs (cS nm d34.N 40 d34.d.scope 20) d34.d.body = some b34 := by kernel_rfl
theorem rd35 : cSs (cS nm d35.N 40 d35.d.scope 20) d35.d.body = some b35 := by kernel_rfl
theorem rd36 : cSs (cS nm d36.N 40 d36.d.scope 20) d36.d.body = some b36 := by kernel_rfl
theorem rd37 : cSs (cS nm d37.N 40 d37.d.scope 20) d37.d.body = some b37 := by kernel_rfl
theorem rd38 : cSs (cS nm d38.N 40 d38.d.scope 20) d38.d.body = some b38 := by kernel_rfl
theorem rd39 : cSs (cS nm d39.N 40 d39.d.scope 20) d39.d.body = some b39 := by kernel_rfl
theorem rd40 : cSs (cS nm d40.N 40 d40.d.scope 20) d40.d.body = some b40 := by kernel_rfl
theorem rd41 : cSs (cS nm d41.N 40 d41.d.scope 20) d41.d.body = some b41 := by kernel_rfl
theorem rd42 : cSs (cS nm d42.N 40 d42.d.scope 20) d42.d.body = some b42 := by kernel_rfl
theorem rd43 : cSs (cS nm d43.N 40 d43.d.scope 20) d43.d.body = some b43 := by kernel_rfl
theorem rd44 : cSs (cS nm d44.N 40 d44.d.scope 20) d44.d.body = some b44 := by kernel_rfl
theorem rd45 : cSs (cS nm d45.N 40 d45.d.scope 20) d45.d.body = some b45 := by kernel_rfl
theorem rd46 : cSs (cS nm d46.N 40 d46.d.scope 20) d46.d.body = some b46 := by kernel_rfl
theorem rd47 : cSs (cS nm d47.N 40 d47.d.scope 20) d47.d.body = some b47 := by kernel_rfl
theorem rd48 : cSs (cS nm d48.N 40 d48.d.scope 20) d48.d.body = some b48 := by kernel_rfl
theorem rd49 : cSs (cS nm d49.N 40 d49.d.scope 20) d49.d.body = some b49 := by kernel_rfl
theorem rd50 : cSs (cS nm d50.N 40 d50.d.scope 20) d50.d.body = some b50 := by kernel_rfl
theorem fs0 : fsB d0.N d0.ps d0.d.scope = true := by kernel_rfl
theorem fs1 : fsB d1.N d1.ps d1.d.scope = true := by kernel_rfl
theorem fs2 : fsB d2.N d2.ps d2.d.scope = true := by kernel_rfl
theorem fs3 : fsB d3.N d3.ps d3.d.scope = true := by kernel_rfl
theorem fs4 : fsB d4.N d4.ps d4.d.scope = true := by kernel_rfl
theorem fs5 : fsB d5.N d5.ps d5.d.scope = true := by kernel_rfl
theorem fs6 : fsB d6.N d6.ps d6.d.scope = true := by kernel_rfl
theorem fs7 : fsB d7.N d7.ps d7.d.scope = true := by kernel_rfl
theorem fs8 : fsB d8.N d8.ps d8.d.scope = true := by kernel_rfl
theorem fs9 : fsB d9.N d9.ps d9.d.scope = true := by kernel_rfl
theorem fs10 : fsB d10.N d10.ps d10.d.scope = true := by kernel_rfl
theorem fs11 : fsB d11.N d11.ps d11.d.scope = true := by kernel_rfl
theorem fs12 : fsB d12.N d12.ps d12.d.scope = true := by kernel_rfl
theorem fs13 : fsB d13.N d13.ps d13.d.scope = true := by kernel_rfl
theorem fs14 : fsB d14.N d14.ps d14.d.scope = true := by kernel_rfl
theorem fs15 : fsB d15.N d15.ps d15.d.scope = true := by kernel_rfl
theorem fs16 : fsB d16.N d16.ps d16.d.scope = true := by kernel_rfl
theorem fs17 : fsB d17.N d17.ps d17.d.scope = true := by kernel_rfl
theorem fs18 : fsB d18.N d18.ps d18.d.scope = true := by kernel_rfl
theorem fs19 : fsB d19.N d19.ps d19.d.scope = true := by kernel_rfl
theorem fs20 : fsB d20.N d20.ps d20.d.scope = true := by kernel_rfl
theorem fs21 : fsB d21.N d21.ps d21.d.scope = true := by kernel_rfl
theorem fs22 : fsB d22.N d22.ps d22.d.scope = true := by kernel_rfl
theorem fs23 : fsB d23.N d23.ps d23.d.scope = true := by kernel_rfl
theorem fs24 : fsB d24.N d24.ps d24.d.scope = true := by kernel_rfl
theorem fs25 : fsB d25.N d25.ps d25.d.scope = true := by kernel_rfl
theorem fs26 : fsB d26.N d26.ps d26.d.scope = true := by kernel_rfl
theorem fs27 : fsB d27.N d27.ps d27.d.scope = true := by kernel_rfl
theorem fs28 : fsB d28.N d28.ps d28.d.scope = true := by kernel_rfl
theorem fs29 : fsB d29.N d29.ps d29.d.scope = true := by kernel_rfl
theorem fs30 : fsB d30.N d30.ps d30.d.scope = true := by kernel_rfl
theorem fs31 : fsB d31.N d31.ps d31.d.scope = true := by kernel_rfl
theorem fs32 : fsB d32.N d32.ps d32.d.scope = true := by kernel_rfl
theorem fs33 : fsB d33.N d33.ps d33.d.scope = true := by kernel_rfl
theorem fs34 : fsB d34.N d34.ps d34.d.scope = true := by kernel_rfl
theorem fs35 : fsB d35.N d35.ps d35.d.scope = true := by kernel_rfl
theorem fs36 : fsB d36.N d36.ps d36.d.scope = true := by kernel_rfl
theorem fs37 : fsB d37.N d37.ps d37.d.scope = true := by kernel_rfl
theorem fs38 : fsB d38.N d38.ps d38.d.scope = true := by kernel_rfl
theorem fs39 : fsB d39.N d39.ps d39.d.scope = true := by kernel_rfl
theorem fs40 : fsB d40.N d40.ps d40.d.scope = true := by kernel_rfl
theorem fs41 : fsB d41.N d41.ps d41.d.scope = true := by kernel_rfl
theorem fs42 : fsB d42.N d42.ps d42.d.scope = true := by kernel_rfl
theorem fs43 : fsB d43.N d43.ps d43.d.scope = true := by kernel_rfl
theorem fs44 : fsB d44.N d44.ps d44.d.scope = true := by kernel_rfl
theorem fs45 : fsB d45.N d45.ps d45.d.scope = true := by kernel_rfl
theorem fs46 : fsB d46.N d46.ps d46.d.scope = true := by kernel_rfl
theorem fs47 : fsB d47.N d47.ps d47.d.scope = true := by kernel_rfl
theorem fs48 : fsB d48.N d48.ps d48.d.scope = true := by kernel_rfl
theorem fs49 : fsB d49.N d49.ps d49.d.scope = true := by kernel_rfl
theorem fs50 : fsB d50.N d50.ps d50.d.scope = true := by kernel_rfl
theorem reads : Reads nm 40 20 ds := ⟨⟨fs0, fun F h => by cases h; exact ⟨rfl, rfl, rd0⟩⟩,
  ⟨fs1, fun F h => by cases h; exact ⟨rfl, rfl, rd1⟩⟩,
  ⟨fs2, fun F h => by cases h; exact ⟨rfl, rfl, rd2⟩⟩,
  ⟨fs3, fun F h => by cases h; exact ⟨rfl, rfl, rd3⟩⟩,
  ⟨fs4, fun F h => by cases h; exact ⟨rfl, rfl, rd4⟩⟩,
  ⟨fs5, fun F h => by cases h; exact ⟨rfl, rfl, rd5⟩⟩,
  ⟨fs6, fun F h => by cases h; exact ⟨rfl, rfl, rd6⟩⟩,
  ⟨fs7, fun F h => by cases h; exact ⟨rfl, rfl, rd7⟩⟩,
  ⟨fs8, fun F h => by cases h; exact ⟨rfl, rfl, rd8⟩⟩,
  ⟨fs9, fun F h => by cases h; exact ⟨rfl, rfl, rd9⟩⟩,
  ⟨fs10, fun F h => by cases h; exact ⟨rfl, rfl, rd10⟩⟩,
  ⟨fs11, fun F h => by cases h; exact ⟨rfl, rfl, rd11⟩⟩,
  ⟨fs12, fun F h => by cases h; exact ⟨rfl, rfl, rd12⟩⟩,
  ⟨fs13, fun F h => by cases h; exact ⟨rfl, rfl, rd13⟩⟩,
  ⟨fs14, fun F h => by cases h; exact ⟨rfl, rfl, rd14⟩⟩,
  ⟨fs15, fun F h => by cases h; exact ⟨rfl, rfl, rd15⟩⟩,
  ⟨fs16, fun F h => by cases h; exact ⟨rfl, rfl, rd16⟩⟩,
  ⟨fs17, fun F h => by cases h; exact ⟨rfl, rfl, rd17⟩⟩,
  ⟨fs18, fun F h => by cases h; exact ⟨rfl, rfl, rd18⟩⟩,
  ⟨fs19, fun F h => by cases h; exact ⟨rfl, rfl, rd19⟩⟩,
  ⟨fs20, fun F h => by cases h; exact ⟨rfl, rfl, rd20⟩⟩,
  ⟨fs21, fun F h => by cases h; exact ⟨rfl, rfl, rd21⟩⟩,
  ⟨fs22, fun F h => by cases h; exact ⟨rfl, rfl, rd22⟩⟩,
  ⟨fs23, fun F h => by cases h; exact ⟨rfl, rfl, rd23⟩⟩,
  ⟨fs24, fun F h => by cases h; exact ⟨rfl, rfl, rd24⟩⟩,
  ⟨fs25, fun F h => by cases h; exact ⟨rfl, rfl, rd25⟩⟩,
  ⟨fs26, fun F h => by cases h; exact ⟨rfl, rfl, rd26⟩⟩,
  ⟨fs27, fun F h => by cases h; exact ⟨rfl, rfl, rd27⟩⟩,
  ⟨fs28, fun F h => by cases h; exact ⟨rfl, rfl, rd28⟩⟩,
  ⟨fs29, fun F h => by cases h; exact ⟨rfl, rfl, rd29⟩⟩,
  ⟨fs30, fun F h => by cases h; exact ⟨rfl, rfl, rd30⟩⟩,
  ⟨fs31, fun F h => by cases h; exact ⟨rfl, rfl, rd31⟩⟩,
  ⟨fs32, fun F h => by cases h; exact ⟨rfl, rfl, rd32⟩⟩,
  ⟨fs33, fun F h => by cases h; exact ⟨rfl, rfl, rd33⟩⟩,
  ⟨fs34, fun F h => by cases h; exact ⟨rfl, rfl, rd34⟩⟩,
  ⟨fs35, fun F h => by cases h; exact ⟨rfl, rfl, rd35⟩⟩,
  ⟨fs36, fun F h => by cases h; exact ⟨rfl, rfl, rd36⟩⟩,
  ⟨fs37, fun F h => by cases h; exact ⟨rfl, rfl, rd37⟩⟩,
  ⟨fs38, fun F h => by cases h; exact ⟨rfl, rfl, rd38⟩⟩,
  ⟨fs39, fun F h => by cases h; exact ⟨rfl, rfl, rd39⟩⟩,
  ⟨fs40, fun F h => by cases h; exact ⟨rfl, rfl, rd40⟩⟩,
  ⟨fs41, fun F h => by cases h; exact ⟨rfl, rfl, rd41⟩⟩,
  ⟨fs42, fun F h => by cases h; exact ⟨rfl, rfl, rd42⟩⟩,
  ⟨fs43, fun F h => by cases h; exact ⟨rfl, rfl, rd43⟩⟩,
  ⟨fs44, fun F h => by cases h; exact ⟨rfl, rfl, rd44⟩⟩,
  ⟨fs45, fun F h => by cases h; exact ⟨rfl, rfl, rd45⟩⟩,
  ⟨fs46, fun F h => by cases h; exact ⟨rfl, rfl, rd46⟩⟩,
  ⟨fs47, fun F h => by cases h; exact ⟨rfl, rfl, rd47⟩⟩,
  ⟨fs48, fun F h => by cases h; exact ⟨rfl, rfl, rd48⟩⟩,
  ⟨fs49, fun F h => by cases h; exact ⟨rfl, rfl, rd49⟩⟩,
  ⟨fs50, fun F h => by cases h; exact ⟨rfl, rfl, rd50⟩⟩, trivial⟩
section
variable {K : PySem.W.Frag} {h : Heap} {mg : Str → Option Value} {fD : Nat → FuncData}
theorem glob (X : K.In h) (Gn : h.Ns mainGlobals mg) (c0 : SaysP fa (ds.map (·.d)) tp K) (c : He.SaysD fa (ds.map (·.d)) K) (FD : ∀ (i : Nat) (d : DI), ds[i]? = some d → FunD K d.d.name d.d.qual d.d.params d.d.body d.d.scope (d.d.dvs K) (d.d.kws K) (fAof K ds i) (fD i)) :
    AllI (fun _ (p : Str × Gk) => GlOk mg (lxOf K cn nm.AN) nm rt (ds.map (DI.fi K)) (fAof K ds) fD p.1 p.2) 0 G := ⟨gl_fn (F := F0) (d := d0) rfl rfl rfl (He.glo_ok X Gn (c.fact 0 (f := .glo "law") rfl)) rfl ok0 FD fun F => F.bindsN fun _ _ _ _ _ _ us hl => match us, hl with | [_], _ => rfl,
    gl_fn (F := F1) (d := d1) rfl rfl rfl (He.glo_ok X Gn (c.fact 1 (f := .glo "_law_town") rfl)) rfl ok1 FD fun F => F.bindsN fun _ _ _ _ _ _ us hl => match us, hl with | [_, _, _], _ => rfl,
    gl_fn (F := F2) (d := d2) rfl rfl rfl (He.glo_ok X Gn (c.fact 2 (f := .glo "_law_digits") rfl)) rfl ok2 FD fun F => F.bindsN fun _ _ _ _ _ _ us hl => match us, hl with | [_, _], _ => rfl,
    He.free_ok X Gn (c.fact 3 (f := .free "int") rfl),
    He.free_ok X Gn (c.fact 4 (f := .free "range") rfl),
    He.free_ok X Gn (c.fact 5 (f := .free "len") rfl),
    gl_fn (F := F3) (d := d3) rfl rfl rfl (He.glo_ok X Gn (c.fact 6 (f := .glo "_law_cell") rfl)) rfl ok3 FD fun F => F.bindsN fun _ _ _ _ _ _ us hl => match us, hl with | [_, _], _ => rfl,
    gl_fn (F := F4) (d := d4) rfl rfl rfl (He.glo_ok X Gn (c.fact 7 (f := .glo "_law_people") rfl)) rfl ok4 FD fun F => F.bindsN fun _ _ _ _ _ _ us hl => match us, hl with | [_], _ => rfl,
    gl_fn (F := F5) (d := d5) rfl rfl rfl (He.glo_ok X Gn (c.fact 8 (f := .glo "town_machine") rfl)) rfl ok5 FD fun F => F.bindsN fun _ _ _ _ _ _ us hl => match us, hl with | [_], _ => rfl,
    gl_fn (F := F6) (d := d6) rfl rfl rfl (He.glo_ok X Gn (c.fact 9 (f := .glo "every_row") rfl)) rfl ok6 FD fun F => F.bindsN fun _ _ _ _ _ _ us hl => match us, hl with | [_], _ => rfl,
    gl_fn (F := F7) (d := d7) rfl rfl rfl (He.glo_ok X Gn (c.fact 10 (f := .glo "row_of") rfl)) rfl ok7 FD fun F => F.bindsN fun _ _ _ _ _ _ us hl => match us, hl with | [_, _], _ => rfl,
    He.free_ok X Gn (c.fact 11 (f := .free "reversed") rfl),
    He.free_ok X Gn (c.fact 12 (f := .free "tuple") rfl),
    gl_fn (F := F8) (d := d8) rfl rfl rfl (He.glo_ok X Gn (c.fact 13 (f := .glo "row_count") rfl)) rfl ok8 FD fun F => F.bindsN fun _ _ _ _ _ _ us hl => match us, hl with | [_], _ => rfl,
    gl_fn (F := F9) (d := d9) rfl rfl rfl (He.glo_ok X Gn (c.fact 14 (f := .glo "town_steps") rfl)) rfl ok9 FD fun F => F.bindsN fun _ _ _ _ _ _ us hl => match us, hl with | [_, _], _ => rfl,
    gl_fn (F := F10) (d := d10) rfl rfl rfl (He.glo_ok X Gn (c.fact 15 (f := .glo "number_of") rfl)) rfl ok10 FD fun F => F.bindsN fun _ _ _ _ _ _ us hl => match us, hl with | [_, _], _ => rfl,
    gl_fn (F := F11) (d := d11) rfl rfl rfl (He.glo_ok X Gn (c.fact 16 (f := .glo "with_custom") rfl)) rfl ok11 FD fun F => F.bindsN fun _ _ _ _ _ _ us hl => match us, hl with | [_, _, _], _ => rfl,
    gl_fn (F := F12) (d := d12) rfl rfl rfl (He.glo_ok X Gn (c.fact 17 (f := .glo "even_step") rfl)) rfl ok12 FD fun F => F.bindsN fun _ _ _ _ _ _ us hl => match us, hl with | [_, _, _, _], _ => rfl,
    gl_fn (F := F13) (d := d13) rfl rfl rfl (He.glo_ok X Gn (c.fact 18 (f := .glo "best") rfl)) rfl ok13 FD fun F => F.bindsN fun _ _ _ _ _ _ us hl => match us, hl with | [_, _, _], _ => rfl,
    gl_fn (F := F14) (d := d14) rfl rfl rfl (He.glo_ok X Gn (c.fact 19 (f := .glo "worth_row") rfl)) rfl ok14 FD fun F => F.bindsN fun _ _ _ _ _ _ us hl => match us, hl with | [_, _, _], _ => rfl,
    gl_fn (F := F15) (d := d15) rfl rfl rfl (He.glo_ok X Gn (c.fact 20 (f := .glo "worth_of") rfl)) rfl ok15 FD fun F => F.bindsN fun _ _ _ _ _ _ us hl => match us, hl with | [_, _, _], _ => rfl,
    He.free_ok X Gn (c.fact 21 (f := .free "max") rfl),
    gl_fn (F := F16) (d := d16) rfl rfl rfl (He.glo_ok X Gn (c.fact 22 (f := .glo "loss_step") rfl)) rfl ok16 FD fun F => F.bindsN fun _ _ _ _ _ _ us hl => match us, hl with | [_, _, _, _], _ => rfl,
    gl_cls (q := C0) (F := F17) (d := d17) rfl rfl rfl rfl (He.glo_ok X Gn (c.fact 23 (f := .glo "Machine") rfl)) rfl rfl (He.mkr_ok (c.fact 24 (f := .mkr "Machine") rfl)) ok17 FD (fun F => ⟨(fun _ => by
        obtain ⟨us, q1, q2⟩ := F.binds0 (ps := d17.ps) 3 (by simp [He.DefD.kws, d17]) rfl fun D doc pm an cdv ct us ks h1 h2 => match us, h1, ks, h2 with
          | [_, _, _], _, [_], _ => ⟨_, _, _, _, _, _, rfl, rfl, rfl⟩
        exact ⟨_, us, q2, q1, (.cons (kw_rep (c0.k 0)) .nil)⟩), (fun p hp => nomatch hp)⟩),
    gl_fn (F := F18) (d := d18) rfl rfl rfl (He.glo_ok X Gn (c.fact 25 (f := .glo "checked_names") rfl)) rfl ok18 FD fun F => F.bindsN fun _ _ _ _ _ _ us hl => match us, hl with | [_], _ => rfl,
    gl_fn (F := F19) (d := d19) rfl rfl rfl (He.glo_ok X Gn (c.fact 26 (f := .glo "is_name") rfl)) rfl ok19 FD fun F => F.bindsN fun _ _ _ _ _ _ us hl => match us, hl with | [_], _ => rfl,
    He.free_ok X Gn (c.fact 27 (f := .free "isinstance") rfl),
    He.free_ok X Gn (c.fact 28 (f := .free "str") rfl),
    gl_str X Gn (c.fact 29 (f := .str "LETTERS" "abcdefghijklmnopqrstuvwxyz") rfl) rfl,
    gl_str X Gn (c.fact 30 (f := .str "DIGITS" "0123456789") rfl) rfl,
    gl_fn (F := F20) (d := d20) rfl rfl rfl (He.glo_ok X Gn (c.fact 31 (f := .glo "frozen") rfl)) rfl ok20 FD fun F => F.bindsN fun _ _ _ _ _ _ us hl => match us, hl with | [_], _ => rfl,
    He.free_ok X Gn (c.fact 32 (f := .free "list") rfl),
    gl_fn (F := F21) (d := d21) rfl rfl rfl (He.glo_ok X Gn (c.fact 33 (f := .glo "checked_steps") rfl)) rfl ok21 FD fun F => F.bindsN fun _ _ _ _ _ _ us hl => match us, hl with | [_, _], _ => rfl,
    gl_fn (F := F22) (d := d22) rfl rfl rfl (He.glo_ok X Gn (c.fact 34 (f := .glo "is_step") rfl)) rfl ok22 FD fun F => F.bindsN fun _ _ _ _ _ _ us hl => match us, hl with | [_, _], _ => rfl,
    gl_fn (F := F23) (d := d23) rfl rfl rfl (He.glo_ok X Gn (c.fact 35 (f := .glo "is_row") rfl)) rfl ok23 FD fun F => F.bindsN fun _ _ _ _ _ _ us hl => match us, hl with | [_, _], _ => rfl,
    gl_fn (F := F24) (d := d24) rfl rfl rfl (He.glo_ok X Gn (c.fact 36 (f := .glo "is_state") rfl)) rfl ok24 FD fun F => F.bindsN fun _ _ _ _ _ _ us hl => match us, hl with | [_, _], _ => rfl,
    gl_fn (F := F25) (d := d25) rfl rfl rfl (He.glo_ok X Gn (c.fact 37 (f := .glo "is_whole") rfl)) rfl ok25 FD fun F => F.bindsN fun _ _ _ _ _ _ us hl => match us, hl with | [_], _ => rfl,
    He.free_ok X Gn (c.fact 38 (f := .free "bool") rfl),
    gl_fn (F := F26) (d := d26) rfl rfl rfl (He.glo_ok X Gn (c.fact 39 (f := .glo "is_positive") rfl)) rfl ok26 FD fun F => F.bindsN fun _ _ _ _ _ _ us hl => match us, hl with | [_], _ => rfl,
    gl_fn (F := F27) (d := d27) rfl rfl rfl (He.glo_ok X Gn (c.fact 40 (f := .glo "is_ratio") rfl)) rfl ok27 FD fun F => F.bindsN fun _ _ _ _ _ _ us hl => match us, hl with | [_], _ => rfl,
    gl_gcd X Gn (c0.b 0),
    gl_int X Gn (c.fact 41 (f := .int "MOST_COST" 60) rfl) rfl,
    gl_fn (F := F28) (d := d28) rfl rfl rfl (He.glo_ok X Gn (c.fact 42 (f := .glo "compare") rfl)) rfl ok28 FD fun F => F.bindsN fun _ _ _ _ _ _ us hl => match us, hl with | [_, _], _ => rfl,
    gl_data X Gn (c0.g 0) rfl,
    gl_fn (F := F29) (d := d29) rfl rfl rfl (He.glo_ok X Gn (c.fact 43 (f := .glo "chance_out") rfl)) rfl ok29 FD fun F => F.bindsN fun _ _ _ _ _ _ us hl => match us, hl with | [_, _, _], _ => rfl,
    gl_data X Gn (c0.g 1) rfl,
    gl_fn (F := F30) (d := d30) rfl rfl rfl (He.glo_ok X Gn (c.fact 44 (f := .glo "plus") rfl)) rfl ok30 FD fun F => F.bindsN fun _ _ _ _ _ _ us hl => match us, hl with | [_, _], _ => rfl,
    gl_fn (F := F31) (d := d31) rfl rfl rfl (He.glo_ok X Gn (c.fact 45 (f := .glo "lowest") rfl)) rfl ok31 FD fun F => F.bindsN fun _ _ _ _ _ _ us hl => match us, hl with | [_, _], _ => rfl,
    gl_fn (F := F32) (d := d32) rfl rfl rfl (He.glo_ok X Gn (c.fact 46 (f := .glo "step_chance") rfl)) rfl ok32 FD fun F => F.bindsN fun _ _ _ _ _ _ us hl => match us, hl with | [_, _], _ => rfl,
    gl_fn (F := F33) (d := d33) rfl rfl rfl (He.glo_ok X Gn (c.fact 47 (f := .glo "times") rfl)) rfl ok33 FD fun F => F.bindsN fun _ _ _ _ _ _ us hl => match us, hl with | [_, _], _ => rfl,
    gl_fn (F := F34) (d := d34) rfl rfl rfl (He.glo_ok X Gn (c.fact 48 (f := .glo "raised") rfl)) rfl ok34 FD fun F => F.bindsN fun _ _ _ _ _ _ us hl => match us, hl with | [_, _], _ => rfl,
    gl_fn (F := F35) (d := d35) rfl rfl rfl (He.glo_ok X Gn (c.fact 49 (f := .glo "check_ways") rfl)) rfl ok35 FD fun F => F.bindsN fun _ _ _ _ _ _ us hl => match us, hl with | [_, _], _ => rfl,
    gl_fn (F := F36) (d := d36) rfl rfl rfl (He.glo_ok X Gn (c.fact 50 (f := .glo "reached_from") rfl)) rfl ok36 FD fun F => F.bindsN fun _ _ _ _ _ _ us hl => match us, hl with | [_, _, _], _ => rfl,
    gl_fn (F := F37) (d := d37) rfl rfl rfl (He.glo_ok X Gn (c.fact 51 (f := .glo "leaving_rows") rfl)) rfl ok37 FD fun F => F.bindsN fun _ _ _ _ _ _ us hl => match us, hl with | [_, _], _ => rfl,
    gl_cls (q := C1) (F := F38) (d := d38) rfl rfl rfl rfl (He.glo_ok X Gn (c.fact 52 (f := .glo "Town") rfl)) rfl rfl (He.mkr_ok (c.fact 53 (f := .mkr "Town") rfl)) ok38 FD (fun F => ⟨(fun z => nomatch z), (fun p hp => by
        have e : p = ((3, ["slips"]) : Nat × List PySem.Str) := by simpa using hp
        subst e
        obtain ⟨mv, kb⟩ := F.kbinds0 (ps := d38.ps) 4 ["slips"] [] (fun {α} (us : List α) _ ws => us ++ ws) (by simp [He.DefD.kws, d38]) (fun q hq => nomatch hq) (fun r1 _ r3 => r1.append r3) fun D doc pm an cdv ct us mv ws h1 h2 h3 => match us, h1, mv, h2, ws, h3 with
          | [_, _, _, _], _, [], _, [_], _ => rfl
        exact ⟨rfl, _, kb⟩)⟩),
    gl_fn (F := F39) (d := d39) rfl rfl rfl (He.glo_ok X Gn (c.fact 54 (f := .glo "checked_people") rfl)) rfl ok39 FD fun F => F.bindsN fun _ _ _ _ _ _ us hl => match us, hl with | [_], _ => rfl,
    gl_fn (F := F40) (d := d40) rfl rfl rfl (He.glo_ok X Gn (c.fact 55 (f := .glo "checked_customs") rfl)) rfl ok40 FD fun F => F.bindsN fun _ _ _ _ _ _ us hl => match us, hl with | [_, _], _ => rfl,
    gl_fn (F := F41) (d := d41) rfl rfl rfl (He.glo_ok X Gn (c.fact 56 (f := .glo "are_customs") rfl)) rfl ok41 FD fun F => F.bindsN fun _ _ _ _ _ _ us hl => match us, hl with | [_], _ => rfl,
    gl_int X Gn (c.fact 57 (f := .int "MOST_CUSTOMS" 4) rfl) rfl,
    gl_int X Gn (c.fact 58 (f := .int "MOST_ROWS" 16) rfl) rfl,
    gl_fn (F := F42) (d := d42) rfl rfl rfl (He.glo_ok X Gn (c.fact 59 (f := .glo "checked_worths") rfl)) rfl ok42 FD fun F => F.bindsN fun _ _ _ _ _ _ us hl => match us, hl with | [_, _], _ => rfl,
    gl_fn (F := F43) (d := d43) rfl rfl rfl (He.glo_ok X Gn (c.fact 60 (f := .glo "is_worth") rfl)) rfl ok43 FD fun F => F.bindsN fun _ _ _ _ _ _ us hl => match us, hl with | [_, _], _ => rfl,
    gl_int X Gn (c.fact 61 (f := .int "MOST_WORTH" 10) rfl) rfl,
    gl_fn (F := F44) (d := d44) rfl rfl rfl (He.glo_ok X Gn (c.fact 62 (f := .glo "_law_town_steps") rfl)) rfl ok44 FD fun F => F.bindsN fun _ _ _ _ _ _ us hl => match us, hl with | [_], _ => rfl,
    gl_fn (F := F45) (d := d45) rfl rfl rfl (He.glo_ok X Gn (c.fact 63 (f := .glo "_law_rows") rfl)) rfl ok45 FD fun F => F.bindsN fun _ _ _ _ _ _ us hl => match us, hl with | [_], _ => rfl,
    gl_fn (F := F46) (d := d46) rfl rfl rfl (He.glo_ok X Gn (c.fact 64 (f := .glo "_law_worths") rfl)) rfl ok46 FD fun F => F.bindsN fun _ _ _ _ _ _ us hl => match us, hl with | [_, _, _], _ => rfl,
    gl_fn (F := F47) (d := d47) rfl rfl rfl (He.glo_ok X Gn (c.fact 65 (f := .glo "_law_worth") rfl)) rfl ok47 FD fun F => F.bindsN fun _ _ _ _ _ _ us hl => match us, hl with | [_, _, _], _ => rfl,
    gl_fn (F := F48) (d := d48) rfl rfl rfl (He.glo_ok X Gn (c.fact 66 (f := .glo "_law_with") rfl)) rfl ok48 FD fun F => F.bindsN fun _ _ _ _ _ _ us hl => match us, hl with | [_, _, _], _ => rfl,
    gl_fn (F := F49) (d := d49) rfl rfl rfl (He.glo_ok X Gn (c.fact 67 (f := .glo "_law_is_ratio") rfl)) rfl ok49 FD fun F => F.bindsN fun _ _ _ _ _ _ us hl => match us, hl with | [_, _], _ => rfl,
    gl_fn (F := F50) (d := d50) rfl rfl rfl (He.glo_ok X Gn (c.fact 68 (f := .glo "_law_whole") rfl)) rfl ok50 FD fun F => F.bindsN fun _ _ _ _ _ _ us hl => match us, hl with | [_], _ => rfl, trivial⟩
theorem flds (c : He.SaysD fa (ds.map (·.d)) K) : Flds K cn nm.AN nm.T.cls := ⟨fun f hf => by
      have e : f = 0 ∨ f = 1 ∨ f = 2 ∨ f = 3 := by simpa [C0] using hf
      exact ⟨He.cls_ok (c.fact 69 (f := .cls "Machine") rfl), by
        rcases e with rfl | rfl | rfl | rfl
        · exact He.noat_ok (c.fact 70 (f := .noat "Machine" "names") rfl)
        · exact He.noat_ok (c.fact 71 (f := .noat "Machine" "steps") rfl)
        · exact He.noat_ok (c.fact 72 (f := .noat "Machine" "first") rfl)
        · exact He.noat_ok (c.fact 73 (f := .noat "Machine" "leaving") rfl)⟩,
  fun f hf => by
      have e : f = 4 ∨ f = 5 ∨ f = 6 ∨ f = 7 := by simpa [C1] using hf
      exact ⟨He.cls_ok (c.fact 74 (f := .cls "Town") rfl), by
        rcases e with rfl | rfl | rfl | rfl
        · exact He.noat_ok (c.fact 75 (f := .noat "Town" "people") rfl)
        · exact He.noat_ok (c.fact 76 (f := .noat "Town" "customs") rfl)
        · exact He.noat_ok (c.fact 77 (f := .noat "Town" "worths") rfl)
        · exact He.noat_ok (c.fact 78 (f := .noat "Town" "slips") rfl)⟩,
  trivial⟩
end
abbrev R : PySem.W.OpenRow := PySem.W.OpenLaw.row PySem.Challenge.rw_rareslips_k83_town_machines
abbrev hk : PySem.W.Hook := hookP 5 fa (ds.map (·.d)) tp
def ob (s : PySem.W.SharedT) : He.AlD := obsPG 5 fa (ds.map (·.d)) tp (HandSHeadRun.getT s)
theorem ob_eq (s : PySem.W.SharedT) : ob s = hk.obs s.abs := obsPG_eq (HandSHeadRun.getT_eq s)
def loose : List PySem.Str := (["_wall", "SlipError", "NoStates", "ZeroBottom", "BadName", "BadStep", "BadFirst", "TooMuch", "NoWay", "NoSuchName", "TooMany", "BadCustom", "BadWorth", "BadSlips", "LETTERS", "DIGITS", "is_whole", "frozen", "is_name", "is_row", "ZERO", "ONE", "lowest", "plus", "times"] : List PySem.Str) ++ (["raised", "compare", "is_ratio", "is_positive", "MOST_COST", "Machine", "checked_names", "is_state", "is_step", "checked_steps", "step_chance", "chance_out", "reached_from", "check_ways", "leaving_rows", "MOST_ROWS", "MOST_CUSTOMS", "MOST_WORTH", "Town", "checked_people", "are_customs", "checked_customs", "row_count", "is_worth", "checked_worths"] : List PySem.Str) ++ (["row_of", "number_of", "every_row", "with_custom", "worth_of", "worth_row", "best", "even_step", "loss_step", "town_steps", "town_machine", "_law_whole", "_law_cell", "_law_digits", "_law_is_ratio", "_law_town", "_law_people", "_law_rows", "_law_with", "_law_worth", "_law_worths", "_law_town_steps"] : List PySem.Str)
noncomputable abbrev WW (w : World) := HandSHeadRun.wholeF (fun p => HandSHeadRun.stepQ (HandSHeadRun.denQ HandSHeadRun.tabQ) p w) HandSHeadRun.fenceQ 6000 R.prog
abbrev vw : Program := PySem.W.view R.prog [0, 81]
theorem run1 (w : World) : (WW w).map (fun x => HandSHeadRun.looksF R.prog x.1.heap x.2.abs) = some true := by kernel_rfl
theorem run2 (w : World) : (WW w).map (fun x => HandSHeadRun.seenQ vw loose (PySem.importedModules R.prog.main.body) (fun s => PySem.W.xlAt vw [] s && PySem.W.recOk R.toRowW.records s) x.2.abs) = some (PySem.W.openGood vw loose) := by kernel_rfl
theorem run3 (w : World) : (WW w).map (fun x => (ob x.2).1) = some true := by kernel_rfl
theorem run4 (w : World) : (WW w).map (fun x => (ob x.2).2) = some (He.valD (ds.map (·.d))).2 := by kernel_rfl
theorem run (w : World) : HandSHeadRun.RunEqI R vw hk ob 6000 loose w := by
  have r1 := run1 w
  have r2 := run2 w
  have r3 := run3 w
  have r4 := run4 w
  unfold HandSHeadRun.RunEqI
  cases h : WW w with
  | none => rw [h] at r1; cases r1
  | some x =>
    rw [h] at r1 r2 r3 r4
    rw [show HandSHeadRun.wholeF (fun p => HandSHeadRun.stepQ (HandSHeadRun.denQ HandSHeadRun.tabQ) p w) HandSHeadRun.fenceQ 6000 R.prog = some x from h]
    have e1 := Option.some.inj r1
    have e2 := Option.some.inj r2
    have e3 := Option.some.inj r3
    have e4 := Option.some.inj r4
    show some (_, _, _) = some (_, _, _)
    exact congrArg some (Prod.ext e1 (Prod.ext e2 (Prod.ext e3 e4)))
theorem facts {n : Nat} (law : ∀ ns : List Int, ns.length ≤ 63 → calN T 1000 n (.fn 0) [.scr ns] = .ok (.bl true)) {P : Program} {w : World} {K : PySem.W.Frag} {h : Heap} {mg : Str → Option Value} {f : Addr} (X : K.In h) (Gn : h.Ns mainGlobals mg) (hfa : mg ("law" : Str) = some (.ref f)) (c0 : SaysP fa (ds.map (·.d)) tp K) :
    ∃ (fd : FuncData) (sp : Sp), (∀ (s : Shared) (v : Value), BindsTo s fd ⟨[v], []⟩ [("script", v)]) ∧ (∀ (H : Hp) (a : Addr) (ns : List Int), ns.length ≤ 63 → SqL K H a (ns.map V.int) → sp [.ref a] H (fun v _ => v = .bl true) fun _ _ _ => False) ∧
      ∀ base : Heap, FnOk P w K mg base L2.CX0 n f fd ["script"] sp := by
  have c := c0.d
  obtain ⟨fD, FD⟩ := fd_choose c
  have pf : PF mg (lxOf K cn nm.AN) nm rt (ds.map (DI.fi K)) (fAof K ds) fD 40 20 := pf_of (by decide +kernel) (by decide +kernel) FD reads (lookup_all (glob X Gn c0 c FD)) (flds c) (isF_none (by decide +kernel))
  have e := hfa.symm.trans (He.glo_ok X Gn (c.fact 0 (f := .glo "law") rfl))
  cases e
  have F0' := FD 0 d0 rfl
  refine ⟨fD 0, fun vs H Q _ => spD (lxOf K cn nm.AN) nm.T rt (calN nm.T 1000 n) 0 1 vs H Q fun _ _ _ => False, bind1 (fun s us hl => FunD.bindsA (ps := ["script"]) F0' (fun _ _ _ _ _ _ us hl => match us, hl with | [_], _ => rfl) s us hl) rfl, fun H a ns hl hS => law_sp hS (law ns hl), fun base => ok_cx0 (law_ok pf (i := 0) (d := d0) rfl rfl rfl ok0)⟩
end LX
section
open PySem PySem.W PySem.Calls PyProof.Rows
theorem LX.holds_of {n : Nat} (hr : L2.Room n callerA) (law : ∀ ns : List Int, ns.length ≤ 63 → PV.calN LW.T 1000 n (.fn 0) [.scr ns] = .ok (.bl true)) : PySem.Challenge.rw_rareslips_k83_town_machines.Holds := by
  w_on; o_law
  refine HandSHeadRun.head_imp (r := OpenLaw.row PySem.Challenge.rw_rareslips_k83_town_machines) (q := view (OpenLaw.row PySem.Challenge.rw_rareslips_k83_town_machines).prog [0, 81]) (H := LX.hk) (ob := LX.ob) (M := 6000) (loose := LX.loose) (d := HandSHeadRun.topDef (OpenLaw.row PySem.Challenge.rw_rareslips_k83_town_machines).prog 81) (kwd := []) LX.ob_eq
    LX.run (by kernel_rfl) (by kernel_rfl) (by kernel_rfl) (by rfl) (by first | assumption | decide +kernel) (by decide +kernel) ⟨rfl, rfl, rfl, rfl, rfl, by decide +kernel⟩ ?hw ?hc
  case hw => w_witness2
  case hc =>
    refine L2.walk_ofE (l := PySem.Challenge.rw_rareslips_k83_town_machines) (n := 63) (k := n) (x := "script") (CX := L2.CX0) rfl (by decide) (by kernel_rfl) hr ?F (fun _ _ _ _ z => z)
    intro w mg fa h Y G hmg0
    obtain ⟨K, KX, c⟩ := Y
    have hmg : mg ("law" : PySem.Str) = some (.ref fa) := by
      have e : (HandSHeadRun.topDef (OpenLaw.row PySem.Challenge.rw_rareslips_k83_town_machines).prog 81).name = ("law" : PySem.Str) := by kernel_rfl
      rw [← e]
      exact hmg0
    obtain ⟨fd, sp, hb, hsp, hF⟩ := LX.facts law (P := (PySem.Challenge.rw_rareslips_k83_town_machines).prog) (w := w) KX G hmg c
    exact ⟨K, fd, sp, KX, hb, fun H a ns hl _ hS => hsp H a ns hl hS, fun base _ _ => hF base⟩
end
/-! Plain laws, part 1: runs of the language; _law_cell, _law_digits. -/
namespace PV
/-- a for runs through: I tells what holds with the rest of the items ahead -/
theorem forL_I {t : Tg} {body : En → R (Fl × En)} {I : List D → En → Prop}
    (hs : ∀ x xs ρ, I (x :: xs) ρ → ∃ ρ1 ρ2, setT t x ρ = .ok ρ1 ∧ body ρ1 = .ok (.next, ρ2) ∧ I xs ρ2) : ∀ xs ρ, I xs ρ → ∃ ρ', forL t body xs ρ = .ok (.next, ρ') ∧ I [] ρ' := by
  intro xs
  induction xs with
  | nil => exact fun ρ h => ⟨ρ, rfl, h⟩
  | cons x xs ih =>
    intro ρ h
    obtain ⟨ρ1, ρ2, h1, h2, h3⟩ := hs x xs ρ h
    obtain ⟨ρ', h4, h5⟩ := ih ρ2 h3
    refine ⟨ρ', ?_, h5⟩
    show (setT t x ρ >>= fun ρ1 => body ρ1 >>= fun q => match q with
      | (.next, ρ2) => forL t body xs ρ2
      | (.cont, ρ2) => forL t body xs ρ2
      | (.brk, ρ2) => R.ok (Fl.next, ρ2)
      | (.ret d, ρ2) => R.ok (Fl.ret d, ρ2)) = _
    rw [h1]
    show (body ρ1 >>= _) = _
    rw [h2]
    exact h4
section
variable {T : Tab} {wf n i : Nat}
/-- a call runs the body -/
theorem call_run {F : Fn} {ds : List D} (hF : T.fns[i]? = some F) (hl : ds.length = F.np) : calN T wf (n + 2) (.fn i) ds = (exSs T (calN T wf (n + 1)) wf (startE F.ns ds) F.body >>= fun q => match q with
      | (.ret d, _) => R.ok d
      | (.next, _) => R.ok .non
      | _ => .bad) := by
  have e : calN T wf (n + 2) (.fn i) ds = ((bodyD T (calN T wf (n + 1)) wf F ds) >>= fun q => match q with
      | (.ret d, _) => R.ok d
      | (.next, _) => R.ok .non
      | _ => .bad) := by
    show (match T.fns[i]? with
      | some F => (bodyD T (calN T wf (n + 1)) wf F ds) >>= fun q => match q with
        | (.ret d, _) => R.ok d
        | (.next, _) => R.ok .non
        | _ => .bad
      | none => .bad) = _
    rw [hF]
  rw [e]
  have : bodyD T (calN T wf (n + 1)) wf F ds = exSs T (calN T wf (n + 1)) wf (startE F.ns ds) F.body := by
    unfold bodyD
    rw [if_neg (by rw [List.length_append]; omega), if_neg (by omega), hl, Nat.sub_self, Nat.sub_zero, List.drop_length, List.append_nil]
  rw [this]
theorem ss_next {call : Cal → List D → R D} {s : S} {ss : Ss} {ρ ρ' : En} (h : exS T call wf ρ s = .ok (.next, ρ')) : exSs T call wf ρ (.cons s ss) = exSs T call wf ρ' ss := by
  show (exS T call wf ρ s >>= fun q => match q with
    | (.next, ρ1) => exSs T call wf ρ1 ss
    | r => R.ok r) = _
  rw [h]
  rfl
theorem ss_ret {call : Cal → List D → R D} {s : S} {ss : Ss} {ρ ρ' : En} {d : D} (h : exS T call wf ρ s = .ok (.ret d, ρ')) : exSs T call wf ρ (.cons s ss) = .ok (.ret d, ρ') := by
  show (exS T call wf ρ s >>= fun q => match q with
    | (.next, ρ1) => exSs T call wf ρ1 ss
    | r => R.ok r) = _
  rw [h]
  rfl
theorem s_for_eq {call : Cal → List D → R D} {t : Tg} {it : It} {b : Ss} {ρ ρ' : En} {xs : List D} (h : evIt T call ρ it = .ok xs) (h2 : forL t (fun ρ => exSs T call wf ρ b) xs ρ = .ok (.next, ρ')) : exS T call wf ρ (.for_ t it b) = .ok (.next, ρ') := by
  show (evIt T call ρ it >>= fun xs => forL t (fun ρ => exSs T call wf ρ b) xs ρ) = _
  rw [h]
  exact h2
theorem s_ife_eq {call : Cal → List D → R D} {c : E} {a b : Ss} {ρ : En} {k : Bool} (h : evE T call ρ c = .ok (.bl k)) : exS T call wf ρ (.ife c a b) = if k then exSs T call wf ρ a else exSs T call wf ρ b := by
  show (evE T call ρ c >>= fun d => bool_ d >>= fun k => if k = true then exSs T call wf ρ a else exSs T call wf ρ b) = _
  rw [h]
  rfl
theorem s_asg_eq {call : Cal → List D → R D} {i : Nat} {e : E} {ρ : En} {d : D} (h : evE T call ρ e = .ok d) : exS T call wf ρ (.asg (.one i) e) = .ok (.next, ρ.set i (some d)) := by
  show (evE T call ρ e >>= fun d => setT (.one i) d ρ >>= fun ρ' => R.ok (Fl.next, ρ')) = _
  rw [h]
  rfl
theorem s_ret_eq {call : Cal → List D → R D} {e : E} {ρ : En} {d : D} (h : evE T call ρ e = .ok d) : exS T call wf ρ (.ret e) = .ok (.ret d, ρ) := by
  show (evE T call ρ e >>= fun d => R.ok (Fl.ret d, ρ)) = _
  rw [h]
  rfl
theorem it_rng1 {call : Cal → List D → R D} {a : E} {ρ : En} {k : Int} {xs : List D} (h : evE T call ρ a = .ok (.int k)) (h2 : rngD 0 k = .ok xs) : evIt T call ρ (.rng1 a) = .ok xs := by
  show (evE T call ρ a >>= fun d => match d with
    | .int hi => rngD 0 hi
    | _ => .bad) = _
  rw [h]
  exact h2
theorem it_seq {call : Cal → List D → R D} {a : E} {ρ : En} {d : D} {xs : List D} (h : evE T call ρ a = .ok d) (h2 : itemsD d = .ok xs) : evIt T call ρ (.seq a) = .ok xs := by
  show (evE T call ρ a >>= itemsD) = _
  rw [h]
  exact h2
theorem ev_nil {call : Cal → List D → R D} {ρ : En} : evE T call ρ (.lst .nil) = .ok (.lst []) := by
  show (if ([] : List D).length ≤ PySem.sizeLine then R.ok (D.lst []) else R.bad) = _
  exact if_pos (Nat.zero_le _)
/-! ### _law_cell -/
def lCell : Ss := (.cons (.asg (.one 2) (.bin .mod (.bi .int (.cons (.bin .add (.bin .mul (.var 2) (.lit (.int 31))) (.bin .mod (.bi .int (.cons (.var 3) .nil)) (.lit (.int 1000003)))) .nil)) (.lit (.int 1000003)))) .nil)
def bCell : Ss := (.cons (.ife (.cmp .lt (.var 1) (.bi .len (.cons (.var 0) .nil))) (.cons (.ret (.sub (.var 0) (.var 1))) .nil) .nil)
 (.cons (.asg (.one 2) (.lit (.int 17)))
 (.cons (.for_ (.one 3) (.seq (.var 0)) lCell)
 (.cons (.ret (.bin .mod (.bi .int (.cons (.bin .mul (.bin .mul (.bin .add (.var 2) (.lit (.int 7))) (.bin .add (.var 1) (.lit (.int 3)))) (.lit (.int 69621))) .nil)) (.lit (.int 2147483647)))) .nil))))
theorem log_lt {a m : Nat} (h : a < 2 ^ m) (hm : 0 < m) : a.log2 < m := by
  by_cases z : a = 0
  · rw [z]; exact hm
  · exact (Nat.log2_lt z).mpr h
theorem mulOk_of {a b : Int} (h1 : a.natAbs < 2 ^ 200) (h2 : b.natAbs < 2 ^ 200) : mulOk a b = true := by
  have := log_lt h1 (by decide)
  have := log_lt h2 (by decide)
  unfold mulOk
  exact decide_eq_true (by omega)
theorem mul_int {a b : Int} (h1 : a.natAbs < 2 ^ 200) (h2 : b.natAbs < 2 ^ 200) : binD .mul (.int a) (.int b) = .ok (.int (a * b)) := by
  show (if mulOk a b then R.ok (D.int (a * b)) else .bad) = _
  rw [if_pos (mulOk_of h1 h2)]
theorem mod_int {a b : Int} (h : 0 < b) : binD .mod (.int a) (.int b) = .ok (.int (a % b)) := by
  show (if 0 < b then R.ok (D.int (a % b)) else if b ≠ 0 then R.ok (D.int (a.fmod b)) else .bad) = _
  rw [if_pos h]
theorem add_int {a b : Int} : binD .add (.int a) (.int b) = .ok (.int (a + b)) := rfl
theorem sub_int {a b : Int} : binD .sub (.int a) (.int b) = .ok (.int (a - b)) := rfl
theorem div_int {a b : Int} (h : 0 < b) (h2 : b.natAbs < 2 ^ 200) : binD .fdiv (.int a) (.int b) = .ok (.int (a / b)) := by
  have := log_lt h2 (by decide)
  show (if 0 < b ∧ b.natAbs.log2 < 9000 then R.ok (D.int (a / b)) else if b ≠ 0 ∧ b.natAbs < 1073741824 then R.ok (D.int (a.fdiv b)) else .bad) = _
  rw [if_pos ⟨h, by omega⟩]
theorem bi_int1 {a : Int} : biD .int [.int a] = .ok (.int a) := rfl
theorem cell_turn {call : Cal → List D → R D} {ns : List Int} {k s c : Int} (hs : 0 ≤ s ∧ s < 1000003) :
    exSs T call wf [some (.scr ns), some (.int k), some (.int s), some (.int c)] lCell =
      .ok (.next, [some (.scr ns), some (.int k), some (.int ((s * 31 + c % 1000003) % 1000003)), some (.int c)]) := by
  have e : binD .mul (.int s) (.int 31) = .ok (.int (s * 31)) := mul_int (by omega) (by decide)
  simp only [lCell, exSs, exS, evE, evEs, rdV, List.getElem?_cons_zero, List.getElem?_cons_succ, R.ok_bind, e, bi_int1, mod_int (show (0 : Int) < 1000003 by decide), add_int, setT, List.set_cons_succ, List.set_cons_zero]
end
/-- .. by the turn's number -/
theorem forL_N {t : Tg} {body : En → R (Fl × En)} {I : Nat → En → Prop} {xs : List D}
    (hs : ∀ (j : Nat) (x : D) (ρ : En), xs[j]? = some x → I j ρ → ∃ ρ1 ρ2, setT t x ρ = .ok ρ1 ∧ body ρ1 = .ok (.next, ρ2) ∧ I (j + 1) ρ2) {ρ : En} (h : I 0 ρ) : ∃ ρ', forL t body xs ρ = .ok (.next, ρ') ∧ I xs.length ρ' := by
  obtain ⟨ρ', h1, j, h2, h3⟩ := forL_I (t := t) (body := body) (I := fun ys ρ => ∃ j, ys = xs.drop j ∧ j ≤ xs.length ∧ I j ρ) (fun y ys ρ ⟨j, e, hj, hI⟩ => by
    have hlt : j < xs.length := by
      by_cases q : j < xs.length
      · exact q
      · rw [List.drop_eq_nil_of_le (by omega)] at e
        cases e
    rw [List.drop_eq_getElem_cons hlt] at e
    obtain ⟨rfl, rfl⟩ := List.cons.inj e
    obtain ⟨ρ1, ρ2, a, b, c⟩ := hs j xs[j] ρ (by simp [hlt]) hI
    exact ⟨ρ1, ρ2, a, b, j + 1, rfl, hlt, c⟩) xs ρ ⟨0, rfl, Nat.zero_le _, h⟩
  have : j = xs.length := by
    have h2' : xs.drop j = [] := h2.symm
    have := List.drop_eq_nil_iff.mp h2'
    omega
  subst this
  exact ⟨ρ', h1, h3.2⟩
theorem atI_of {α : Type} {xs : List α} {k : Int} (h0 : 0 ≤ k) (h1 : k < xs.length) : ∃ x, L2.atI xs k = some x ∧ xs[k.toNat]? = some x := by
  have hl : k.toNat < xs.length := by omega
  refine ⟨xs[k.toNat], ?_, by simp [hl]⟩
  unfold L2.atI L2.ixN
  rw [if_pos h0, if_pos h1]
  simp [hl]
theorem rng_get {n : Int} {j : Nat} {x : D} (h : ((List.range (n - 0).toNat).map fun k => D.int (0 + (k : Nat)))[j]? = some x) : x = .int j ∧ (j : Int) < n := by
  rw [List.getElem?_map] at h
  by_cases q : j < (n - 0).toNat
  · rw [List.getElem?_range q] at h
    cases h
    exact ⟨by simp, by omega⟩
  · rw [List.getElem?_eq_none (by simpa using q)] at h
    cases h
theorem rng_len {n : Int} (h : 0 ≤ n) : ((List.range (n - 0).toNat).map fun k => D.int (0 + (k : Nat))).length = n.toNat := by simp
theorem rngD_of {n : Int} (h : n < 2 ^ 62) (h0 : 0 ≤ n) : rngD 0 n = .ok ((List.range (n - 0).toNat).map fun k => .int (0 + (k : Nat))) := by
  unfold rngD
  rw [if_pos ⟨by decide, by decide, by omega, h⟩]
section
variable {T : Tab} {wf n i : Nat}
theorem cell_ok (hF : T.fns[i]? = some ⟨2, 4, [], bCell⟩) (ns : List Int) {k : Int} (h0 : 0 ≤ k) (h1 : k < 2 ^ 20) : ∃ c : Int, calN T wf (n + 2) (.fn i) [.scr ns, .int k] = .ok (.int c) := by
  rw [call_run hF rfl]
  have e0 : startE 4 [D.scr ns, .int k] = [some (.scr ns), some (.int k), none, none] := rfl
  by_cases hk : k < ns.length
  · obtain ⟨c, hc, _⟩ := atI_of h0 hk
    refine ⟨c, ?_⟩
    have e1 : cmpD .lt (.int k) (.int (ns.length : Int)) = .ok true := by
      show R.ok (decide (k < (ns.length : Int))) = _
      rw [decide_eq_true hk]
    have e2 : biD .len [.scr ns] = .ok (.int ns.length) := rfl
    have e3 : subD (.scr ns) (.int k) = .ok (.int c) := by
      show R.of ((L2.atI ns k).map D.int) = _
      rw [hc]
      rfl
    simp only [bCell, e0, exSs, exS, evE, evEs, rdV, List.getElem?_cons_zero, List.getElem?_cons_succ, R.ok_bind, e1, e2, e3, bool_, if_true]
  · have e1 : cmpD .lt (.int k) (.int (ns.length : Int)) = .ok false := by
      show R.ok (decide (k < (ns.length : Int))) = _
      rw [decide_eq_false hk]
    have e2 : biD .len [.scr ns] = .ok (.int ns.length) := rfl
    obtain ⟨ρ', hl, s, o, hs, rfl⟩ := forL_N (t := .one 3) (body := fun ρ => exSs T (calN T wf (n + 1)) wf ρ lCell)
      (xs := ns.map D.int) (I := fun _ ρ => ∃ (s : Int) (o : Option D), (0 ≤ s ∧ s < 1000003) ∧ ρ = [some (.scr ns), some (.int k), some (.int s), o]) (ρ := [some (.scr ns), some (.int k), some (.int 17), none])
      (fun j x ρ hx ⟨s, o, hs, e⟩ => by
        subst e
        rw [List.getElem?_map] at hx
        cases q : ns[j]? with
        | none => rw [q] at hx; cases hx
        | some c =>
          rw [q] at hx
          cases hx
          exact ⟨_, _, rfl, cell_turn hs, _, _, by omega, rfl⟩) ⟨17, none, by decide, rfl⟩
    have e3 : itemsD (.scr ns) = .ok (ns.map D.int) := rfl
    refine ⟨(((s + 7) * (k + 3)) * 69621) % 2147483647, ?_⟩
    have e4 : binD .mul (.int (s + 7)) (.int (k + 3)) = .ok (.int ((s + 7) * (k + 3))) := mul_int (by omega) (by omega)
    have hb : ((s + 7) * (k + 3)).natAbs < 2 ^ 200 := by
      rw [Int.natAbs_mul]
      have h1 : (s + 7).natAbs ≤ 2 ^ 20 := by omega
      have h2 : (k + 3).natAbs ≤ 2 ^ 21 := by omega
      exact Nat.lt_of_le_of_lt (Nat.mul_le_mul h1 h2) (by decide)
    have e5 : binD .mul (.int ((s + 7) * (k + 3))) (.int 69621) = .ok (.int ((s + 7) * (k + 3) * 69621)) := mul_int hb (by decide)
    simp only [bCell, e0, exSs, exS, evE, evEs, evIt, rdV, List.getElem?_cons_zero, List.getElem?_cons_succ, R.ok_bind, e1, e2, e3, e4, e5, bool_, setT, List.set_cons_succ, List.set_cons_zero, hl, add_int, bi_int1, mod_int (show (0 : Int) < 2147483647 by decide), Bool.false_eq_true, if_false]
end
end PV
/-! Plain laws, part 2: _law_digits. -/
namespace PV
open PySem PySem.Spec PyProof.Rows L2
def lDigA : Ss := (.cons (.app 2 .nil (.bin .mod (.bi .int (.cons (.var 3) .nil)) (.var 4))) (.cons (.asg (.one 3) (.bin .fdiv (.bi .int (.cons (.var 3) .nil)) (.var 4))) .nil))
def lDigB : Ss := (.cons (.asg (.one 5) (.bin .mod (.bi .int (.cons (.bin .add (.bin .add (.bin .mul (.var 5) (.lit (.int 48271))) (.bin .mul (.lit (.int 974711)) (.var 6))) (.lit (.int 12345))) .nil)) (.lit (.int 2147483647))))
  (.cons (.asg (.one 7) (.bin .mod (.bi .int (.cons (.bin .mul (.var 5) (.bin .add (.bin .fdiv (.var 5) (.lit (.int 65537))) (.lit (.int 3)))) .nil)) (.lit (.int 2147483629))))
  (.cons (.app 2 .nil (.bin .mod (.bin .fdiv (.var 7) (.lit (.int 19))) (.sub (.var 1) (.var 6)))) .nil)))
def bDig : Ss := (.cons (.asg (.one 2) (.lst .nil))
 (.cons (.asg (.one 3) (.bi .int (.cons (.var 0) .nil)))
 (.cons (.ife (.cmp .ge (.var 3) (.bin .pow (.lit (.int 10)) (.lit (.int 18)))) (.cons (.asg (.one 3) (.bin .sub (.var 3) (.bin .pow (.lit (.int 10)) (.lit (.int 18)))))
  (.cons (.for_ (.one 4) (.seq (.var 1)) lDigA)
  (.cons (.ret (.var 2)) .nil))) .nil)
 (.cons (.asg (.one 5) (.bin .mod (.bi .int (.cons (.var 3) .nil)) (.lit (.int 2147483629))))
 (.cons (.for_ (.one 6) (.rng1 (.bi .len (.cons (.var 1) .nil))) lDigB)
 (.cons (.ret (.var 2)) .nil))))))
/-- digits below their sizes -/
structure DigOk (S R : List Int) : Prop where
  len : R.length = S.length
  at_ : ∀ (k : Nat) (r s : Int), R[k]? = some r → S[k]? = some s → 0 ≤ r ∧ r < s
structure DigP (S R : List Int) (j : Nat) : Prop where
  len : R.length = j
  at_ : ∀ (k : Nat) (r s : Int), R[k]? = some r → S[k]? = some s → 0 ≤ r ∧ r < s
theorem DigP.add {S R : List Int} {j : Nat} {s a : Int} (h : DigP S R j) (hs : S[j]? = some s) (hp : 0 < s) : DigP S (R ++ [a % s]) (j + 1) where
  len := by rw [List.length_append, h.len]; rfl
  at_ := fun k r s' h1 h2 => by
    rcases get_append_one h1 with ⟨_, h1⟩ | ⟨e, h1⟩
    · exact h.at_ k r s' h1 h2
    · rw [h.len] at e
      subst e
      rw [hs] at h2
      cases h2
      rw [h1]
      exact ⟨Int.emod_nonneg _ (by omega), Int.emod_lt_of_pos _ hp⟩
theorem app_int {R : List Int} {a : Int} (h : R.length < sizeLine) : appPath (.lst (R.map D.int)) [] (.int a) = .ok (.lst ((R ++ [a]).map D.int)) := by
  show (if (R.map D.int).length < sizeLine then PV.R.ok (D.lst (R.map D.int ++ [.int a])) else PV.R.bad) = _
  rw [if_pos (by simpa using h), List.map_append]
  rfl
theorem gp_lst {xs : List D} : getPath (.lst xs) [] = .ok (.lst xs) := rfl
theorem pow18 : binD .pow (.int 10) (.int 18) = .ok (.int 1000000000000000000) := by rfl
theorem ge_int {a b : Int} : cmpD .ge (.int a) (.int b) = .ok (decide (b ≤ a)) := rfl
theorem len_lst {xs : List D} : biD .len [.lst xs] = .ok (.int xs.length) := rfl
section
variable {T : Tab} {wf n i : Nat}
theorem digA_turn {call : Cal → List PV.D → PV.R PV.D} {c rest s : Int} {S R1 : List Int} {o : Option PV.D} (hp : 0 < s) (hs : s < 1000) (hz : R1.length < sizeLine) :
    exSs T call wf [some (.int c), some (.lst (S.map D.int)), some (.lst (R1.map D.int)), some (.int rest), some (.int s), none, none, none] lDigA =
      .ok (.next, [some (.int c), some (.lst (S.map D.int)), some (.lst ((R1 ++ [rest % s]).map D.int)), some (.int (rest / s)), some (.int s), none, none, none]) := by
  have a := app_int (a := rest % s) hz
  have m := mod_int (a := rest) hp
  have d := div_int (a := rest) hp (show s.natAbs < 2 ^ 200 by omega)
  simp only [lDigA, exSs, exS, evE, evEs, rdV, List.getElem?_cons_zero, List.getElem?_cons_succ, List.set_cons_succ, List.set_cons_zero, R.ok_bind, bi_int1, gp_lst, m, d, a, setT]
theorem digB_turn {call : Cal → List PV.D → PV.R PV.D} {c sd : Int} {S R1 : List Int} {j : Nat} {o7 : Option PV.D} (hsd : 0 ≤ sd ∧ sd < 2147483647) (hj : j < 1000) {s : Int} (hs : S[j]? = some s) (hp : 0 < s) (hz : R1.length < sizeLine) :
    ∃ t w : Int, (0 ≤ t ∧ t < 2147483647) ∧ exSs T call wf [some (.int c), some (.lst (S.map D.int)), some (.lst (R1.map D.int)), some (.int c), none, some (.int sd), some (.int (j : Int)), o7] lDigB =
      .ok (.next, [some (.int c), some (.lst (S.map D.int)), some (.lst ((R1 ++ [(w / 19) % s]).map D.int)), some (.int c), none, some (.int t), some (.int (j : Int)), some (.int w)]) := by
  have m1 : binD .mul (.int sd) (.int 48271) = .ok (.int (sd * 48271)) := mul_int (by omega) (by decide)
  have m2 : binD .mul (.int 974711) (.int (j : Int)) = .ok (.int (974711 * j)) := mul_int (by decide) (by omega)
  have m4 := mod_int (a := sd * 48271 + 974711 * (j : Int) + 12345) (b := 2147483647) (by decide)
  obtain ⟨t, ht⟩ : ∃ t, t = (sd * 48271 + 974711 * (j : Int) + 12345) % 2147483647 := ⟨_, rfl⟩
  rw [← ht] at m4
  have ht2 : 0 ≤ t ∧ t < 2147483647 := by omega
  have m5 := div_int (a := t) (b := 65537) (by decide) (by decide)
  have m3 : binD .mul (.int t) (.int (t / 65537 + 3)) = .ok (.int (t * (t / 65537 + 3))) := mul_int (by omega) (by omega)
  have m6 := mod_int (a := t * (t / 65537 + 3)) (b := 2147483629) (by decide)
  obtain ⟨w, hw⟩ : ∃ w, w = (t * (t / 65537 + 3)) % 2147483629 := ⟨_, rfl⟩
  rw [← hw] at m6
  have m7 := div_int (a := w) (b := 19) (by decide) (by decide)
  have m8 := mod_int (a := w / 19) hp
  have a := app_int (a := w / 19 % s) hz
  have e5 : subD (.lst (S.map D.int)) (.int (j : Int)) = .ok (.int s) := by
    have q : L2.atI (S.map D.int) (j : Int) = some (.int s) := atI_nat (by rw [List.getElem?_map, hs]; rfl)
    show PV.R.of (L2.atI (S.map D.int) (j : Int)) = _
    rw [q]
    rfl
  refine ⟨t, w, ht2, ?_⟩
  simp only [lDigB, exSs, exS, evE, evEs, rdV, List.getElem?_cons_zero, List.getElem?_cons_succ, List.set_cons_succ, List.set_cons_zero, R.ok_bind, bi_int1, gp_lst, m1, m2, add_int, m4, m5, m3, m6, m7, m8, e5, a, setT]
theorem digits_a (hF : T.fns[i]? = some ⟨2, 8, [], bDig⟩) (c : Int) (S : List Int) (hS : ∀ s ∈ S, 0 < s ∧ s < 1000) (hl : S.length < 1000) (hc : 1000000000000000000 ≤ c) : ∃ R : List Int, DigOk S R ∧ calN T wf (n + 2) (.fn i) [.int c, .lst (S.map D.int)] = .ok (.lst (R.map D.int)) := by
  rw [call_run hF rfl]
  have e0 : startE 8 [D.int c, .lst (S.map D.int)] = [some (.int c), some (.lst (S.map D.int)), none, none, none, none, none, none] := rfl
  have hz : S.length < sizeLine := by rw [sizeLine_eq]; omega
  have e1 : decide (1000000000000000000 ≤ c) = true := decide_eq_true hc
  obtain ⟨ρ', hloop, R1, rest, o, hR, rfl⟩ := forL_N (t := .one 4) (body := fun ρ => exSs T (calN T wf (n + 1)) wf ρ lDigA) (xs := S.map D.int)
    (I := fun j ρ => ∃ (R1 : List Int) (rest : Int) (o : Option PV.D), DigP S R1 j ∧ ρ = [some (.int c), some (.lst (S.map D.int)), some (.lst (R1.map D.int)), some (.int rest), o, none, none, none])
    (ρ := [some (.int c), some (.lst (S.map D.int)), some (.lst []), some (.int (c - 1000000000000000000)), none, none, none, none])
    (fun j x ρ hx ⟨R1, rest, o, hR, e⟩ => by
      subst e
      rw [List.getElem?_map] at hx
      cases q : S[j]? with
      | none => rw [q] at hx; cases hx
      | some s =>
        rw [q] at hx
        cases hx
        obtain ⟨hp, hs⟩ := hS s (List.mem_of_getElem? q)
        have hj : j < S.length := (List.getElem?_eq_some_iff.mp q).1
        exact ⟨_, _, rfl, digA_turn (o := o) hp hs (by rw [hR.len]; omega), R1 ++ [rest % s], rest / s, _, hR.add q hp, rfl⟩)
    ⟨[], _, none, ⟨rfl, fun k r s h => by simp at h⟩, rfl⟩
  refine ⟨R1, ⟨by rw [hR.len]; simp, hR.at_⟩, ?_⟩
  have e2 : itemsD (.lst (S.map D.int)) = .ok (S.map D.int) := rfl
  have e3 : (([] : List PV.D).length ≤ sizeLine) = True := eq_true (Nat.zero_le _)
  simp only [bDig, e0, exSs, exS, evE, evEs, evIt, rdV, List.getElem?_cons_zero, List.getElem?_cons_succ, R.ok_bind, e1, e2, e3, bool_, setT, List.set_cons_succ, List.set_cons_zero, pow18, ge_int, sub_int, bi_int1, hloop, if_true]
theorem rng_of {m : Nat} (hl : m < 1000000) : rngD 0 (m : Int) = .ok ((List.range ((m : Int) - 0).toNat).map fun k => D.int (0 + (k : Nat))) :=
  rngD_of (Int.lt_trans (b := 1000000) (by omega) (by decide)) (by omega)
theorem digits_b (hF : T.fns[i]? = some ⟨2, 8, [], bDig⟩) (c : Int) (S : List Int) (hS : ∀ s ∈ S, 0 < s ∧ s < 1000) (hl : S.length < 1000) (hc : ¬ 1000000000000000000 ≤ c) : ∃ R : List Int, DigOk S R ∧ calN T wf (n + 2) (.fn i) [.int c, .lst (S.map D.int)] = .ok (.lst (R.map D.int)) := by
  rw [call_run hF rfl]
  have e0 : startE 8 [D.int c, .lst (S.map D.int)] = [some (.int c), some (.lst (S.map D.int)), none, none, none, none, none, none] := rfl
  have hz : S.length < sizeLine := by rw [sizeLine_eq]; omega
  have e1 : decide (1000000000000000000 ≤ c) = false := decide_eq_false hc
  have m0 := mod_int (a := c) (b := 2147483629) (by decide)
  obtain ⟨sd0, hsd0⟩ : ∃ t, t = c % 2147483629 := ⟨_, rfl⟩
  rw [← hsd0] at m0
  have hsd1 : 0 ≤ sd0 ∧ sd0 < 2147483647 := by omega
  obtain ⟨ρ', hloop, R1, sd, o6, o7, hR, hsd, rfl⟩ := forL_N (t := .one 6) (body := fun ρ => exSs T (calN T wf (n + 1)) wf ρ lDigB) (xs := (List.range (((S.map D.int).length : Int) - 0).toNat).map fun k => D.int (0 + (k : Nat)))
    (I := fun j ρ => ∃ (R1 : List Int) (sd : Int) (o6 o7 : Option PV.D), DigP S R1 j ∧ (0 ≤ sd ∧ sd < 2147483647) ∧ ρ = [some (.int c), some (.lst (S.map D.int)), some (.lst (R1.map D.int)), some (.int c), none, some (.int sd), o6, o7])
    (ρ := [some (.int c), some (.lst (S.map D.int)), some (.lst []), some (.int c), none, some (.int sd0), none, none])
    (fun j x ρ hx ⟨R1, sd, o6, o7, hR, hsd, e⟩ => by
      subst e
      obtain ⟨rfl, hj⟩ := rng_get hx
      have hj : j < S.length := by simpa using hj
      have q3 : S[j]? = some S[j] := by simp [hj]
      obtain ⟨hp, hs⟩ := hS S[j] (List.getElem_mem hj)
      obtain ⟨t, w, ht, he⟩ := digB_turn (T := T) (wf := wf) (call := calN T wf (n + 1)) (c := c) (R1 := R1) (o7 := o7) hsd (show j < 1000 by omega) q3 hp (by rw [hR.len]; omega)
      exact ⟨_, _, rfl, he, R1 ++ [(w / 19) % S[j]], t, _, _, hR.add q3 hp, ht, rfl⟩)
    ⟨[], _, none, none, ⟨rfl, fun k r s h => by simp at h⟩, hsd1, rfl⟩
  refine ⟨R1, ⟨by rw [hR.len]; simp, hR.at_⟩, ?_⟩
  have e2 := rng_of (m := (S.map D.int).length) (by rw [List.length_map]; omega)
  have a1 : exS T (calN T wf (n + 1)) wf [some (.int c), some (.lst (S.map D.int)), none, none, none, none, none, none] (.asg (.one 2) (.lst .nil)) = .ok (.next, [some (.int c), some (.lst (S.map D.int)), some (.lst []), none, none, none, none, none]) := by
    exact s_asg_eq (d := .lst []) ev_nil
  have a2 : exS T (calN T wf (n + 1)) wf [some (.int c), some (.lst (S.map D.int)), some (.lst []), none, none, none, none, none] (.asg (.one 3) (.bi .int (.cons (.var 0) .nil))) = .ok (.next, [some (.int c), some (.lst (S.map D.int)), some (.lst []), some (.int c), none, none, none, none]) :=
    s_asg_eq (d := .int c) rfl
  have a3 : evE T (calN T wf (n + 1)) [some (.int c), some (.lst (S.map D.int)), some (.lst []), some (.int c), none, none, none, none] (.cmp .ge (.var 3) (.bin .pow (.lit (.int 10)) (.lit (.int 18)))) = .ok (.bl false) := by
    simp only [evE, rdV, List.getElem?_cons_zero, List.getElem?_cons_succ, R.ok_bind, pow18, ge_int, e1]
  have a4 : exS T (calN T wf (n + 1)) wf [some (.int c), some (.lst (S.map D.int)), some (.lst []), some (.int c), none, none, none, none] (.asg (.one 5) (.bin .mod (.bi .int (.cons (.var 3) .nil)) (.lit (.int 2147483629)))) = .ok (.next, [some (.int c), some (.lst (S.map D.int)), some (.lst []), some (.int c), none, some (.int sd0), none, none]) := by
    refine s_asg_eq (d := .int sd0) ?_
    simp only [evE, evEs, rdV, List.getElem?_cons_zero, List.getElem?_cons_succ, R.ok_bind, bi_int1, m0]
  have a5 : evIt T (calN T wf (n + 1)) [some (.int c), some (.lst (S.map D.int)), some (.lst []), some (.int c), none, some (.int sd0), none, none] (.rng1 (.bi .len (.cons (.var 1) .nil))) = .ok ((List.range (((S.map D.int).length : Int) - 0).toNat).map fun k => D.int (0 + (k : Nat))) := it_rng1 (k := ((S.map D.int).length : Int)) rfl e2
  rw [e0, bDig, ss_next a1, ss_next a2, ss_next (s_ife_eq a3), ss_next a4, ss_next (s_for_eq a5 hloop), ss_ret (s_ret_eq (d := .lst (R1.map D.int)) rfl)]
  rfl
theorem digits_ok (hF : T.fns[i]? = some ⟨2, 8, [], bDig⟩) (c : Int) (S : List Int) (hS : ∀ s ∈ S, 0 < s ∧ s < 1000) (hl : S.length < 1000) : ∃ R : List Int, DigOk S R ∧ calN T wf (n + 2) (.fn i) [.int c, .lst (S.map D.int)] = .ok (.lst (R.map D.int)) := by
  by_cases hc : 1000000000000000000 ≤ c
  · exact digits_a hF c S hS hl hc
  · exact digits_b hF c S hS hl hc
end
end PV
/-! Plain laws, part 3: _law_town, the innermost turn. -/
namespace PV
open PySem PySem.Spec PyProof.Rows L2
def eOne : E := .sub (.fzl (.lst (.cons (.bin .sub (.sub (.var 7) (.bin .mul (.lit (.int 2)) (.var 10))) (.lit (.int 10))) (.cons (.bin .fdiv (.sub (.var 7) (.bin .mul (.lit (.int 2)) (.var 10))) (.lit (.int 4))) (.cons (.lit (.int 0)) .nil))))) (.sub (.var 7) (.bin .add (.bin .mul (.lit (.int 2)) (.var 10)) (.lit (.int 1))))
def eSh : E := .and (.not (.var 2)) (.cmp .gt (.sub (.var 8) (.bin .add (.bin .mul (.lit (.int 2)) (.var 10)) (.lit (.int 1)))) (.lit (.int 0)))
def eTwo : E := .bin .sub (.sub (.var 8) (.bin .mul (.lit (.int 2)) (.var 10))) (.lit (.int 10))
def eAdd : E := .or (.cmp .gt (.sub (.var 3) (.lit (.int 3))) (.lit (.int 0))) (.cmp .ne (.sub (.var 7) (.bin .add (.bin .mul (.lit (.int 2)) (.var 10)) (.lit (.int 1)))) (.lit (.int 2)))
def eW1 : E := .lst (.cons (.var 11) (.cons (.var 13) (.cons (.var 12) (.cons (.var 14) (.cons (.var 15) .nil)))))
def eW2 : E := .lst (.cons (.var 12) (.cons (.var 14) (.cons (.var 11) (.cons (.var 13) (.cons (.var 16) .nil)))))
def ePl : E := .bin .mod (.bi .int (.cons (.bin .add (.var 10) (.lit (.int 1))) .nil)) (.lit (.int 48))
def lT4 : Ss := (.cons (.asg (.one 15) eOne) (.cons (.asg (.one 16) (.var 15)) (.cons (.ife eSh (.cons (.asg (.one 16) eTwo) .nil) .nil)
  (.cons (.ife eAdd (.cons (.app 9 .nil eW1) (.cons (.app 9 .nil eW2) .nil)) .nil) (.cons (.asg (.one 10) ePl) .nil)))))
def lT3 : Ss := .cons (.for_ (.one 14) (.rng1 (.sub (.var 4) (.var 12))) lT4) .nil
def lT2 : Ss := .cons (.for_ (.one 13) (.rng1 (.sub (.var 4) (.var 11))) lT3) .nil
def lT1 : Ss := .cons (.for_ (.one 12) (.rng2 (.bin .add (.var 11) (.lit (.int 1))) (.bi .len (.cons (.var 4) .nil))) lT2) .nil
/-- one worth: whose, at which custom, of whom, at which custom, how much -/
structure Wt where
  i : Int
  a : Int
  j : Int
  b : Int
  w : Int
def Wt.l (x : Wt) : PV.D := .lst [.int x.i, .int x.a, .int x.j, .int x.b, .int x.w]
def Wt.t (x : Wt) : PV.D := .tup [.int x.i, .int x.a, .int x.j, .int x.b, .int x.w]
/-- what stands through the loops -/
structure TownC where
  scr : PV.D
  at_ : PV.D
  sh : Bool
  shp : List Int
  C : List Int
  menu : PV.D
  cus : PV.D
  rw : List Int
  ot : List Int
def TownC.env (c : TownC) (ws : List Wt) (p : Int) (o11 o12 o13 o14 o15 o16 : Option PV.D) : En :=
  [some c.scr, some c.at_, some (.bl c.sh), some (.lst (c.shp.map D.int)), some (.lst (c.C.map D.int)), some c.menu, some c.cus, some (.lst (c.rw.map D.int)), some (.lst (c.ot.map D.int)), some (.lst (ws.map Wt.l)), some (.int p), o11, o12, o13, o14, o15, o16, none, none, none]
theorem sub_ints {R : List Int} {k r : Int} (h0 : 0 ≤ k) (h : R[k.toNat]? = some r) : subD (.lst (R.map D.int)) (.int k) = .ok (.int r) := by
  have q : L2.atI (R.map D.int) k = some (.int r) := by
    have : k = (k.toNat : Int) := by omega
    rw [this]
    exact atI_nat (by rw [List.getElem?_map, h]; rfl)
  show PV.R.of (L2.atI (R.map D.int) k) = _
  rw [q]
  rfl
theorem gt_int {a b : Int} : cmpD .gt (.int a) (.int b) = .ok (decide (b < a)) := rfl
theorem eq_int {a b : Int} : cmpD .eq (.int a) (.int b) = .ok (decide (a = b)) := by
  show PV.R.ok (PyData.eqv (.int a) (.int b)) = _
  simp only [PyData.eqv]
  rfl
theorem ne_int {a b : Int} : cmpD .ne (.int a) (.int b) = .ok (!decide (a = b)) := by
  have h : eqD (.int a) (.int b) = .ok (decide (a = b)) := eq_int
  show (match eqD (.int a) (.int b) with
    | .ok b => PV.R.ok (!b)
    | _ => .bad) = _
  rw [h]
section
variable {T : Tab} {wf : Nat} {call : Cal → List PV.D → PV.R PV.D}
/-- what the digits give at one place -/
structure AtP (c : TownC) (p r0 r1 q0 q1 s3 : Int) : Prop where
  hp : 0 ≤ p ∧ p < 48
  h0 : c.rw[(2 * p).toNat]? = some r0 ∧ 0 ≤ r0 ∧ r0 < 21
  h1 : c.rw[(2 * p + 1).toNat]? = some r1 ∧ 0 ≤ r1 ∧ r1 < 3
  g0 : c.ot[(2 * p).toNat]? = some q0 ∧ 0 ≤ q0 ∧ q0 < 21
  g1 : c.ot[(2 * p + 1).toNat]? = some q1
  hs : c.shp[3]? = some s3
theorem two_mul {p : Int} (h : 0 ≤ p ∧ p < 48) : binD .mul (.int 2) (.int p) = .ok (.int (2 * p)) := mul_int (by decide) (by omega)
theorem one_ok {c : TownC} {ws : List Wt} {p r0 r1 q0 q1 s3 : Int} {o11 o12 o13 o14 o15 o16 : Option PV.D} (h : AtP c p r0 r1 q0 q1 s3) : ∃ w : Int, (-10 ≤ w ∧ w ≤ 10) ∧ evE T call (c.env ws p o11 o12 o13 o14 o15 o16) eOne = .ok (.int w) := by
  have m := two_mul h.hp
  have a1 := sub_ints (R := c.rw) (k := 2 * p) (by have := h.hp; omega) h.h0.1
  have a2 := sub_ints (R := c.rw) (k := 2 * p + 1) (by have := h.hp; omega) h.h1.1
  have d := div_int (a := r0) (b := 4) (by decide) (by decide)
  have e3 : ([PV.D.int (r0 - 10), .int (r0 / 4), .int 0].length ≤ sizeLine) = True := eq_true (by rw [sizeLine_eq]; show 3 ≤ 16777216; decide)
  have key : ∃ w : Int, (-10 ≤ w ∧ w ≤ 10) ∧ subD (.lst [PV.D.int (r0 - 10), .int (r0 / 4), .int 0]) (.int r1) = .ok (.int w) := by
    obtain ⟨_, h0, h1⟩ := h.h1
    obtain ⟨_, g0, g1⟩ := h.h0
    have : r1 = 0 ∨ r1 = 1 ∨ r1 = 2 := by omega
    rcases this with rfl | rfl | rfl
    · exact ⟨r0 - 10, by omega, rfl⟩
    · exact ⟨r0 / 4, by omega, rfl⟩
    · exact ⟨0, by omega, rfl⟩
  obtain ⟨w, hw, k⟩ := key
  refine ⟨w, hw, ?_⟩
  simp only [eOne, TownC.env, evE, evEs, rdV, List.getElem?_cons_zero, List.getElem?_cons_succ, R.ok_bind, m, a1, add_int, a2, sub_int, d, e3, if_true, k]
theorem and_ok {a b : E} {ρ : En} {k : Bool} {d : PV.D} (h : evE T call ρ a = .ok (.bl k)) (h2 : evE T call ρ b = .ok d) : evE T call ρ (.and a b) = if k then .ok d else .ok (.bl false) := by
  show (evE T call ρ a >>= fun d => bool_ d >>= fun k => if k = true then evE T call ρ b else PV.R.ok (.bl false)) = _
  rw [h, h2]
  rfl
theorem or_ok {a b : E} {ρ : En} {k : Bool} {d : PV.D} (h : evE T call ρ a = .ok (.bl k)) (h2 : evE T call ρ b = .ok d) : evE T call ρ (.or a b) = if k then .ok (.bl true) else .ok d := by
  show (evE T call ρ a >>= fun d => bool_ d >>= fun k => if k = true then PV.R.ok (.bl true) else evE T call ρ b) = _
  rw [h, h2]
  rfl
theorem two_ok {c : TownC} {ws : List Wt} {p r0 r1 q0 q1 s3 : Int} {o11 o12 o13 o14 o15 o16 : Option PV.D} (h : AtP c p r0 r1 q0 q1 s3) : evE T call (c.env ws p o11 o12 o13 o14 o15 o16) eTwo = .ok (.int (q0 - 10)) := by
  have m := two_mul h.hp
  have a1 := sub_ints (R := c.ot) (k := 2 * p) (by have := h.hp; omega) h.g0.1
  simp only [eTwo, TownC.env, evE, evEs, rdV, List.getElem?_cons_zero, List.getElem?_cons_succ, R.ok_bind, m, a1, sub_int]
theorem sh_ok {c : TownC} {ws : List Wt} {p r0 r1 q0 q1 s3 : Int} {o11 o12 o13 o14 o15 o16 : Option PV.D} (h : AtP c p r0 r1 q0 q1 s3) : ∃ k, evE T call (c.env ws p o11 o12 o13 o14 o15 o16) eSh = .ok (.bl k) := by
  have m := two_mul h.hp
  have a1 := sub_ints (R := c.ot) (k := 2 * p + 1) (by have := h.hp; omega) h.g1
  have x1 : evE T call (c.env ws p o11 o12 o13 o14 o15 o16) (.not (.var 2)) = .ok (.bl (!c.sh)) := rfl
  have x2 : evE T call (c.env ws p o11 o12 o13 o14 o15 o16) (.cmp .gt (.sub (.var 8) (.bin .add (.bin .mul (.lit (.int 2)) (.var 10)) (.lit (.int 1)))) (.lit (.int 0))) = .ok (.bl (decide (0 < q1))) := by
    simp only [TownC.env, evE, evEs, rdV, List.getElem?_cons_zero, List.getElem?_cons_succ, R.ok_bind, m, a1, add_int, gt_int]
  unfold eSh
  rw [and_ok x1 x2]
  cases (!c.sh)
  · exact ⟨false, rfl⟩
  · exact ⟨_, rfl⟩
theorem add_ok {c : TownC} {ws : List Wt} {p r0 r1 q0 q1 s3 : Int} {o11 o12 o13 o14 o15 o16 : Option PV.D} (h : AtP c p r0 r1 q0 q1 s3) : ∃ k, evE T call (c.env ws p o11 o12 o13 o14 o15 o16) eAdd = .ok (.bl k) := by
  have m := two_mul h.hp
  have a1 := sub_ints (R := c.rw) (k := 2 * p + 1) (by have := h.hp; omega) h.h1.1
  have a2 := sub_ints (R := c.shp) (k := 3) (by decide) h.hs
  have x1 : evE T call (c.env ws p o11 o12 o13 o14 o15 o16) (.cmp .gt (.sub (.var 3) (.lit (.int 3))) (.lit (.int 0))) = .ok (.bl (decide (0 < s3))) := by
    simp only [TownC.env, evE, evEs, rdV, List.getElem?_cons_zero, List.getElem?_cons_succ, R.ok_bind, a2, gt_int]
  have x2 : evE T call (c.env ws p o11 o12 o13 o14 o15 o16) (.cmp .ne (.sub (.var 7) (.bin .add (.bin .mul (.lit (.int 2)) (.var 10)) (.lit (.int 1)))) (.lit (.int 2))) = .ok (.bl (!decide (r1 = 2))) := by
    simp only [TownC.env, evE, evEs, rdV, List.getElem?_cons_zero, List.getElem?_cons_succ, R.ok_bind, m, a1, add_int, ne_int]
  unfold eAdd
  rw [or_ok x1 x2]
  cases (decide (0 < s3))
  · exact ⟨_, rfl⟩
  · exact ⟨true, rfl⟩
theorem app9 {c : TownC} {ws : List Wt} {p : Int} {x : Wt} {e : E} {o11 o12 o13 o14 o15 o16 : Option PV.D} (h : evE T call (c.env ws p o11 o12 o13 o14 o15 o16) e = .ok x.l) (hz : ws.length < sizeLine) :
    exS T call wf (c.env ws p o11 o12 o13 o14 o15 o16) (.app 9 .nil e) = .ok (.next, c.env (ws ++ [x]) p o11 o12 o13 o14 o15 o16) := by
  have a : appPath (.lst (ws.map Wt.l)) [] x.l = .ok (.lst ((ws ++ [x]).map Wt.l)) := by
    show (if (ws.map Wt.l).length < sizeLine then PV.R.ok (PV.D.lst (ws.map Wt.l ++ [x.l])) else PV.R.bad) = _
    rw [if_pos (by rw [List.length_map]; exact hz), List.map_append]
    rfl
  show (PV.R.ok (PV.D.lst (ws.map Wt.l)) >>= fun z => PV.R.ok [] >>= fun ks => getPath z ks >>= fun _ => evE T call (c.env ws p o11 o12 o13 o14 o15 o16) e >>= fun d => appPath z ks d >>= fun y => PV.R.ok (Fl.next, (c.env ws p o11 o12 o13 o14 o15 o16).set 9 (some y))) = _
  rw [R.ok_bind, R.ok_bind, gp_lst, R.ok_bind, h, R.ok_bind, a, R.ok_bind]
  rfl
theorem five {ρ : En} {a b c d e : E} {v1 v2 v3 v4 v5 : Int} (h1 : evE T call ρ a = .ok (.int v1)) (h2 : evE T call ρ b = .ok (.int v2)) (h3 : evE T call ρ c = .ok (.int v3)) (h4 : evE T call ρ d = .ok (.int v4)) (h5 : evE T call ρ e = .ok (.int v5)) :
    evE T call ρ (.lst (.cons a (.cons b (.cons c (.cons d (.cons e .nil)))))) = .ok (.lst [.int v1, .int v2, .int v3, .int v4, .int v5]) := by
  have e3 : ([PV.D.int v1, .int v2, .int v3, .int v4, .int v5].length ≤ sizeLine) = True := eq_true (by rw [sizeLine_eq]; show 5 ≤ 16777216; decide)
  simp only [evE, evEs, R.ok_bind, h1, h2, h3, h4, h5, e3, if_true]
theorem turn_ok {c : TownC} {ws : List Wt} {p r0 r1 q0 q1 s3 : Int} {i j a b : Int} {o15 o16 : Option PV.D} (h : AtP c p r0 r1 q0 q1 s3) (hz : ws.length < 1000000) :
    ∃ (ws' : List Wt) (p' : Int) (o15' o16' : Option PV.D), exSs T call wf (c.env ws p (some (.int i)) (some (.int j)) (some (.int a)) (some (.int b)) o15 o16) lT4 = .ok (.next, c.env ws' p' (some (.int i)) (some (.int j)) (some (.int a)) (some (.int b)) o15' o16') ∧
      (0 ≤ p' ∧ p' < 48) ∧ (ws' = ws ∨ ∃ w1 w2 : Int, (-10 ≤ w1 ∧ w1 ≤ 10) ∧ (-10 ≤ w2 ∧ w2 ≤ 10) ∧ ws' = ws ++ [⟨i, a, j, b, w1⟩, ⟨j, b, i, a, w2⟩]) := by
  obtain ⟨w1, hw1, e1⟩ := one_ok (T := T) (call := call) (ws := ws) (o11 := some (.int i)) (o12 := some (.int j)) (o13 := some (.int a)) (o14 := some (.int b)) (o15 := o15) (o16 := o16) h
  have b1 := s_asg_eq (wf := wf) (i := 15) e1
  have b2 : exS T call wf (c.env ws p (some (.int i)) (some (.int j)) (some (.int a)) (some (.int b)) (some (.int w1)) o16) (.asg (.one 16) (.var 15)) = .ok (.next, c.env ws p (some (.int i)) (some (.int j)) (some (.int a)) (some (.int b)) (some (.int w1)) (some (.int w1))) := s_asg_eq (d := .int w1) rfl
  obtain ⟨k, e2⟩ := sh_ok (T := T) (call := call) (ws := ws) (o11 := some (.int i)) (o12 := some (.int j)) (o13 := some (.int a)) (o14 := some (.int b)) (o15 := some (.int w1)) (o16 := some (.int w1)) h
  have b3 : ∃ w2 : Int, (-10 ≤ w2 ∧ w2 ≤ 10) ∧ exS T call wf (c.env ws p (some (.int i)) (some (.int j)) (some (.int a)) (some (.int b)) (some (.int w1)) (some (.int w1))) (.ife eSh (.cons (.asg (.one 16) eTwo) .nil) .nil) = .ok (.next, c.env ws p (some (.int i)) (some (.int j)) (some (.int a)) (some (.int b)) (some (.int w1)) (some (.int w2))) := by
    rw [s_ife_eq e2]
    cases k with
    | false => exact ⟨w1, hw1, rfl⟩
    | true =>
      have := h.g0
      refine ⟨q0 - 10, by omega, ?_⟩
      rw [if_pos rfl, ss_next (s_asg_eq (two_ok h))]
      rfl
  obtain ⟨w2, hw2, b3⟩ := b3
  obtain ⟨k2, e4⟩ := add_ok (T := T) (call := call) (ws := ws) (o11 := some (.int i)) (o12 := some (.int j)) (o13 := some (.int a)) (o14 := some (.int b)) (o15 := some (.int w1)) (o16 := some (.int w2)) h
  have hz1 : ws.length < sizeLine := by rw [sizeLine_eq]; omega
  have b4 : ∃ ws', (ws' = ws ∨ ws' = ws ++ [⟨i, a, j, b, w1⟩, ⟨j, b, i, a, w2⟩]) ∧ exS T call wf (c.env ws p (some (.int i)) (some (.int j)) (some (.int a)) (some (.int b)) (some (.int w1)) (some (.int w2))) (.ife eAdd (.cons (.app 9 .nil eW1) (.cons (.app 9 .nil eW2) .nil)) .nil) = .ok (.next, c.env ws' p (some (.int i)) (some (.int j)) (some (.int a)) (some (.int b)) (some (.int w1)) (some (.int w2))) := by
    rw [s_ife_eq e4]
    cases k2 with
    | false => exact ⟨ws, .inl rfl, rfl⟩
    | true =>
      refine ⟨ws ++ [⟨i, a, j, b, w1⟩, ⟨j, b, i, a, w2⟩], .inr rfl, ?_⟩
      have u1 : evE T call (c.env ws p (some (.int i)) (some (.int j)) (some (.int a)) (some (.int b)) (some (.int w1)) (some (.int w2))) eW1 = .ok (Wt.l ⟨i, a, j, b, w1⟩) := five rfl rfl rfl rfl rfl
      have u2 : evE T call (c.env (ws ++ [⟨i, a, j, b, w1⟩]) p (some (.int i)) (some (.int j)) (some (.int a)) (some (.int b)) (some (.int w1)) (some (.int w2))) eW2 = .ok (Wt.l ⟨j, b, i, a, w2⟩) := five rfl rfl rfl rfl rfl
      have hz2 : (ws ++ [(⟨i, a, j, b, w1⟩ : Wt)]).length < sizeLine := by
        rw [List.length_append, sizeLine_eq]
        show ws.length + 1 < 16777216
        omega
      rw [if_pos rfl, ss_next (app9 u1 hz1), ss_next (app9 u2 hz2), List.append_assoc]
      rfl
  obtain ⟨ws', hws, b4⟩ := b4
  have m := mod_int (a := p + 1) (b := 48) (by decide)
  have b5 : exS T call wf (c.env ws' p (some (.int i)) (some (.int j)) (some (.int a)) (some (.int b)) (some (.int w1)) (some (.int w2))) (.asg (.one 10) ePl) = .ok (.next, c.env ws' ((p + 1) % 48) (some (.int i)) (some (.int j)) (some (.int a)) (some (.int b)) (some (.int w1)) (some (.int w2))) := by
    refine s_asg_eq (d := .int ((p + 1) % 48)) ?_
    simp only [ePl, TownC.env, evE, evEs, rdV, List.getElem?_cons_zero, List.getElem?_cons_succ, R.ok_bind, add_int, bi_int1, m]
  refine ⟨ws', (p + 1) % 48, some (.int w1), some (.int w2), ?_, by omega, hws.imp id fun e => ⟨w1, w2, hw1, hw2, e⟩⟩
  unfold lT4
  rw [ss_next b1]
  show exSs T call wf (c.env ws p (some (.int i)) (some (.int j)) (some (.int a)) (some (.int b)) (some (.int w1)) o16) _ = _
  rw [ss_next b2, ss_next b3, ss_next b4, ss_next b5]
  rfl
end
end PV
/-! Plain laws, part 4: _law_town's worths: what holds of them. -/
namespace PV
open PySem PySem.Spec PyProof.Rows L2
/-- a worth fits the customs' counts -/
structure WtOk (C : List Int) (x : Wt) : Prop where
  i : 0 ≤ x.i ∧ x.i < C.length
  j : 0 ≤ x.j ∧ x.j < C.length
  ne : x.i ≠ x.j
  a : ∀ n, C[x.i.toNat]? = some n → 0 ≤ x.a ∧ x.a < n
  b : ∀ n, C[x.j.toNat]? = some n → 0 ≤ x.b ∧ x.b < n
  w : -10 ≤ x.w ∧ x.w ≤ 10
/-- the unordered pair's number -/
def Wt.num (x : Wt) : Int := if x.i < x.j then ((x.i * 8 + x.j) * 8 + x.a) * 8 + x.b else ((x.j * 8 + x.i) * 8 + x.b) * 8 + x.a
def Wt.same (x y : Wt) : Prop := x.i = y.i ∧ x.a = y.a ∧ x.j = y.j ∧ x.b = y.b
structure WsOk (C : List Int) (ws : List Wt) (c : Int) : Prop where
  val : ∀ x ∈ ws, WtOk C x ∧ x.num < c
  key : ws.Pairwise fun x y => ¬ x.same y
  len : (ws.length : Int) ≤ 2 * c
theorem WsOk.mono {C : List Int} {ws : List Wt} {c d : Int} (h : WsOk C ws c) (le : c ≤ d) : WsOk C ws d :=
  ⟨fun x hx => ⟨(h.val x hx).1, by have := (h.val x hx).2; omega⟩, h.key, by have := h.len; omega⟩
theorem same_num {x y : Wt} (h : x.same y) : x.num = y.num := by
  obtain ⟨h1, h2, h3, h4⟩ := h
  unfold Wt.num
  rw [h1, h2, h3, h4]
theorem WsOk.two {C : List Int} {ws : List Wt} {c : Int} {x y : Wt} (h : WsOk C ws c) (hx : WtOk C x) (hy : WtOk C y) (nx : x.num = c) (ny : y.num = c) (hne : x.i ≠ y.i) : WsOk C (ws ++ [x, y]) (c + 1) where
  val := fun z hz => by
    rcases List.mem_append.mp hz with hz | hz
    · exact ⟨(h.val z hz).1, by have := (h.val z hz).2; omega⟩
    · rcases List.mem_cons.mp hz with rfl | hz
      · exact ⟨hx, by omega⟩
      · have : z = y := by simpa using hz
        subst this
        exact ⟨hy, by omega⟩
  key := by
    refine List.pairwise_append.mpr ⟨h.key, ?_, fun u hu v hv e => ?_⟩
    · exact List.pairwise_cons.mpr ⟨fun v hv e => by
        have : v = y := by simpa using hv
        subst this
        exact hne e.1, List.pairwise_singleton _ _⟩
    · have h1 := (h.val u hu).2
      have h2 := same_num e
      rcases List.mem_cons.mp hv with rfl | hv
      · omega
      · have : v = y := by simpa using hv
        subst this
        omega
  len := by
    rw [List.length_append]
    have := h.len
    show ((ws.length + 2 : Nat) : Int) ≤ _
    omega
end PV
/-! Plain laws, part 5: _law_town's loops. -/
namespace PV
open PySem PySem.Spec PyProof.Rows L2
structure TownOk (c : TownC) : Prop where
  at_ : ∀ p : Int, 0 ≤ p ∧ p < 48 → ∃ r0 r1 q0 q1 s3, AtP c p r0 r1 q0 q1 s3
  len : c.C.length ≤ 4
  cnt : ∀ n ∈ c.C, 1 ≤ n ∧ n ≤ 4
section
variable {T : Tab} {wf : Nat} {call : Cal → List PV.D → PV.R PV.D}
theorem loop4 {c : TownC} (tc : TownOk c) {ws : List Wt} {p i j a ni nj : Int} {o14 o15 o16 : Option PV.D} (hp : 0 ≤ p ∧ p < 48) (hi : 0 ≤ i) (hij : i < j) (hj : j < c.C.length) (hni : c.C[i.toNat]? = some ni) (hnj : c.C[j.toNat]? = some nj) (ha : 0 ≤ a ∧ a < ni)
    (h : WsOk c.C ws (((i * 8 + j) * 8 + a) * 8)) :
    ∃ (ws' : List Wt) (p' : Int) (o14' o15' o16' : Option PV.D), exSs T call wf (c.env ws p (some (.int i)) (some (.int j)) (some (.int a)) o14 o15 o16) lT3 = .ok (.next, c.env ws' p' (some (.int i)) (some (.int j)) (some (.int a)) o14' o15' o16') ∧
      (0 ≤ p' ∧ p' < 48) ∧ WsOk c.C ws' (((i * 8 + j) * 8 + (a + 1)) * 8) := by
  have hn := tc.cnt nj (List.mem_of_getElem? hnj)
  have hni4 := tc.cnt ni (List.mem_of_getElem? hni)
  have hl := tc.len
  obtain ⟨ρ', hloop, ws', p', o14', o15', o16', hp', hw, rfl⟩ := forL_N (t := .one 14) (body := fun ρ => exSs T call wf ρ lT4) (xs := (List.range (nj - 0).toNat).map fun k => D.int (0 + (k : Nat)))
    (I := fun k ρ => ∃ (ws' : List Wt) (p' : Int) (o14' o15' o16' : Option PV.D), (0 ≤ p' ∧ p' < 48) ∧ WsOk c.C ws' (((i * 8 + j) * 8 + a) * 8 + k) ∧ ρ = c.env ws' p' (some (.int i)) (some (.int j)) (some (.int a)) o14' o15' o16')
    (ρ := c.env ws p (some (.int i)) (some (.int j)) (some (.int a)) o14 o15 o16)
    (fun k x ρ hx ⟨ws1, p1, u14, u15, u16, hp1, hw1, e⟩ => by
      subst e
      obtain ⟨rfl, hk⟩ := rng_get hx
      obtain ⟨r0, r1, q0, q1, s3, A⟩ := tc.at_ p1 hp1
      have hz := hw1.len
      obtain ⟨ws2, p2, v15, v16, e, hp2, hws⟩ := turn_ok (T := T) (wf := wf) (call := call) (i := i) (j := j) (a := a) (b := (k : Int)) (o15 := u15) (o16 := u16) A (ws := ws1) (by omega)
      refine ⟨c.env ws1 p1 (some (.int i)) (some (.int j)) (some (.int a)) (some (.int (k : Int))) u15 u16, _, rfl, e, ws2, p2, _, v15, v16, hp2, ?_, rfl⟩
      rcases hws with rfl | ⟨w1, w2, b1, b2, rfl⟩
      · exact hw1.mono (by omega)
      · have := hw1.two (x := ⟨i, a, j, k, w1⟩) (y := ⟨j, k, i, a, w2⟩)
          ⟨⟨hi, by show i < _; omega⟩, ⟨by show 0 ≤ j; omega, hj⟩, by show i ≠ j; omega, fun n hn => by
              have hn : c.C[i.toNat]? = some n := hn
              rw [hni] at hn; cases hn; exact ha, fun n hn => by
              have hn : c.C[j.toNat]? = some n := hn
              rw [hnj] at hn; cases hn; exact ⟨by show (0 : Int) ≤ k; omega, hk⟩, b1⟩
          ⟨⟨by show 0 ≤ j; omega, hj⟩, ⟨hi, by show i < _; omega⟩, by show j ≠ i; omega, fun n hn => by
              have hn : c.C[j.toNat]? = some n := hn
              rw [hnj] at hn; cases hn; exact ⟨by show (0 : Int) ≤ k; omega, hk⟩, fun n hn => by
              have hn : c.C[i.toNat]? = some n := hn
              rw [hni] at hn; cases hn; exact ha, b2⟩
          (by show (if i < j then _ else _) = _; rw [if_pos hij])
          (by show (if j < i then _ else _) = _; rw [if_neg (by omega)])
          (by show i ≠ j; omega)
        exact this.mono (by omega))
    ⟨ws, p, o14, o15, o16, hp, by simpa using h, rfl⟩
  refine ⟨ws', p', o14', o15', o16', ?_, hp', hw.mono ?_⟩
  · have e1 : evE T call (c.env ws p (some (.int i)) (some (.int j)) (some (.int a)) o14 o15 o16) (.sub (.var 4) (.var 12)) = .ok (.int nj) := sub_ints (by omega) hnj
    unfold lT3
    rw [ss_next (s_for_eq (it_rng1 e1 (rngD_of (Int.lt_trans (b := 5) (by omega) (by decide)) (by omega))) hloop)]
    rfl
  · rw [rng_len (by omega)]
    omega
end
end PV
/-! Plain laws, part 6: _law_town's outer loops. -/
namespace PV
open PySem PySem.Spec PyProof.Rows L2
section
variable {T : Tab} {wf : Nat} {call : Cal → List PV.D → PV.R PV.D}
theorem loop3 {c : TownC} (tc : TownOk c) {ws : List Wt} {p i j ni nj : Int} {o13 o14 o15 o16 : Option PV.D} (hp : 0 ≤ p ∧ p < 48) (hi : 0 ≤ i) (hij : i < j) (hj : j < c.C.length) (hni : c.C[i.toNat]? = some ni) (hnj : c.C[j.toNat]? = some nj)
    (h : WsOk c.C ws (((i * 8 + j) * 8) * 8)) :
    ∃ (ws' : List Wt) (p' : Int) (o13' o14' o15' o16' : Option PV.D), exSs T call wf (c.env ws p (some (.int i)) (some (.int j)) o13 o14 o15 o16) lT2 = .ok (.next, c.env ws' p' (some (.int i)) (some (.int j)) o13' o14' o15' o16') ∧
      (0 ≤ p' ∧ p' < 48) ∧ WsOk c.C ws' (((i * 8 + (j + 1)) * 8) * 8) := by
  have hni4 := tc.cnt ni (List.mem_of_getElem? hni)
  obtain ⟨ρ', hloop, ws', p', o13', o14', o15', o16', hp', hw, rfl⟩ := forL_N (t := .one 13) (body := fun ρ => exSs T call wf ρ lT3) (xs := (List.range (ni - 0).toNat).map fun k => D.int (0 + (k : Nat)))
    (I := fun k ρ => ∃ (ws' : List Wt) (p' : Int) (o13' o14' o15' o16' : Option PV.D), (0 ≤ p' ∧ p' < 48) ∧ WsOk c.C ws' (((i * 8 + j) * 8 + k) * 8) ∧ ρ = c.env ws' p' (some (.int i)) (some (.int j)) o13' o14' o15' o16')
    (ρ := c.env ws p (some (.int i)) (some (.int j)) o13 o14 o15 o16)
    (fun k x ρ hx ⟨ws1, p1, u13, u14, u15, u16, hp1, hw1, e⟩ => by
      subst e
      obtain ⟨rfl, hk⟩ := rng_get hx
      obtain ⟨ws2, p2, v14, v15, v16, e, hp2, hw2⟩ := loop4 (T := T) (wf := wf) (call := call) tc (o14 := u14) (o15 := u15) (o16 := u16) hp1 hi hij hj hni hnj (a := (k : Int)) ⟨by omega, hk⟩ hw1
      exact ⟨c.env ws1 p1 (some (.int i)) (some (.int j)) (some (.int (k : Int))) u14 u15 u16, _, rfl, e, ws2, p2, _, v14, v15, v16, hp2, hw2, rfl⟩)
    ⟨ws, p, o13, o14, o15, o16, hp, by simpa using h, rfl⟩
  refine ⟨ws', p', o13', o14', o15', o16', ?_, hp', hw.mono ?_⟩
  · have e1 : evE T call (c.env ws p (some (.int i)) (some (.int j)) o13 o14 o15 o16) (.sub (.var 4) (.var 11)) = .ok (.int ni) := sub_ints hi hni
    unfold lT2
    rw [ss_next (s_for_eq (it_rng1 e1 (rngD_of (Int.lt_trans (b := 5) (by omega) (by decide)) (by omega))) hloop)]
    rfl
  · rw [rng_len (by omega)]
    omega
theorem it_rng2 {a b : E} {ρ : En} {lo hi : Int} {xs : List PV.D} (h : evE T call ρ a = .ok (.int lo)) (h2 : evE T call ρ b = .ok (.int hi)) (h3 : rngD lo hi = .ok xs) : evIt T call ρ (.rng2 a b) = .ok xs := by
  show (evE T call ρ a >>= fun x => evE T call ρ b >>= fun y => match x, y with
    | .int lo, .int hi => rngD lo hi
    | _, _ => .bad) = _
  rw [h, R.ok_bind, h2]
  exact h3
theorem rng2_of {lo hi : Int} (h0 : 0 ≤ lo) (h1 : lo < 1000000) (h2 : 0 ≤ hi) (h3 : hi < 1000000) : rngD lo hi = .ok ((List.range (hi - lo).toNat).map fun k => .int (lo + (k : Nat))) := by
  unfold rngD
  exact if_pos ⟨Int.le_trans (b := 0) (by decide) h0, Int.lt_trans (b := 1000000) h1 (by decide), Int.le_trans (b := 0) (by decide) h2, Int.lt_trans (b := 1000000) h3 (by decide)⟩
theorem rng2_get {lo hi : Int} {j : Nat} {x : PV.D} (h : ((List.range (hi - lo).toNat).map fun k => D.int (lo + (k : Nat)))[j]? = some x) : x = .int (lo + j) ∧ lo + (j : Int) < hi := by
  rw [List.getElem?_map] at h
  by_cases q : j < (hi - lo).toNat
  · rw [List.getElem?_range q] at h
    cases h
    exact ⟨rfl, by omega⟩
  · rw [List.getElem?_eq_none (by simpa using q)] at h
    cases h
end
end PV
/-! Plain laws, part 7: _law_town's two outer loops. -/
namespace PV
open PySem PySem.Spec PyProof.Rows L2
section
variable {T : Tab} {wf : Nat} {call : Cal → List PV.D → PV.R PV.D}
theorem loop2 {c : TownC} (tc : TownOk c) {ws : List Wt} {p i ni : Int} {o12 o13 o14 o15 o16 : Option PV.D} (hp : 0 ≤ p ∧ p < 48) (hi : 0 ≤ i) (hil : i < c.C.length) (hni : c.C[i.toNat]? = some ni)
    (h : WsOk c.C ws (i * 512)) :
    ∃ (ws' : List Wt) (p' : Int) (o12' o13' o14' o15' o16' : Option PV.D), exSs T call wf (c.env ws p (some (.int i)) o12 o13 o14 o15 o16) lT1 = .ok (.next, c.env ws' p' (some (.int i)) o12' o13' o14' o15' o16') ∧
      (0 ≤ p' ∧ p' < 48) ∧ WsOk c.C ws' ((i + 1) * 512) := by
  have hl := tc.len
  obtain ⟨ρ', hloop, ws', p', o12', o13', o14', o15', o16', hp', hw, rfl⟩ := forL_N (t := .one 12) (body := fun ρ => exSs T call wf ρ lT2) (xs := (List.range ((c.C.length : Int) - (i + 1)).toNat).map fun k => D.int ((i + 1) + (k : Nat)))
    (I := fun k ρ => ∃ (ws' : List Wt) (p' : Int) (o12' o13' o14' o15' o16' : Option PV.D), (0 ≤ p' ∧ p' < 48) ∧ WsOk c.C ws' (((i * 8 + (i + 1 + k)) * 8) * 8) ∧ ρ = c.env ws' p' (some (.int i)) o12' o13' o14' o15' o16')
    (ρ := c.env ws p (some (.int i)) o12 o13 o14 o15 o16)
    (fun k x ρ hx ⟨ws1, p1, u12, u13, u14, u15, u16, hp1, hw1, e⟩ => by
      subst e
      obtain ⟨rfl, hk⟩ := rng2_get hx
      have hj : (i + 1 + (k : Int)).toNat < c.C.length := by omega
      obtain ⟨ws2, p2, v13, v14, v15, v16, e, hp2, hw2⟩ := loop3 (T := T) (wf := wf) (call := call) tc (o13 := u13) (o14 := u14) (o15 := u15) (o16 := u16) hp1 hi (j := i + 1 + (k : Int)) (by omega) (by omega) hni (nj := c.C[(i + 1 + (k : Int)).toNat]) (by simp [hj]) hw1
      refine ⟨c.env ws1 p1 (some (.int i)) (some (.int (i + 1 + (k : Int)))) u13 u14 u15 u16, _, rfl, e, ws2, p2, _, v13, v14, v15, v16, hp2, hw2.mono (by omega), rfl⟩)
    ⟨ws, p, o12, o13, o14, o15, o16, hp, h.mono (by omega), rfl⟩
  refine ⟨ws', p', o12', o13', o14', o15', o16', ?_, hp', hw.mono ?_⟩
  · have e1 : evE T call (c.env ws p (some (.int i)) o12 o13 o14 o15 o16) (.bin .add (.var 11) (.lit (.int 1))) = .ok (.int (i + 1)) := rfl
    have e2 : evE T call (c.env ws p (some (.int i)) o12 o13 o14 o15 o16) (.bi .len (.cons (.var 4) .nil)) = .ok (.int c.C.length) := by
      have : (.ok (.int (c.C.map D.int).length) : PV.R PV.D) = .ok (.int c.C.length) := by rw [List.length_map]
      rw [← this]
      rfl
    unfold lT1
    rw [ss_next (s_for_eq (it_rng2 e1 e2 (rng2_of (by omega) (by omega) (by omega) (by omega))) hloop)]
    rfl
  · rw [List.length_map, List.length_range]
    omega
end
end PV
/-! Plain laws, part 8: _law_town's worths whole. -/
namespace PV
open PySem PySem.Spec PyProof.Rows L2
section
variable {T : Tab} {wf : Nat} {call : Cal → List PV.D → PV.R PV.D}
theorem loop1 {c : TownC} (tc : TownOk c) : ∃ (ws' : List Wt) (p' : Int) (o11' o12' o13' o14' o15' o16' : Option PV.D), exS T call wf (c.env [] 0 none none none none none none) (.for_ (.one 11) (.rng1 (.bi .len (.cons (.var 4) .nil))) lT1) = .ok (.next, c.env ws' p' o11' o12' o13' o14' o15' o16') ∧
      WsOk c.C ws' (c.C.length * 512) := by
  have hl := tc.len
  obtain ⟨ρ', hloop, ws', p', o11', o12', o13', o14', o15', o16', hp', hw, rfl⟩ := forL_N (t := .one 11) (body := fun ρ => exSs T call wf ρ lT1) (xs := (List.range ((c.C.length : Int) - 0).toNat).map fun k => D.int (0 + (k : Nat)))
    (I := fun k ρ => ∃ (ws' : List Wt) (p' : Int) (o11' o12' o13' o14' o15' o16' : Option PV.D), (0 ≤ p' ∧ p' < 48) ∧ WsOk c.C ws' ((k : Int) * 512) ∧ ρ = c.env ws' p' o11' o12' o13' o14' o15' o16')
    (ρ := c.env [] 0 none none none none none none)
    (fun k x ρ hx ⟨ws1, p1, u11, u12, u13, u14, u15, u16, hp1, hw1, e⟩ => by
      subst e
      obtain ⟨rfl, hk⟩ := rng_get hx
      have hj : k < c.C.length := by omega
      obtain ⟨ws2, p2, v12, v13, v14, v15, v16, e, hp2, hw2⟩ := loop2 (T := T) (wf := wf) (call := call) tc (o12 := u12) (o13 := u13) (o14 := u14) (o15 := u15) (o16 := u16) hp1 (i := (k : Int)) (by omega) (by omega) (ni := c.C[k]) (by simp [hj]) hw1
      exact ⟨c.env ws1 p1 (some (.int (k : Int))) u12 u13 u14 u15 u16, _, rfl, e, ws2, p2, _, v12, v13, v14, v15, v16, hp2, hw2.mono (by omega), rfl⟩)
    ⟨[], 0, none, none, none, none, none, none, by decide, ⟨fun x hx => (nomatch hx), List.Pairwise.nil, by simp⟩, rfl⟩
  refine ⟨ws', p', o11', o12', o13', o14', o15', o16', ?_, hw.mono ?_⟩
  · have e2 : evE T call (c.env [] 0 none none none none none none) (.bi .len (.cons (.var 4) .nil)) = .ok (.int c.C.length) := by
      have : (.ok (.int (c.C.map D.int).length) : PV.R PV.D) = .ok (.int c.C.length) := by rw [List.length_map]
      rw [← this]
      rfl
    exact s_for_eq (it_rng1 e2 (rng_of (by omega))) hloop
  · rw [List.length_map, List.length_range]
    omega
end
end PV
/-! Plain laws, part 9: comprehensions, _law_town whole. -/
namespace PV
open PySem PySem.Spec PyProof.Rows L2
theorem compL_map {tn : PV.D → PV.R (Option PV.D)} {f : PV.D → PV.D} : ∀ {xs acc : List PV.D}, (∀ x ∈ xs, tn x = .ok (some (f x))) → acc.length + xs.length ≤ sizeLine → compL tn xs acc = .ok (.lst (acc ++ xs.map f))
  | [], acc, _, _ => by rw [List.map_nil, List.append_nil]; rfl
  | x :: xs, acc, h, hz => by
    have e : compL tn (x :: xs) acc = if acc.length < sizeLine then compL tn xs (acc ++ [f x]) else .bad := by
      show (match tn x with
        | .ok none => compL tn xs acc
        | .ok (some y) => if acc.length < sizeLine then compL tn xs (acc ++ [y]) else .bad
        | _ => .bad) = _
      rw [h x List.mem_cons_self]
    rw [List.length_cons] at hz
    rw [e, if_pos (by omega), compL_map (fun y hy => h y (List.mem_cons_of_mem _ hy)) (by rw [List.length_append]; show acc.length + 1 + xs.length ≤ _; omega), List.append_assoc]
    rfl
section
variable {T : Tab} {call : Cal → List PV.D → PV.R PV.D}
theorem comp_map {ρ : En} {elt : E} {own : List Nat} {t : Tg} {it : It} {xs : List PV.D} {f : PV.D → PV.D} (hi : evIt T call ρ it = .ok xs) (h : ∀ x ∈ xs, ∃ ρ', setT t x (wipeE ρ own) = .ok ρ' ∧ evE T call ρ' elt = .ok (f x)) (hz : xs.length ≤ sizeLine) :
    evE T call ρ (.comp elt own t it) = .ok (.lst (xs.map f)) := by
  show (evIt T call ρ it >>= fun xs => compL (fun x => setT t x (wipeE ρ own) >>= fun ρ' => evE T call ρ' elt >>= fun y => PV.R.ok (some y)) xs []) = _
  rw [hi, R.ok_bind, compL_map (f := f) (fun x hx => by
    obtain ⟨ρ', h1, h2⟩ := h x hx
    rw [h1, R.ok_bind, h2]
    rfl) (by simpa using hz)]
  rfl
end
end PV
/-! Plain laws, part 10: _law_town. -/
namespace PV
open PySem PySem.Spec PyProof.Rows L2
def intEs : List Int → Es
  | [] => .nil
  | i :: is => .cons (.lit (.int i)) (intEs is)
def cntEs : List (List Int) → Es
  | [] => .nil
  | c :: cs => .cons (.lst (intEs c)) (cntEs cs)
def countsT : List (List Int) := [[2, 2], [2, 2, 2], [3, 2], [2, 3], [3, 3], [2], [1, 2], [2, 2, 2, 2], [4, 2], [4, 4], [1, 1, 2], [2, 2, 3]]
def menuD : List PV.D := [.str "left", .str "right", .str "mid", .str "far"]
def eCus : E := .comp (.comp (.sub (.var 5) (.var 19)) [17, 19] (.one 19) (.rng1 (.var 18))) [17, 18] (.one 18) (.seq (.var 4))
def eMenu : E := .lst (.cons (.lit (.str "left")) (.cons (.lit (.str "right")) (.cons (.lit (.str "mid")) (.cons (.lit (.str "far")) .nil))))
def eSlips : E := .sub (.fzl (.lst (.cons (.lit (.str "even")) (.cons (.lit (.str "loss")) .nil)))) (.sub (.var 3) (.lit (.int 1)))
def eDig (cell digits : Nat) (k : E) (s : E) : E := .call digits (.cons (.call cell (.cons (.var 0) (.cons k .nil))) (.cons s .nil))
def bTown (cell digits : Nat) : Ss := (.cons (.asg (.one 3) (eDig cell digits (.var 1) (.lst (intEs [12, 2, 97, 3]))))
 (.cons (.asg (.one 4) (.sub (.fzl (.lst (cntEs countsT))) (.sub (.var 3) (.lit (.int 0)))))
 (.cons (.asg (.one 5) eMenu)
 (.cons (.asg (.one 6) eCus)
 (.cons (.asg (.one 7) (eDig cell digits (.bin .add (.var 1) (.lit (.int 1))) (.bin .mul (.lst (intEs [21, 3])) (.lit (.int 48)))))
 (.cons (.asg (.one 8) (eDig cell digits (.bin .add (.var 1) (.lit (.int 2))) (.bin .mul (.lst (intEs [21, 4])) (.lit (.int 48)))))
 (.cons (.asg (.one 9) (.lst .nil))
 (.cons (.asg (.one 10) (.lit (.int 0)))
 (.cons (.for_ (.one 11) (.rng1 (.bi .len (.cons (.var 4) .nil))) lT1)
 (.cons (.ret (.lst (.cons (.var 6) (.cons (.var 9) (.cons eSlips .nil)))))
 .nil))))))))))
section
variable {T : Tab} {wf : Nat} {call : Cal → List PV.D → PV.R PV.D}
theorem ev_ints {ρ : En} : ∀ is : List Int, evEs T call ρ (intEs is) = .ok (is.map D.int)
  | [] => rfl
  | i :: is => by
    show (PV.R.ok (D.int i) >>= fun x => evEs T call ρ (intEs is) >>= fun xs => PV.R.ok (x :: xs)) = _
    rw [R.ok_bind, ev_ints is]
    rfl
theorem ev_lint {ρ : En} {is : List Int} (h : is.length ≤ 1000) : evE T call ρ (.lst (intEs is)) = .ok (.lst (is.map D.int)) := by
  show (evEs T call ρ (intEs is) >>= fun ds => if ds.length ≤ sizeLine then PV.R.ok (PV.D.lst ds) else .bad) = _
  rw [ev_ints, R.ok_bind]
  exact if_pos (by rw [List.length_map, sizeLine_eq]; omega)
theorem ev_cnts {ρ : En} : ∀ cs : List (List Int), (∀ c ∈ cs, c.length ≤ 1000) → evEs T call ρ (cntEs cs) = .ok (cs.map fun c => .lst (c.map D.int))
  | [], _ => rfl
  | c :: cs, h => by
    show (evE T call ρ (.lst (intEs c)) >>= fun x => evEs T call ρ (cntEs cs) >>= fun xs => PV.R.ok (x :: xs)) = _
    rw [ev_lint (h c List.mem_cons_self), R.ok_bind, ev_cnts cs fun d hd => h d (List.mem_cons_of_mem _ hd)]
    rfl
theorem at_D {xs : List PV.D} {k : Int} {x : PV.D} (h0 : 0 ≤ k) (h : xs[k.toNat]? = some x) : subD (.lst xs) (.int k) = .ok x := by
  have q : L2.atI xs k = some x := by
    have : k = (k.toNat : Int) := by omega
    rw [this]
    exact atI_nat h
  show PV.R.of (L2.atI xs k) = _
  rw [q]
  rfl
theorem counts_ok {ρ : En} {shp : List Int} {s0 : Int} (h3 : ρ[3]? = some (some (.lst (shp.map D.int)))) (hs : shp[0]? = some s0) (h0 : 0 ≤ s0 ∧ s0 < 12) :
    ∃ C ∈ countsT, evE T call ρ (.sub (.fzl (.lst (cntEs countsT))) (.sub (.var 3) (.lit (.int 0)))) = .ok (.lst (C.map D.int)) := by
  have hl : s0.toNat < countsT.length := by
    show s0.toNat < 12
    omega
  refine ⟨countsT[s0.toNat], List.getElem_mem hl, ?_⟩
  have e1 : evE T call ρ (.fzl (.lst (cntEs countsT))) = .ok (.lst (countsT.map fun c => .lst (c.map D.int))) := by
    show (evEs T call ρ (cntEs countsT) >>= fun ds => if ds.length ≤ sizeLine then PV.R.ok (PV.D.lst ds) else .bad) = _
    rw [ev_cnts _ (by decide), R.ok_bind]
    exact if_pos (by rw [List.length_map, sizeLine_eq]; decide)
  have e2 : evE T call ρ (.sub (.var 3) (.lit (.int 0))) = .ok (.int s0) := by
    show (rdV ρ 3 >>= fun x => PV.R.ok (.int 0) >>= fun y => subD x y) = _
    have : rdV ρ 3 = .ok (.lst (shp.map D.int)) := by
      unfold rdV
      rw [h3]
    rw [this, R.ok_bind, R.ok_bind]
    exact sub_ints (by decide) hs
  show (evE T call ρ (.fzl (.lst (cntEs countsT))) >>= fun x => evE T call ρ (.sub (.var 3) (.lit (.int 0))) >>= fun y => subD x y) = _
  rw [e1, R.ok_bind, e2, R.ok_bind]
  exact at_D h0.1 (by rw [List.getElem?_map]; simp [hl])
end
end PV
/-! Plain laws: rules to run a text of the language. -/
namespace PV
open PySem PySem.Spec PyProof.Rows L2
/-! ### operations -/
theorem r_loglt {a m : Nat} (h : a < 2 ^ m) (hm : 0 < m) : a.log2 < m := by
  by_cases z : a = 0
  · rw [z]; exact hm
  · exact (Nat.log2_lt z).mpr h
theorem r_add {a b : Int} : binD .add (.int a) (.int b) = .ok (.int (a + b)) := rfl
theorem r_sub {a b : Int} : binD .sub (.int a) (.int b) = .ok (.int (a - b)) := rfl
theorem r_mul {a b : Int} (h1 : a.natAbs < 2 ^ 200) (h2 : b.natAbs < 2 ^ 200) : binD .mul (.int a) (.int b) = .ok (.int (a * b)) := by
  have := r_loglt h1 (by decide)
  have := r_loglt h2 (by decide)
  show (if mulOk a b then R.ok (D.int (a * b)) else .bad) = _
  rw [if_pos (by unfold mulOk; exact decide_eq_true (by omega))]
theorem r_mod {a b : Int} (h : 0 < b) : binD .mod (.int a) (.int b) = .ok (.int (a % b)) := by
  show (if 0 < b then R.ok (D.int (a % b)) else if b ≠ 0 then R.ok (D.int (a.fmod b)) else .bad) = _
  rw [if_pos h]
theorem r_div {a b : Int} (h : 0 < b) (h2 : b.natAbs < 2 ^ 200) : binD .fdiv (.int a) (.int b) = .ok (.int (a / b)) := by
  have := r_loglt h2 (by decide)
  show (if 0 < b ∧ b.natAbs.log2 < 9000 then R.ok (D.int (a / b)) else if b ≠ 0 ∧ b.natAbs < 1073741824 then R.ok (D.int (a.fdiv b)) else .bad) = _
  rw [if_pos ⟨h, by omega⟩]
theorem r_lt {a b : Int} : cmpD .lt (.int a) (.int b) = .ok (decide (a < b)) := rfl
theorem r_le {a b : Int} : cmpD .le (.int a) (.int b) = .ok (decide (a ≤ b)) := rfl
theorem r_gt {a b : Int} : cmpD .gt (.int a) (.int b) = .ok (decide (b < a)) := rfl
theorem r_ge {a b : Int} : cmpD .ge (.int a) (.int b) = .ok (decide (b ≤ a)) := rfl
theorem r_eq {a b : Int} : cmpD .eq (.int a) (.int b) = .ok (decide (a = b)) := by
  show R.ok (PyData.eqv (.int a) (.int b)) = _
  simp only [PyData.eqv]
  rfl
theorem r_ne {a b : Int} : cmpD .ne (.int a) (.int b) = .ok (!decide (a = b)) := by
  have h : eqD (.int a) (.int b) = .ok (decide (a = b)) := r_eq
  show (match eqD (.int a) (.int b) with
    | .ok b => R.ok (!b)
    | _ => .bad) = _
  rw [h]
theorem r_int {a : Int} : biD .int [.int a] = .ok (.int a) := rfl
theorem r_lenL {xs : List D} : biD .len [.lst xs] = .ok (.int xs.length) := rfl
theorem r_lenT {xs : List D} : biD .len [.tup xs] = .ok (.int xs.length) := rfl
theorem r_lenS {xs : List Int} : biD .len [.scr xs] = .ok (.int xs.length) := rfl
theorem r_tupL {xs : List D} : biD .tuple [.lst xs] = .ok (.tup xs) := rfl
theorem r_tupT {xs : List D} : biD .tuple [.tup xs] = .ok (.tup xs) := rfl
theorem r_lstL {xs : List D} : biD .list [.lst xs] = .ok (.lst xs) := rfl
theorem r_lstT {xs : List D} : biD .list [.tup xs] = .ok (.lst xs) := rfl
theorem r_ints (xs : List Int) : intsD (xs.map D.int) = some xs := by
  induction xs with
  | nil => rfl
  | cons x xs ih => show (intsD (xs.map D.int)).map (x :: ·) = _; rw [ih]; rfl
theorem r_max {x : Int} {xs : List Int} : biD .max [.lst ((x :: xs).map D.int)] = .ok (.int (maxI x xs)) := by
  show (match intsD ((x :: xs).map D.int) with
    | some (i :: r) => R.ok (D.int (maxI i r))
    | _ => .bad) = _
  rw [r_ints]
theorem r_bool {b : Bool} : bool_ (.bl b) = .ok b := rfl
theorem r_set1 {i : Nat} {d : D} {ρ : En} : setT (.one i) d ρ = .ok (ρ.set i (some d)) := rfl
theorem r_setM {is : List Nat} {ds : List D} {ρ : En} : setT (.many is) (.tup ds) ρ = setMany is ds ρ := rfl
theorem r_many0 {ρ : En} : setMany [] [] ρ = .ok ρ := rfl
theorem r_many1 {i : Nat} {is : List Nat} {d : D} {ds : List D} {ρ : En} : setMany (i :: is) (d :: ds) ρ = setMany is ds (ρ.set i (some d)) := rfl
theorem r_and {b c : Bool} : (if b = true then R.ok (D.bl c) else R.ok (D.bl false)) = R.ok (D.bl (b && c)) := by cases b <;> rfl
theorem r_or {b c : Bool} : (if b = true then R.ok (D.bl true) else R.ok (D.bl c)) = R.ok (D.bl (b || c)) := by cases b <;> rfl
theorem r_sz {α : Type} {xs : List α} (h : xs.length ≤ 1000000) : (xs.length ≤ PySem.sizeLine) = True := eq_true (by rw [sizeLine_eq]; omega)
theorem r_sz0 {α : Type} : (([] : List α).length ≤ PySem.sizeLine) = True := r_sz (by simp)
theorem r_sz1 {α : Type} {a : α} : ([a].length ≤ PySem.sizeLine) = True := r_sz (by simp)
theorem r_sz2 {α : Type} {a b : α} : ([a, b].length ≤ PySem.sizeLine) = True := r_sz (by simp)
theorem r_sz3 {α : Type} {a b c : α} : ([a, b, c].length ≤ PySem.sizeLine) = True := r_sz (by simp)
theorem r_sz4 {α : Type} {a b c d : α} : ([a, b, c, d].length ≤ PySem.sizeLine) = True := r_sz (by simp)
theorem r_sz5 {α : Type} {a b c d e : α} : ([a, b, c, d, e].length ≤ PySem.sizeLine) = True := r_sz (by simp)
/-! ### items -/
theorem r_atI {α : Type} {xs : List α} {k : Int} {d : α} (h0 : 0 ≤ k) (h1 : k < xs.length) : L2.atI xs k = some (xs.getD k.toNat d) := by
  have hl : k.toNat < xs.length := by omega
  unfold L2.atI L2.ixN
  rw [if_pos h0, if_pos h1]
  simp [hl]
theorem r_atL {xs : List Int} {k : Int} (h0 : 0 ≤ k) (h1 : k < xs.length) : subD (.lst (xs.map D.int)) (.int k) = .ok (.int (xs.getD k.toNat 0)) := by
  show R.of (L2.atI (xs.map D.int) k) = _
  rw [r_atI (d := D.int 0) h0 (by simpa using h1)]
  simp [R.of]
theorem r_atT {xs : List Int} {k : Int} (h0 : 0 ≤ k) (h1 : k < xs.length) : subD (.tup (xs.map D.int)) (.int k) = .ok (.int (xs.getD k.toNat 0)) := by
  show R.of (L2.atI (xs.map D.int) k) = _
  rw [r_atI (d := D.int 0) h0 (by simpa using h1)]
  simp [R.of]
theorem r_atLD {xs : List D} {k : Int} (h0 : 0 ≤ k) (h1 : k < xs.length) : subD (.lst xs) (.int k) = .ok (xs.getD k.toNat .non) := by
  show R.of (L2.atI xs k) = _
  rw [r_atI (d := D.non) h0 h1]
  rfl
theorem r_atTD {xs : List D} {k : Int} (h0 : 0 ≤ k) (h1 : k < xs.length) : subD (.tup xs) (.int k) = .ok (xs.getD k.toNat .non) := by
  show R.of (L2.atI xs k) = _
  rw [r_atI (d := D.non) h0 h1]
  rfl
theorem r_c {α : Type} (j : Nat) {xs : List α} {x : α} (h : xs[j]? = some x) : R.of (L2.atI xs (j : Int)) = .ok x := by rw [atI_nat h]; rfl
theorem r_l0 {a : D} {xs : List D} : subD (.lst (a :: xs)) (.int 0) = .ok a := r_c 0 rfl
theorem r_l1 {a b : D} {xs : List D} : subD (.lst (a :: b :: xs)) (.int 1) = .ok b := r_c 1 rfl
theorem r_l2 {a b c : D} {xs : List D} : subD (.lst (a :: b :: c :: xs)) (.int 2) = .ok c := r_c 2 rfl
theorem r_l3 {a b c d : D} {xs : List D} : subD (.lst (a :: b :: c :: d :: xs)) (.int 3) = .ok d := r_c 3 rfl
theorem r_l4 {a b c d e : D} {xs : List D} : subD (.lst (a :: b :: c :: d :: e :: xs)) (.int 4) = .ok e := r_c 4 rfl
theorem r_t0 {a : D} {xs : List D} : subD (.tup (a :: xs)) (.int 0) = .ok a := r_c 0 rfl
theorem r_t1 {a b : D} {xs : List D} : subD (.tup (a :: b :: xs)) (.int 1) = .ok b := r_c 1 rfl
theorem r_t2 {a b c : D} {xs : List D} : subD (.tup (a :: b :: c :: xs)) (.int 2) = .ok c := r_c 2 rfl
theorem r_t3 {a b c d : D} {xs : List D} : subD (.tup (a :: b :: c :: d :: xs)) (.int 3) = .ok d := r_c 3 rfl
theorem r_t4 {a b c d e : D} {xs : List D} : subD (.tup (a :: b :: c :: d :: e :: xs)) (.int 4) = .ok e := r_c 4 rfl
/-! ### ranges -/
theorem r_rng0 {n : Int} (h0 : 0 ≤ n) (h : n < 1000000) : rngD 0 n = .ok ((List.range n.toNat).map fun k => .int (k : Nat)) := by
  unfold rngD
  rw [if_pos ⟨by decide, by decide, Int.le_trans (by decide) h0, Int.lt_trans h (by decide)⟩, Int.sub_zero]
  congr 1
  exact List.map_congr_left fun k _ => by rw [Int.zero_add]
theorem r_rng {lo hi : Int} (h0 : 0 ≤ lo) (h1 : lo < 1000000) (h2 : 0 ≤ hi) (h3 : hi < 1000000) : rngD lo hi = .ok ((List.range (hi - lo).toNat).map fun k => .int (lo + (k : Nat))) := by
  unfold rngD
  exact if_pos ⟨Int.le_trans (b := 0) (by decide) h0, Int.lt_trans (b := 1000000) h1 (by decide), Int.le_trans (b := 0) (by decide) h2, Int.lt_trans (b := 1000000) h3 (by decide)⟩
theorem r_itL {xs : List D} : itemsD (.lst xs) = .ok xs := rfl
theorem r_itT {xs : List D} : itemsD (.tup xs) = .ok xs := rfl
theorem r_itS {ns : List Int} : itemsD (.scr ns) = .ok (ns.map .int) := rfl
/-! ### appending, cutting -/
theorem r_gp {xs : List D} : getPath (.lst xs) [] = .ok (.lst xs) := rfl
theorem r_app {xs : List D} {v : D} (h : xs.length < 1000000) : appPath (.lst xs) [] v = .ok (.lst (xs ++ [v])) := by
  show (if xs.length < PySem.sizeLine then R.ok (D.lst (xs ++ [v])) else R.bad) = _
  rw [if_pos (by rw [sizeLine_eq]; omega)]
theorem r_slH {xs : List D} {k : Nat} : slD (.tup xs) none (some (k : Int)) = .ok (.tup (xs.take k)) := by
  show R.ok (D.tup (cutD xs none (some (k : Int)))) = _
  unfold cutD
  rw [HT.sIx_none, HT.sIx_nat, List.drop_zero, Nat.sub_zero, List.take_eq_take_min.symm]
theorem r_slHL {xs : List D} {k : Nat} : slD (.lst xs) none (some (k : Int)) = .ok (.lst (xs.take k)) := by
  show R.ok (D.lst (cutD xs none (some (k : Int)))) = _
  unfold cutD
  rw [HT.sIx_none, HT.sIx_nat, List.drop_zero, Nat.sub_zero, List.take_eq_take_min.symm]
theorem r_slL {xs : List D} {k : Nat} : slD (.tup xs) (some (k : Int)) none = .ok (.tup (xs.drop k)) := by
  show R.ok (D.tup (cutD xs (some (k : Int)) none)) = _
  unfold cutD
  rw [HT.sIx_none, HT.sIx_nat]
  congr 2
  by_cases h : k ≤ xs.length
  · rw [Nat.min_eq_left h]
    exact List.take_of_length_le (by simp)
  · rw [Nat.min_eq_right (by omega), Nat.sub_self, List.take_zero, List.drop_eq_nil_of_le (by omega)]
theorem r_catT {xs ys : List D} (h : xs.length + ys.length ≤ 1000000) : binD .add (.tup xs) (.tup ys) = .ok (.tup (xs ++ ys)) := by
  show (if xs.length + ys.length ≤ PySem.sizeLine then R.ok (D.tup (xs ++ ys)) else .bad) = _
  rw [if_pos (by rw [sizeLine_eq]; omega)]
theorem r_part {i : Int} : partD (.int i) = .ok (some i) := rfl
/-! ### strict forms: no continuation stands under a binder -/
def l1 {α β : Type} (f : α → R β) (x : R α) : R β := x >>= f
def l2 {α β γ : Type} (f : α → β → R γ) (x : R α) (y : R β) : R γ := x >>= fun a => y >>= fun b => f a b
theorem l1_ok {α β : Type} {f : α → R β} {a : α} : l1 f (.ok a) = f a := rfl
theorem l2_ok {α β γ : Type} {f : α → β → R γ} {a : α} {b : β} : l2 f (.ok a) (.ok b) = f a b := rfl
def negD : D → R D
  | .int i => .ok (.int (-i))
  | _ => .bad
def notD (d : D) : R D := bool_ d >>= fun b => .ok (.bl (!b))
def cmpB (o : Cop) (x y : D) : R D := cmpD o x y >>= fun k => .ok (.bl k)
def isNB : D → R D
  | .non => .ok (.bl true)
  | .exn _ _ => .bad
  | _ => .ok (.bl false)
def isNNB : D → R D
  | .non => .ok (.bl false)
  | .exn _ _ => .bad
  | _ => .ok (.bl true)
def and2 (x y : R D) : R D := x >>= bool_ >>= fun b => if b then y else .ok (.bl false)
def or2 (x y : R D) : R D := x >>= bool_ >>= fun b => if b then .ok (.bl true) else y
def ite3 (c x y : R D) : R D := c >>= bool_ >>= fun b => if b then x else y
def chain3 (o p : Cop) (x y z : R D) : R D := x >>= fun x => y >>= fun y => cmpD o x y >>= fun k => if k then z >>= fun z => cmpD p y z >>= fun k => .ok (.bl k) else .ok (.bl false)
def tupD (ds : List D) : R D := if ds.length ≤ sizeLine then .ok (.tup ds) else .bad
def lstD (ds : List D) : R D := if ds.length ≤ sizeLine then .ok (.lst ds) else .bad
def sl0D (x : D) : R D := slD x none none
def slLD (x l : D) : R D := partD l >>= fun l => slD x l none
def slHD (x h : D) : R D := partD h >>= fun h => slD x none h
def slBD (x l h : D) : R D := partD l >>= fun l => partD h >>= fun h => slD x l h
def l3 {α β γ δ : Type} (f : α → β → γ → R δ) (x : R α) (y : R β) (z : R γ) : R δ := x >>= fun a => y >>= fun b => z >>= fun c => f a b c
theorem l3_ok {α β γ δ : Type} {f : α → β → γ → R δ} {a : α} {b : β} {c : γ} : l3 f (.ok a) (.ok b) (.ok c) = f a b c := rfl
def attrD (T : Tab) (f : Nat) (d : D) : R D := match d with
    | .ins c fs => if ((T.cls[c]?).map fun q => q.flds.contains f) = some true then .of (lookF f fs) else .bad
    | .exn c as => match (T.cls[c]?).bind (·.exf) with
      | some fs => .of (lookF f (fs.zip as))
      | none => .bad
    | _ => .bad
def isiD (T : Tab) (ts : List Ty) (d : D) : R D := .of ((isTys T d ts).map .bl)
def cons2 (x : R D) (y : R (List D)) : R (List D) := x >>= fun a => y >>= fun b => .ok (a :: b)
def app2 (x y : R (List D)) : R (List D) := x >>= fun a => y >>= fun b => .ok (a ++ b)
def methD (T : Tab) (call : Cal → List D → R D) (m : Nat) (x : D) (ds : List D) : R D := match x with
    | .ins c _ => match (T.cls[c]?).bind (fun q => q.meths.lookup m) with
      | some f => call (.fn f) (x :: ds)
      | none => .bad
    | _ => .bad
def rng1D : D → R (List D)
  | .int hi => rngD 0 hi
  | _ => .bad
def rng2D (x y : D) : R (List D) := match x, y with
    | .int lo, .int hi => rngD lo hi
    | _, _ => .bad
section
variable {T : Tab} {call : Cal → List D → R D} {wf : Nat} {ρ : En}
theorem vv_lit {d : D} : evE T call ρ (.lit d) = .ok d := rfl
theorem v_var {i : Nat} : evE T call ρ (.var i) = rdV ρ i := rfl
theorem v_glob {g : Nat} : evE T call ρ (.glob g) = .of T.globs[g]? := rfl
theorem v_neg {a : E} : evE T call ρ (.neg a) = l1 negD (evE T call ρ a) := rfl
theorem v_not {a : E} : evE T call ρ (.not a) = l1 notD (evE T call ρ a) := rfl
theorem vv_and {a b : E} : evE T call ρ (.and a b) = and2 (evE T call ρ a) (evE T call ρ b) := by
  show (evE T call ρ a >>= fun d => bool_ d >>= fun k => if k = true then evE T call ρ b else R.ok (.bl false)) = _
  unfold and2
  cases evE T call ρ a <;> rfl
theorem vv_or {a b : E} : evE T call ρ (.or a b) = or2 (evE T call ρ a) (evE T call ρ b) := by
  show (evE T call ρ a >>= fun d => bool_ d >>= fun k => if k = true then R.ok (.bl true) else evE T call ρ b) = _
  unfold or2
  cases evE T call ρ a <;> rfl
theorem v_bin {o : Bop} {a b : E} : evE T call ρ (.bin o a b) = l2 (binD o) (evE T call ρ a) (evE T call ρ b) := rfl
theorem v_cmp {o : Cop} {a b : E} : evE T call ρ (.cmp o a b) = l2 (cmpB o) (evE T call ρ a) (evE T call ρ b) := rfl
theorem v_chain {o p : Cop} {a b c : E} : evE T call ρ (.chain o p a b c) = chain3 o p (evE T call ρ a) (evE T call ρ b) (evE T call ρ c) := rfl
theorem v_isN {a : E} : evE T call ρ (.isN a) = l1 isNB (evE T call ρ a) := by
  show (evE T call ρ a >>= fun d => _) = _
  cases evE T call ρ a with
  | ok d => cases d <;> rfl
  | exc => rfl
  | bad => rfl
theorem v_isNN {a : E} : evE T call ρ (.isNN a) = l1 isNNB (evE T call ρ a) := by
  show (evE T call ρ a >>= fun d => _) = _
  cases evE T call ρ a with
  | ok d => cases d <;> rfl
  | exc => rfl
  | bad => rfl
theorem v_ife {c a b : E} : evE T call ρ (.ife c a b) = ite3 (evE T call ρ c) (evE T call ρ a) (evE T call ρ b) := by
  show (evE T call ρ c >>= fun d => bool_ d >>= fun k => if k = true then evE T call ρ a else evE T call ρ b) = _
  unfold ite3
  cases evE T call ρ c <;> rfl
theorem v_tup {es : Es} : evE T call ρ (.tup es) = l1 tupD (evEs T call ρ es) := rfl
theorem v_lst {es : Es} : evE T call ρ (.lst es) = l1 lstD (evEs T call ρ es) := rfl
theorem v_sub {a i : E} : evE T call ρ (.sub a i) = l2 subD (evE T call ρ a) (evE T call ρ i) := rfl
theorem v_sl0 {a : E} : evE T call ρ (.sl0 a) = l1 sl0D (evE T call ρ a) := rfl
theorem v_slL {a i : E} : evE T call ρ (.slL a i) = l2 slLD (evE T call ρ a) (evE T call ρ i) := rfl
theorem v_slH {a i : E} : evE T call ρ (.slH a i) = l2 slHD (evE T call ρ a) (evE T call ρ i) := rfl
theorem v_attr {a : E} {f : Nat} : evE T call ρ (.attr a f) = l1 (attrD T f) (evE T call ρ a) := by
  show (evE T call ρ a >>= fun d => _) = _
  cases evE T call ρ a with
  | ok d => cases d <;> rfl
  | exc => rfl
  | bad => rfl
theorem v_call {f : Nat} {es : Es} : evE T call ρ (.call f es) = l1 (call (.fn f)) (evEs T call ρ es) := rfl
theorem v_mk {f : Nat} {es : Es} : evE T call ρ (.mk f es) = l1 (call (.mk f)) (evEs T call ρ es) := rfl
theorem v_mkK {f : Nat} {es ks : Es} : evE T call ρ (.mkK f es ks) = l1 (call (.mk f)) (app2 (evEs T call ρ es) (evEs T call ρ ks)) := by
  show (evEs T call ρ es >>= fun ds => evEs T call ρ ks >>= fun gs => call (.mk f) (ds ++ gs)) = _
  unfold app2 l1
  cases evEs T call ρ es <;> cases evEs T call ρ ks <;> rfl
theorem v_bi {b : Bi} {es : Es} : evE T call ρ (.bi b es) = l1 (biD b) (evEs T call ρ es) := rfl
theorem v_isi {a : E} {ts : List Ty} : evE T call ρ (.isi a ts) = l1 (isiD T ts) (evE T call ρ a) := rfl
theorem v_bm {m : Bm} {a : E} {es : Es} : evE T call ρ (.bm m a es) = l2 (bmD m) (l1 lstOf (evE T call ρ a)) (evEs T call ρ es) := by
  show (evE T call ρ a >>= fun x => lstOf x >>= fun x => evEs T call ρ es >>= fun ds => bmD m x ds) = _
  unfold l1 l2
  cases evE T call ρ a <;> rfl
theorem k_lstOf {xs : List D} : lstOf (.lst xs) = .ok (.lst xs) := rfl
theorem v_tupR {it : It} : evE T call ρ (.tupR it) = l1 tupD (evIt T call ρ it) := rfl
theorem v_lstR {it : It} : evE T call ρ (.lstR it) = l1 lstD (evIt T call ρ it) := rfl
theorem v_fzl {a : E} : evE T call ρ (.fzl a) = evE T call ρ a := rfl
theorem v_nil : evEs T call ρ .nil = .ok [] := rfl
theorem v_cons {e : E} {es : Es} : evEs T call ρ (.cons e es) = cons2 (evE T call ρ e) (evEs T call ρ es) := rfl
theorem v_seq {a : E} : evIt T call ρ (.seq a) = l1 itemsD (evE T call ρ a) := rfl
theorem v_rng1 {a : E} : evIt T call ρ (.rng1 a) = l1 rng1D (evE T call ρ a) := by
  show (evE T call ρ a >>= fun d => _) = _
  cases evE T call ρ a with
  | ok d => cases d <;> rfl
  | exc => rfl
  | bad => rfl
theorem v_rng2 {a b : E} : evIt T call ρ (.rng2 a b) = l2 rng2D (evE T call ρ a) (evE T call ρ b) := rfl
theorem v_rev {a : E} : evIt T call ρ (.rev a) = l1 revD (evE T call ρ a) := rfl
theorem k_cons {a : D} {as : List D} : cons2 (.ok a) (.ok as) = .ok (a :: as) := rfl
theorem k_app {a as : List D} : app2 (.ok a) (.ok as) = .ok (a ++ as) := rfl
theorem k_neg {i : Int} : negD (.int i) = .ok (.int (-i)) := rfl
theorem k_not {b : Bool} : notD (.bl b) = .ok (.bl (!b)) := rfl
theorem k_and {b c : Bool} : and2 (.ok (.bl b)) (.ok (.bl c)) = .ok (.bl (b && c)) := by cases b <;> rfl
theorem k_andF {y : R D} : and2 (.ok (.bl false)) y = .ok (.bl false) := rfl
theorem k_andT {y : R D} : and2 (.ok (.bl true)) y = y := rfl
theorem k_or {b c : Bool} : or2 (.ok (.bl b)) (.ok (.bl c)) = .ok (.bl (b || c)) := by cases b <;> rfl
theorem k_orF {y : R D} : or2 (.ok (.bl false)) y = y := rfl
theorem k_orT {y : R D} : or2 (.ok (.bl true)) y = .ok (.bl true) := rfl
theorem k_iteT {x y : R D} : ite3 (.ok (.bl true)) x y = x := rfl
theorem k_iteF {x y : R D} : ite3 (.ok (.bl false)) x y = y := rfl
theorem k_lt {a b : Int} : cmpB .lt (.int a) (.int b) = .ok (.bl (decide (a < b))) := rfl
theorem k_le {a b : Int} : cmpB .le (.int a) (.int b) = .ok (.bl (decide (a ≤ b))) := rfl
theorem k_gt {a b : Int} : cmpB .gt (.int a) (.int b) = .ok (.bl (decide (b < a))) := rfl
theorem k_ge {a b : Int} : cmpB .ge (.int a) (.int b) = .ok (.bl (decide (b ≤ a))) := rfl
theorem k_eq {a b : Int} : cmpB .eq (.int a) (.int b) = .ok (.bl (decide (a = b))) := by
  show (cmpD .eq (.int a) (.int b) >>= fun k => R.ok (D.bl k)) = _
  rw [r_eq]
  rfl
theorem k_ne {a b : Int} : cmpB .ne (.int a) (.int b) = .ok (.bl (!decide (a = b))) := by
  show (cmpD .ne (.int a) (.int b) >>= fun k => R.ok (D.bl k)) = _
  rw [r_ne]
  rfl
theorem k_chain {o p : Cop} {x y z : D} {k : Bool} {l : Bool} (h : cmpB o x y = .ok (.bl k)) (h2 : cmpB p y z = .ok (.bl l)) : chain3 o p (.ok x) (.ok y) (.ok z) = .ok (.bl (k && l)) := by
  have h' : cmpD o x y = .ok k := by
    unfold cmpB at h
    cases q : cmpD o x y with
    | ok b => rw [q] at h; cases h; rfl
    | exc => rw [q] at h; cases h
    | bad => rw [q] at h; cases h
  have h2' : cmpD p y z = .ok l := by
    unfold cmpB at h2
    cases q : cmpD p y z with
    | ok b => rw [q] at h2; cases h2; rfl
    | exc => rw [q] at h2; cases h2
    | bad => rw [q] at h2; cases h2
  show (cmpD o x y >>= fun k => if k = true then (cmpD p y z >>= fun k => R.ok (D.bl k)) else R.ok (.bl false)) = _
  rw [h', h2']
  cases k <;> rfl
theorem k_chlele {a b c : Int} : chain3 .le .le (.ok (.int a)) (.ok (.int b)) (.ok (.int c)) = .ok (.bl (decide (a ≤ b) && decide (b ≤ c))) := k_chain k_le k_le
theorem k_chlelt {a b c : Int} : chain3 .le .lt (.ok (.int a)) (.ok (.int b)) (.ok (.int c)) = .ok (.bl (decide (a ≤ b) && decide (b < c))) := k_chain k_le k_lt
theorem k_chltlt {a b c : Int} : chain3 .lt .lt (.ok (.int a)) (.ok (.int b)) (.ok (.int c)) = .ok (.bl (decide (a < b) && decide (b < c))) := k_chain k_lt k_lt
theorem k_chltle {a b c : Int} : chain3 .lt .le (.ok (.int a)) (.ok (.int b)) (.ok (.int c)) = .ok (.bl (decide (a < b) && decide (b ≤ c))) := k_chain k_lt k_le
theorem k_tup {ds : List D} (h : ds.length ≤ 1000000) : tupD ds = .ok (.tup ds) := if_pos (by rw [sizeLine_eq]; omega)
theorem k_lst {ds : List D} (h : ds.length ≤ 1000000) : lstD ds = .ok (.lst ds) := if_pos (by rw [sizeLine_eq]; omega)
theorem k_tup0 : tupD [] = .ok (.tup []) := k_tup (by simp)
theorem k_tup1 {a : D} : tupD [a] = .ok (.tup [a]) := k_tup (by simp)
theorem k_tup2 {a b : D} : tupD [a, b] = .ok (.tup [a, b]) := k_tup (by simp)
theorem k_tup3 {a b c : D} : tupD [a, b, c] = .ok (.tup [a, b, c]) := k_tup (by simp)
theorem k_tup4 {a b c d : D} : tupD [a, b, c, d] = .ok (.tup [a, b, c, d]) := k_tup (by simp)
theorem k_tup5 {a b c d e : D} : tupD [a, b, c, d, e] = .ok (.tup [a, b, c, d, e]) := k_tup (by simp)
theorem k_lst0 : lstD [] = .ok (.lst []) := k_lst (by simp)
theorem k_lst1 {a : D} : lstD [a] = .ok (.lst [a]) := k_lst (by simp)
theorem k_lst2 {a b : D} : lstD [a, b] = .ok (.lst [a, b]) := k_lst (by simp)
theorem k_lst3 {a b c : D} : lstD [a, b, c] = .ok (.lst [a, b, c]) := k_lst (by simp)
theorem k_lst4 {a b c d : D} : lstD [a, b, c, d] = .ok (.lst [a, b, c, d]) := k_lst (by simp)
theorem k_lst5 {a b c d e : D} : lstD [a, b, c, d, e] = .ok (.lst [a, b, c, d, e]) := k_lst (by simp)
theorem k_rng1 {n : Int} (h0 : 0 ≤ n) (h : n < 1000000) : rng1D (.int n) = .ok ((List.range n.toNat).map fun k => .int (k : Nat)) := r_rng0 h0 h
theorem k_rng2 {lo hi : Int} (h0 : 0 ≤ lo) (h1 : lo < 1000000) (h2 : 0 ≤ hi) (h3 : hi < 1000000) : rng2D (.int lo) (.int hi) = .ok ((List.range (hi - lo).toNat).map fun k => .int (lo + (k : Nat))) := r_rng h0 h1 h2 h3
theorem k_slH {xs : List D} {k : Int} (h : 0 ≤ k) : slHD (.tup xs) (.int k) = .ok (.tup (xs.take k.toNat)) := by
  have : k = (k.toNat : Int) := by omega
  rw [this]
  exact r_slH
theorem k_slHL {xs : List D} {k : Int} (h : 0 ≤ k) : slHD (.lst xs) (.int k) = .ok (.lst (xs.take k.toNat)) := by
  have : k = (k.toNat : Int) := by omega
  rw [this]
  exact r_slHL
theorem k_slL {xs : List D} {k : Int} (h : 0 ≤ k) : slLD (.tup xs) (.int k) = .ok (.tup (xs.drop k.toNat)) := by
  have : k = (k.toNat : Int) := by omega
  rw [this]
  exact r_slL
theorem k_isi_nil {T : Tab} {d : D} : isiD T [] d = .ok (.bl false) := rfl
theorem k_isi_non_int {T : Tab} {ts : List Ty} : isiD T (.int :: ts) .non = isiD T ts .non := rfl
theorem k_isi_non_bool {T : Tab} {ts : List Ty} : isiD T (.bool :: ts) .non = isiD T ts .non := rfl
theorem k_isi_non_str {T : Tab} {ts : List Ty} : isiD T (.str :: ts) .non = isiD T ts .non := rfl
theorem k_isi_non_list {T : Tab} {ts : List Ty} : isiD T (.list :: ts) .non = isiD T ts .non := rfl
theorem k_isi_non_tuple {T : Tab} {ts : List Ty} : isiD T (.tuple :: ts) .non = isiD T ts .non := rfl
theorem k_isi_bl_int {T : Tab} {ts : List Ty} {b : Bool} : isiD T (.int :: ts) (.bl b) = .ok (.bl true) := rfl
theorem k_isi_bl_bool {T : Tab} {ts : List Ty} {b : Bool} : isiD T (.bool :: ts) (.bl b) = .ok (.bl true) := rfl
theorem k_isi_bl_str {T : Tab} {ts : List Ty} {b : Bool} : isiD T (.str :: ts) (.bl b) = isiD T ts (.bl b) := rfl
theorem k_isi_bl_list {T : Tab} {ts : List Ty} {b : Bool} : isiD T (.list :: ts) (.bl b) = isiD T ts (.bl b) := rfl
theorem k_isi_bl_tuple {T : Tab} {ts : List Ty} {b : Bool} : isiD T (.tuple :: ts) (.bl b) = isiD T ts (.bl b) := rfl
theorem k_isi_int_int {T : Tab} {ts : List Ty} {i : Int} : isiD T (.int :: ts) (.int i) = .ok (.bl true) := rfl
theorem k_isi_int_bool {T : Tab} {ts : List Ty} {i : Int} : isiD T (.bool :: ts) (.int i) = isiD T ts (.int i) := rfl
theorem k_isi_int_str {T : Tab} {ts : List Ty} {i : Int} : isiD T (.str :: ts) (.int i) = isiD T ts (.int i) := rfl
theorem k_isi_int_list {T : Tab} {ts : List Ty} {i : Int} : isiD T (.list :: ts) (.int i) = isiD T ts (.int i) := rfl
theorem k_isi_int_tuple {T : Tab} {ts : List Ty} {i : Int} : isiD T (.tuple :: ts) (.int i) = isiD T ts (.int i) := rfl
theorem k_isi_str_int {T : Tab} {ts : List Ty} {x : Str} : isiD T (.int :: ts) (.str x) = isiD T ts (.str x) := rfl
theorem k_isi_str_bool {T : Tab} {ts : List Ty} {x : Str} : isiD T (.bool :: ts) (.str x) = isiD T ts (.str x) := rfl
theorem k_isi_str_str {T : Tab} {ts : List Ty} {x : Str} : isiD T (.str :: ts) (.str x) = .ok (.bl true) := rfl
theorem k_isi_str_list {T : Tab} {ts : List Ty} {x : Str} : isiD T (.list :: ts) (.str x) = isiD T ts (.str x) := rfl
theorem k_isi_str_tuple {T : Tab} {ts : List Ty} {x : Str} : isiD T (.tuple :: ts) (.str x) = isiD T ts (.str x) := rfl
theorem k_isi_tup_int {T : Tab} {ts : List Ty} {xs : List D} : isiD T (.int :: ts) (.tup xs) = isiD T ts (.tup xs) := rfl
theorem k_isi_tup_bool {T : Tab} {ts : List Ty} {xs : List D} : isiD T (.bool :: ts) (.tup xs) = isiD T ts (.tup xs) := rfl
theorem k_isi_tup_str {T : Tab} {ts : List Ty} {xs : List D} : isiD T (.str :: ts) (.tup xs) = isiD T ts (.tup xs) := rfl
theorem k_isi_tup_list {T : Tab} {ts : List Ty} {xs : List D} : isiD T (.list :: ts) (.tup xs) = isiD T ts (.tup xs) := rfl
theorem k_isi_tup_tuple {T : Tab} {ts : List Ty} {xs : List D} : isiD T (.tuple :: ts) (.tup xs) = .ok (.bl true) := rfl
theorem k_isi_lst_int {T : Tab} {ts : List Ty} {xs : List D} : isiD T (.int :: ts) (.lst xs) = isiD T ts (.lst xs) := rfl
theorem k_isi_lst_bool {T : Tab} {ts : List Ty} {xs : List D} : isiD T (.bool :: ts) (.lst xs) = isiD T ts (.lst xs) := rfl
theorem k_isi_lst_str {T : Tab} {ts : List Ty} {xs : List D} : isiD T (.str :: ts) (.lst xs) = isiD T ts (.lst xs) := rfl
theorem k_isi_lst_list {T : Tab} {ts : List Ty} {xs : List D} : isiD T (.list :: ts) (.lst xs) = .ok (.bl true) := rfl
theorem k_isi_lst_tuple {T : Tab} {ts : List Ty} {xs : List D} : isiD T (.tuple :: ts) (.lst xs) = isiD T ts (.lst xs) := rfl
theorem k_gcd {i j : Int} : biD .gcd [.int i, .int j] = .ok (.int ((Nat.gcd i.natAbs j.natAbs : Nat) : Int)) := rfl
theorem k_trev {xs : List D} : biD .trev [.lst xs] = .ok (.tup xs.reverse) := rfl
/-! ### statements -/
def seqS (T : Tab) (call : Cal → List D → R D) (wf : Nat) (x : R (Fl × En)) (ss : Ss) : R (Fl × En) := x >>= fun q => match q with
  | (.next, ρ1) => exSs T call wf ρ1 ss
  | r => .ok r
def asgR (t : Tg) (ρ : En) (x : R D) : R (Fl × En) := x >>= fun d => setT t d ρ >>= fun ρ' => .ok (.next, ρ')
def nextR (x : R En) : R (Fl × En) := x >>= fun ρ' => .ok (.next, ρ')
def setAR (T : Tab) (ρ : En) (i f : Nat) (x : R D) : R (Fl × En) := x >>= fun d => match ρ[i]? with
    | some (some (.ins c fs)) => if ((T.cls[c]?).map fun q => q.flds.contains f) = some true ∧ fs.length < 900 then .ok (.next, ρ.set i (some (.ins c (putF f d fs)))) else .bad
    | _ => .bad
def putR (i : Nat) (ρ : En) (x : R D) : R (Fl × En) := x >>= fun y => .ok (.next, ρ.set i (some y))
def setPathD (d x : D) (ks : List D) : R D := setPath x ks d
theorem k_set1 {xs : List D} {k : Int} {v : D} (h0 : 0 ≤ k) (h1 : k < xs.length) : setPathD v (.lst xs) [.int k] = .ok (.lst (xs.set k.toNat v)) := by
  show (match L2.ixN xs.length k with
    | some j => R.ok (D.lst (xs.set j v))
    | none => .bad) = _
  unfold L2.ixN
  rw [if_pos h0, if_pos h1]
def retR (ρ : En) (x : R D) : R (Fl × En) := x >>= fun d => .ok (.ret d, ρ)
def exprR (ρ : En) (x : R D) : R (Fl × En) := x >>= fun d => .ok (.next, ρ)
def ifS (T : Tab) (call : Cal → List D → R D) (wf : Nat) (ρ : En) (x : R D) (a b : Ss) : R (Fl × En) := x >>= bool_ >>= fun k => if k then exSs T call wf ρ a else exSs T call wf ρ b
theorem x_nil : exSs T call wf ρ .nil = .ok (.next, ρ) := rfl
theorem x_cons {s : S} {ss : Ss} : exSs T call wf ρ (.cons s ss) = seqS T call wf (exS T call wf ρ s) ss := rfl
theorem x_next {ss : Ss} : seqS T call wf (.ok (.next, ρ)) ss = exSs T call wf ρ ss := rfl
theorem x_ret {d : D} {ss : Ss} : seqS T call wf (.ok (.ret d, ρ)) ss = .ok (.ret d, ρ) := rfl
theorem x_brk {ss : Ss} : seqS T call wf (.ok (.brk, ρ)) ss = .ok (.brk, ρ) := rfl
theorem x_cont {ss : Ss} : seqS T call wf (.ok (.cont, ρ)) ss = .ok (.cont, ρ) := rfl
theorem y_asg {t : Tg} {e : E} : exS T call wf ρ (.asg t e) = asgR t ρ (evE T call ρ e) := rfl
theorem y_setA {i f : Nat} {e : E} : exS T call wf ρ (.setA i f e) = setAR T ρ i f (evE T call ρ e) := rfl
theorem y_setI {i : Nat} {p : Es} {e : E} : exS T call wf ρ (.setI i p e) = putR i ρ (l3 setPathD (evE T call ρ e) (rdV ρ i) (evEs T call ρ p)) := by
  show (evE T call ρ e >>= fun d => rdV ρ i >>= fun x => evEs T call ρ p >>= fun ks => setPath x ks d >>= fun y => R.ok (Fl.next, ρ.set i (some y))) = _
  unfold putR l3 setPathD
  cases evE T call ρ e <;> cases rdV ρ i <;> cases evEs T call ρ p <;> rfl
theorem y_expr {e : E} : exS T call wf ρ (.expr e) = exprR ρ (evE T call ρ e) := rfl
theorem y_ret {e : E} : exS T call wf ρ (.ret e) = retR ρ (evE T call ρ e) := rfl
theorem y_retN : exS T call wf ρ .retN = .ok (.ret .non, ρ) := rfl
theorem y_ife {c : E} {a b : Ss} : exS T call wf ρ (.ife c a b) = ifS T call wf ρ (evE T call ρ c) a b := by
  show (evE T call ρ c >>= fun d => bool_ d >>= fun k => if k = true then exSs T call wf ρ a else exSs T call wf ρ b) = _
  unfold ifS
  cases evE T call ρ c <;> rfl
theorem y_pass : exS T call wf ρ .pass = .ok (.next, ρ) := rfl
theorem y_brk : exS T call wf ρ .brk = .ok (.brk, ρ) := rfl
theorem y_cont : exS T call wf ρ .cont = .ok (.cont, ρ) := rfl
theorem z_asg1 {i : Nat} {d : D} : asgR (.one i) ρ (.ok d) = .ok (.next, ρ.set i (some d)) := rfl
theorem z_asgM {is : List Nat} {ds : List D} : asgR (.many is) ρ (.ok (.tup ds)) = nextR (setMany is ds ρ) := rfl
theorem z_next {ρ : En} : nextR (.ok ρ) = .ok (.next, ρ) := rfl
theorem z_put {i : Nat} {d : D} : putR i ρ (.ok d) = .ok (.next, ρ.set i (some d)) := rfl
theorem z_ret {d : D} : retR ρ (.ok d) = .ok (.ret d, ρ) := rfl
theorem z_expr {d : D} : exprR ρ (.ok d) = .ok (.next, ρ) := rfl
theorem z_ifT {a b : Ss} : ifS T call wf ρ (.ok (.bl true)) a b = exSs T call wf ρ a := rfl
theorem z_ifF {a b : Ss} : ifS T call wf ρ (.ok (.bl false)) a b = exSs T call wf ρ b := rfl
/-- append, of the slot itself -/
theorem y_app0 {i : Nat} {e : E} {xs : List D} {d : D} (h1 : rdV ρ i = .ok (.lst xs)) (h2 : evE T call ρ e = .ok d) (h3 : xs.length < 1000000) : exS T call wf ρ (.app i .nil e) = .ok (.next, ρ.set i (some (.lst (xs ++ [d])))) := by
  show (rdV ρ i >>= fun x => R.ok [] >>= fun ks => getPath x ks >>= fun _ => evE T call ρ e >>= fun d => appPath x ks d >>= fun y => R.ok (Fl.next, ρ.set i (some y))) = _
  rw [h1, R.ok_bind, R.ok_bind, r_gp, R.ok_bind, h2, R.ok_bind, r_app h3]
  rfl
def appN (i : Nat) (ρ : En) (x y : R D) : R (Fl × En) := x >>= fun x => getPath x [] >>= fun _ => y >>= fun d => appPath x [] d >>= fun z => .ok (.next, ρ.set i (some z))
theorem y_appN {i : Nat} {e : E} : exS T call wf ρ (.app i .nil e) = appN i ρ (rdV ρ i) (evE T call ρ e) := rfl
theorem z_appN {i : Nat} {xs : List D} {d : D} (h : xs.length < 1000000) : appN i ρ (.ok (.lst xs)) (.ok d) = .ok (.next, ρ.set i (some (.lst (xs ++ [d])))) := by
  show (getPath (.lst xs) [] >>= fun _ => R.ok d >>= fun d => appPath (.lst xs) [] d >>= fun z => R.ok (Fl.next, ρ.set i (some z))) = _
  rw [r_gp, R.ok_bind, R.ok_bind, r_app h]
  rfl
theorem rd_0 {d : D} {ρ : En} : rdV (some d :: ρ) 0 = .ok d := rfl
theorem rd_s {o : Option D} {i : Nat} {ρ : En} : rdV (o :: ρ) (i + 1) = rdV ρ i := rfl
theorem wi_0 : wipeE ρ [] = ρ := rfl
theorem wi_s {v : Nat} {vs : List Nat} : wipeE ρ (v :: vs) = (wipeE ρ vs).set v none := rfl
end
/-! ### loops, comprehensions, calls -/
section
variable {T : Tab} {call : Cal → List D → R D} {wf : Nat}
theorem forL_fold {σ ι : Type} {t : Tg} {body : En → R (Fl × En)} (g : ι → D) (E : σ → En → Prop) (step : σ → ι → σ) : ∀ (is : List ι) (s : σ) (ρ : En),
    (∀ s i ρ, i ∈ is → E s ρ → ∃ ρ1 ρ2, setT t (g i) ρ = .ok ρ1 ∧ body ρ1 = .ok (.next, ρ2) ∧ E (step s i) ρ2) → E s ρ →
    ∃ ρ', forL t body (is.map g) ρ = .ok (.next, ρ') ∧ E (is.foldl step s) ρ'
  | [], s, ρ, _, h => ⟨ρ, rfl, h⟩
  | i :: is, s, ρ, hs, h => by
    obtain ⟨ρ1, ρ2, h1, h2, h3⟩ := hs s i ρ List.mem_cons_self h
    obtain ⟨ρ', h4, h5⟩ := forL_fold g E step is (step s i) ρ2 (fun s j ρ hj => hs s j ρ (List.mem_cons_of_mem _ hj)) h3
    refine ⟨ρ', ?_, h5⟩
    show (setT t (g i) ρ >>= fun ρ1 => body ρ1 >>= fun q => match q with
      | (.next, ρ2) => forL t body (is.map g) ρ2
      | (.cont, ρ2) => forL t body (is.map g) ρ2
      | (.brk, ρ2) => R.ok (Fl.next, ρ2)
      | (.ret d, ρ2) => R.ok (Fl.ret d, ρ2)) = _
    rw [h1, R.ok_bind, h2, R.ok_bind]
    exact h4
/-- a for, turn by turn, with what it has taken so far -/
theorem r_for {σ ι : Type} {t : Tg} {it : It} {b : Ss} {ρ : En} (g : ι → D) (E : σ → En → Prop) (step : σ → ι → σ) {is : List ι} {s : σ} (hi : evIt T call ρ it = .ok (is.map g)) (h0 : E s ρ)
    (hs : ∀ s i ρ, i ∈ is → E s ρ → ∃ ρ1 ρ2, setT t (g i) ρ = .ok ρ1 ∧ exSs T call wf ρ1 b = .ok (.next, ρ2) ∧ E (step s i) ρ2) :
    ∃ ρ', exS T call wf ρ (.for_ t it b) = .ok (.next, ρ') ∧ E (is.foldl step s) ρ' := by
  obtain ⟨ρ', h1, h2⟩ := forL_fold (body := fun ρ => exSs T call wf ρ b) g E step is s ρ hs h0
  refine ⟨ρ', ?_, h2⟩
  show (evIt T call ρ it >>= fun xs => forL t (fun ρ => exSs T call wf ρ b) xs ρ) = _
  rw [hi]
  exact h1
theorem compL_all {ι : Type} {tn : D → R (Option D)} {g f : ι → D} : ∀ {is : List ι} {acc : List D}, (∀ i ∈ is, tn (g i) = .ok (some (f i))) → acc.length + is.length ≤ 1000000 → compL tn (is.map g) acc = .ok (.lst (acc ++ is.map f))
  | [], acc, _, _ => by rw [List.map_nil, List.map_nil, List.append_nil]; rfl
  | i :: is, acc, h, hz => by
    rw [List.length_cons] at hz
    have e : compL tn ((i :: is).map g) acc = if acc.length < PySem.sizeLine then compL tn (is.map g) (acc ++ [f i]) else .bad := by
      show (match tn (g i) with
        | .ok none => compL tn (is.map g) acc
        | .ok (some y) => if acc.length < PySem.sizeLine then compL tn (is.map g) (acc ++ [y]) else .bad
        | _ => .bad) = _
      rw [h i List.mem_cons_self]
    rw [e, if_pos (by rw [sizeLine_eq]; omega), compL_all (fun y hy => h y (List.mem_cons_of_mem _ hy)) (by rw [List.length_append]; show acc.length + 1 + is.length ≤ _; omega), List.append_assoc]
    rfl
theorem compL_if {ι : Type} {tn : D → R (Option D)} {g f : ι → D} {p : ι → Bool} : ∀ {is : List ι} {acc : List D}, (∀ i ∈ is, tn (g i) = .ok (if p i then some (f i) else none)) → acc.length + is.length ≤ 1000000 → compL tn (is.map g) acc = .ok (.lst (acc ++ (is.filter p).map f))
  | [], acc, _, _ => by rw [List.map_nil, List.filter_nil, List.map_nil, List.append_nil]; rfl
  | i :: is, acc, h, hz => by
    rw [List.length_cons] at hz
    have h1 := h i List.mem_cons_self
    cases hp : p i with
    | false =>
      rw [hp] at h1
      have e : compL tn ((i :: is).map g) acc = compL tn (is.map g) acc := by
        show (match tn (g i) with
          | .ok none => compL tn (is.map g) acc
          | .ok (some y) => if acc.length < PySem.sizeLine then compL tn (is.map g) (acc ++ [y]) else .bad
          | _ => .bad) = _
        rw [h1]
        rfl
      rw [e, compL_if (fun y hy => h y (List.mem_cons_of_mem _ hy)) (by omega), List.filter_cons_of_neg (by simp [hp])]
    | true =>
      rw [hp] at h1
      have e : compL tn ((i :: is).map g) acc = if acc.length < PySem.sizeLine then compL tn (is.map g) (acc ++ [f i]) else .bad := by
        show (match tn (g i) with
          | .ok none => compL tn (is.map g) acc
          | .ok (some y) => if acc.length < PySem.sizeLine then compL tn (is.map g) (acc ++ [y]) else .bad
          | _ => .bad) = _
        rw [h1]
        rfl
      rw [e, if_pos (by rw [sizeLine_eq]; omega), compL_if (fun y hy => h y (List.mem_cons_of_mem _ hy)) (by rw [List.length_append]; show acc.length + 1 + is.length ≤ _; omega), List.append_assoc, List.filter_cons_of_pos hp]
      rfl
theorem r_comp {ι : Type} {ρ : En} {elt : E} {own : List Nat} {t : Tg} {it : It} {is : List ι} (g f : ι → D) (hi : evIt T call ρ it = .ok (is.map g)) (hz : is.length ≤ 1000000)
    (h : ∀ i ∈ is, ∃ ρ', setT t (g i) (wipeE ρ own) = .ok ρ' ∧ evE T call ρ' elt = .ok (f i)) : evE T call ρ (.comp elt own t it) = .ok (.lst (is.map f)) := by
  show (evIt T call ρ it >>= fun xs => compL (fun x => setT t x (wipeE ρ own) >>= fun ρ' => evE T call ρ' elt >>= fun y => R.ok (some y)) xs []) = _
  rw [hi, R.ok_bind, compL_all (f := f) (fun i hi => by
    obtain ⟨ρ', h1, h2⟩ := h i hi
    rw [h1, R.ok_bind, h2]
    rfl) (by simpa using hz)]
  rfl
theorem r_compI {ι : Type} {ρ : En} {elt c : E} {own : List Nat} {t : Tg} {it : It} {is : List ι} (g f : ι → D) (p : ι → Bool) (hi : evIt T call ρ it = .ok (is.map g)) (hz : is.length ≤ 1000000)
    (h : ∀ i ∈ is, ∃ ρ', setT t (g i) (wipeE ρ own) = .ok ρ' ∧ evE T call ρ' c = .ok (.bl (p i)) ∧ (p i = true → evE T call ρ' elt = .ok (f i))) : evE T call ρ (.compI elt own t it c) = .ok (.lst ((is.filter p).map f)) := by
  show (evIt T call ρ it >>= fun xs => compL (fun x => setT t x (wipeE ρ own) >>= fun ρ' => evE T call ρ' c >>= fun d => bool_ d >>= fun k => if k = true then evE T call ρ' elt >>= fun y => R.ok (some y) else R.ok none) xs []) = _
  rw [hi, R.ok_bind, compL_if (f := f) (p := p) (fun i hi => by
    obtain ⟨ρ', h1, h2, h3⟩ := h i hi
    rw [h1, R.ok_bind, h2, R.ok_bind, r_bool, R.ok_bind]
    cases hp : p i with
    | false => rfl
    | true =>
      rw [if_pos rfl, h3 hp]
      rfl) (by simpa using hz)]
  rfl
variable {n i : Nat}
/-- a call runs the body -/
theorem r_fn {F : Fn} {ds : List D} (hF : T.fns[i]? = some F) (hl : ds.length = F.np) : calN T wf (n + 2) (.fn i) ds = (exSs T (calN T wf (n + 1)) wf (startE F.ns ds) F.body >>= fun q => match q with
      | (.ret d, _) => R.ok d
      | (.next, _) => R.ok .non
      | _ => .bad) := by
  have e : calN T wf (n + 2) (.fn i) ds = ((bodyD T (calN T wf (n + 1)) wf F ds) >>= fun q => match q with
      | (.ret d, _) => R.ok d
      | (.next, _) => R.ok .non
      | _ => .bad) := by
    show (match T.fns[i]? with
      | some F => (bodyD T (calN T wf (n + 1)) wf F ds) >>= fun q => match q with
        | (.ret d, _) => R.ok d
        | (.next, _) => R.ok .non
        | _ => .bad
      | none => .bad) = _
    rw [hF]
  rw [e]
  have : bodyD T (calN T wf (n + 1)) wf F ds = exSs T (calN T wf (n + 1)) wf (startE F.ns ds) F.body := by
    unfold bodyD
    rw [if_neg (by rw [List.length_append]; omega), if_neg (by omega), hl, Nat.sub_self, Nat.sub_zero, List.drop_length, List.append_nil]
  rw [this]
def retF (x : R (Fl × En)) : R D := x >>= fun q => match q with
  | (.ret d, _) => .ok d
  | (.next, _) => .ok .non
  | _ => .bad
theorem f_ret {d : D} {ρ : En} : retF (.ok (.ret d, ρ)) = .ok d := rfl
theorem f_next {ρ : En} : retF (.ok (.next, ρ)) = .ok .non := rfl
/-- a call runs its body -/
theorem c_run {F : Fn} {ds : List D} (hF : T.fns[i]? = some F) (hl : ds.length = F.np) : calN T wf (n + 2) (.fn i) ds = retF (exSs T (calN T wf (n + 1)) wf (startE F.ns ds) F.body) := r_fn hF hl
/-- .. that returns -/
theorem r_ret {F : Fn} {ds : List D} {d : D} {ρ : En} (hF : T.fns[i]? = some F) (hl : ds.length = F.np) (h : exSs T (calN T wf (n + 1)) wf (startE F.ns ds) F.body = .ok (.ret d, ρ)) : calN T wf (n + 2) (.fn i) ds = .ok d := by
  rw [r_fn hF hl, h]
  rfl
end
def zA := And.intro @PV.k_isi_nil (And.intro @PV.k_isi_non_int (And.intro @PV.k_isi_non_bool (And.intro @PV.k_isi_non_str (And.intro @PV.k_isi_non_list (And.intro @PV.k_isi_non_tuple (And.intro @PV.k_isi_bl_int (And.intro @PV.k_isi_bl_bool (And.intro @PV.k_isi_bl_str (And.intro @PV.k_isi_bl_list (And.intro @PV.k_isi_bl_tuple (And.intro @PV.k_isi_int_int (And.intro @PV.k_isi_int_bool (And.intro @PV.k_isi_int_str (And.intro @PV.k_isi_int_list (And.intro @PV.k_isi_int_tuple (And.intro @PV.k_isi_str_int (And.intro @PV.k_isi_str_bool (And.intro @PV.k_isi_str_str (And.intro @PV.k_isi_str_list (And.intro @PV.k_isi_str_tuple (And.intro @PV.k_isi_tup_int (And.intro @PV.k_isi_tup_bool (And.intro @PV.k_isi_tup_str (And.intro @PV.k_isi_tup_list (And.intro @PV.k_isi_tup_tuple (And.intro @PV.k_isi_lst_int (And.intro @PV.k_isi_lst_bool (And.intro @PV.k_isi_lst_str (And.intro @PV.k_isi_lst_list (And.intro @PV.k_isi_lst_tuple (And.intro @PV.l1_ok (And.intro @PV.l2_ok (And.intro @PV.l3_ok (And.intro @PV.vv_lit (And.intro @PV.v_var (And.intro @PV.v_glob (And.intro @PV.v_neg (And.intro @PV.v_not (And.intro @PV.vv_and (And.intro @PV.vv_or (And.intro @PV.v_bin (And.intro @PV.v_cmp (And.intro @PV.v_chain (And.intro @PV.v_isN (And.intro @PV.v_isNN (And.intro @PV.v_ife (And.intro @PV.v_tup (And.intro @PV.v_lst (And.intro @PV.v_sub (And.intro @PV.v_sl0 (And.intro @PV.v_slL (And.intro @PV.v_slH (And.intro @PV.v_attr (And.intro @PV.v_call (And.intro @PV.v_mk (And.intro @PV.v_mkK (And.intro @PV.v_bi (And.intro @PV.v_isi (And.intro @PV.v_bm (And.intro @PV.v_tupR (And.intro @PV.v_lstR (And.intro @PV.v_fzl (And.intro @PV.v_nil (And.intro @PV.v_cons (And.intro @PV.v_seq (And.intro @PV.v_rng1 (And.intro @PV.v_rng2 (And.intro @PV.v_rev (And.intro @PV.k_cons (And.intro @PV.k_app (And.intro @PV.k_neg (And.intro @PV.k_not (And.intro @PV.k_and (And.intro @PV.k_andF (And.intro @PV.k_andT (And.intro @PV.k_or (And.intro @PV.k_orF (And.intro @PV.k_orT (And.intro @PV.k_iteT (And.intro @PV.k_iteF (And.intro @PV.k_lt (And.intro @PV.k_le (And.intro @PV.k_gt (And.intro @PV.k_ge (And.intro @PV.k_eq (And.intro @PV.k_ne (And.intro @PV.k_chlele (And.intro @PV.k_chlelt (And.intro @PV.k_chltlt (And.intro @PV.k_chltle (And.intro @PV.k_tup0 (And.intro @PV.k_tup1 (And.intro @PV.k_tup2 (And.intro @PV.k_tup3 (And.intro @PV.k_tup4 (And.intro @PV.k_tup5 (And.intro @PV.k_lst0 (And.intro @PV.k_lst1 (And.intro @PV.k_lst2 (And.intro @PV.k_lst3 (And.intro @PV.k_lst4 (And.intro @PV.k_lst5 (And.intro @PV.k_lstOf (And.intro @PV.k_gcd (And.intro @PV.k_trev (And.intro @PV.k_set1 (And.intro @PV.k_rng1 (And.intro @PV.k_rng2 (And.intro @PV.k_slH (And.intro @PV.k_slHL (And.intro @PV.k_slL (And.intro @PV.x_nil (And.intro @PV.x_cons (And.intro @PV.x_next (And.intro @PV.x_ret (And.intro @PV.x_brk (And.intro @PV.x_cont (And.intro @PV.y_asg (And.intro @PV.y_setA (And.intro @PV.y_setI (And.intro @PV.y_expr (And.intro @PV.y_ret (And.intro @PV.y_retN (And.intro @PV.y_ife (And.intro @PV.y_pass (And.intro @PV.y_brk (And.intro @PV.y_cont (And.intro @PV.z_asg1 (And.intro @PV.z_asgM (And.intro @PV.z_next (And.intro @PV.z_put (And.intro @PV.z_ret (And.intro @PV.z_expr (And.intro @PV.z_ifT (And.intro @PV.z_ifF (And.intro @PV.y_appN (And.intro @PV.z_appN (And.intro @PV.rd_0 (And.intro @PV.rd_s (And.intro @PV.wi_0 (And.intro @PV.wi_s (And.intro @PV.f_ret (And.intro @PV.f_next (And.intro @PV.r_add (And.intro @PV.r_sub (And.intro @PV.r_mul (And.intro @PV.r_mod (And.intro @PV.r_div (And.intro @PV.r_int (And.intro @PV.r_lenL (And.intro @PV.r_lenT (And.intro @PV.r_lenS (And.intro @PV.r_tupL (And.intro @PV.r_tupT (And.intro @PV.r_lstL (And.intro @PV.r_lstT (And.intro @PV.r_many0 (And.intro @PV.r_many1 (And.intro @PV.r_atL (And.intro @PV.r_atT (And.intro @PV.r_l0 (And.intro @PV.r_l1 (And.intro @PV.r_l2 (And.intro @PV.r_l3 (And.intro @PV.r_l4 (And.intro @PV.r_t0 (And.intro @PV.r_t1 (And.intro @PV.r_t2 (And.intro @PV.r_t3 (And.intro @PV.r_t4 (And.intro @PV.r_itL (And.intro @PV.r_itT (@PV.r_itS)))))))))))))))))))))))))))))))))))))))))))))))))))))))))))))))))))))))))))))))))))))))))))))))))))))))))))))))))))))))))))))))))))))))))))))))))))))))))))))))))))))))))))))
/-- the rules that run a text, in one -/
theorem zR : type_of% zA := zA
end PV
/-! Plain laws: == and in, of ints, rows of ints, rows of rows. -/
namespace PV
open PySem PySem.Spec PyProof.Rows L2
theorem q_pd (xs : List Int) : pdAll (xs.map D.int) = some (xs.map PyData.int) := by
  induction xs with
  | nil => rfl
  | cons x xs ih =>
    show (match (D.int x).pd, pdAll (xs.map D.int) with
      | some p, some ps => some (p :: ps)
      | _, _ => none) = _
    rw [ih]
    rfl
theorem q_lay (xs : List Int) : PyData.canLayAll0 (xs.map PyData.int) = true := by
  induction xs with
  | nil => rfl
  | cons x xs ih => simp only [List.map_cons, PyData.canLayAll0, PyData.canLay0, ih, Bool.and_self]
theorem q_dep (xs : List Int) : PyData.depthAll (xs.map PyData.int) = 0 := by
  induction xs with
  | nil => rfl
  | cons x xs ih => simp only [List.map_cons, PyData.depthAll, PyData.depth, ih, Nat.max_self]
theorem q_eqv (xs ys : List Int) : PyData.eqvAll (xs.map PyData.int) (ys.map PyData.int) = decide (xs = ys) := by
  induction xs generalizing ys with
  | nil => cases ys <;> simp [PyData.eqvAll]
  | cons x xs ih =>
    cases ys with
    | nil => simp [PyData.eqvAll]
    | cons y ys =>
      simp only [List.map_cons, PyData.eqvAll, PyData.eqv, ih]
      by_cases h : x = y <;> by_cases h2 : xs = ys <;> simp [h, h2]
/-- a row of ints, as a tuple -/
def iT (xs : List Int) : D := .tup (xs.map D.int)
def iL (xs : List Int) : D := .lst (xs.map D.int)
theorem q_shT (xs : List Int) : SeqAt.shaped (.tuple (xs.map PyData.int)) = true := by
  unfold SeqAt.shaped
  simp only [PyData.canLay0, PyData.depth, q_lay, q_dep, Bool.true_and]
  decide
theorem q_shL (xs : List Int) : SeqAt.shaped (.list (xs.map PyData.int)) = true := by
  unfold SeqAt.shaped
  simp only [PyData.canLay0, PyData.depth, q_lay, q_dep, Bool.true_and]
  decide
theorem q_pdT (xs : List Int) : (iT xs).pd = some (.tuple (xs.map PyData.int)) := by
  show (pdAll (xs.map D.int)).map PyData.tuple = _
  rw [q_pd]
  rfl
theorem q_pdL (xs : List Int) : (iL xs).pd = some (.list (xs.map PyData.int)) := by
  show (pdAll (xs.map D.int)).map PyData.list = _
  rw [q_pd]
  rfl
theorem eqD_T (xs ys : List Int) : eqD (iT xs) (iT ys) = .ok (decide (xs = ys)) := by
  unfold eqD
  rw [q_pdT, q_pdT]
  show (if SeqAt.shaped (.tuple (xs.map PyData.int)) && SeqAt.shaped (.tuple (ys.map PyData.int)) then R.ok (PyData.eqv (.tuple (xs.map PyData.int)) (.tuple (ys.map PyData.int))) else .bad) = _
  rw [q_shT, q_shT, PyData.eqv, q_eqv]
  rfl
theorem eqD_L (xs ys : List Int) : eqD (iL xs) (iL ys) = .ok (decide (xs = ys)) := by
  unfold eqD
  rw [q_pdL, q_pdL]
  show (if SeqAt.shaped (.list (xs.map PyData.int)) && SeqAt.shaped (.list (ys.map PyData.int)) then R.ok (PyData.eqv (.list (xs.map PyData.int)) (.list (ys.map PyData.int))) else .bad) = _
  rw [q_shL, q_shL, PyData.eqv, q_eqv]
  rfl
theorem cmp_eqT (xs ys : List Int) : cmpD .eq (iT xs) (iT ys) = .ok (decide (xs = ys)) := eqD_T xs ys
theorem cmp_neT (xs ys : List Int) : cmpD .ne (iT xs) (iT ys) = .ok (!decide (xs = ys)) := by
  show (match eqD (iT xs) (iT ys) with
    | .ok b => R.ok (!b)
    | _ => .bad) = _
  rw [eqD_T]
theorem cmp_eqL (xs ys : List Int) : cmpD .eq (iL xs) (iL ys) = .ok (decide (xs = ys)) := eqD_L xs ys
theorem cmp_neL (xs ys : List Int) : cmpD .ne (iL xs) (iL ys) = .ok (!decide (xs = ys)) := by
  show (match eqD (iL xs) (iL ys) with
    | .ok b => R.ok (!b)
    | _ => .bad) = _
  rw [eqD_L]
/-! ### in, of rows of ints -/
theorem q_pdTs (xss : List (List Int)) : pdAll (xss.map iT) = some (xss.map fun xs => PyData.tuple (xs.map PyData.int)) := by
  induction xss with
  | nil => rfl
  | cons x xs ih =>
    show (match (iT x).pd, pdAll (xs.map iT) with
      | some p, some ps => some (p :: ps)
      | _, _ => none) = _
    rw [ih, q_pdT]
    rfl
theorem q_layT (xss : List (List Int)) : PyData.canLayAll0 (xss.map fun xs => PyData.tuple (xs.map PyData.int)) = true := by
  induction xss with
  | nil => rfl
  | cons x xs ih => simp only [List.map_cons, PyData.canLayAll0, PyData.canLay0, ih, q_lay, Bool.and_self]
theorem q_depT (xss : List (List Int)) : PyData.depthAll (xss.map fun xs => PyData.tuple (xs.map PyData.int)) ≤ 1 := by
  induction xss with
  | nil => exact Nat.zero_le _
  | cons x xs ih =>
    simp only [List.map_cons, PyData.depthAll, PyData.depth, q_dep]
    omega
theorem q_shTs (xss : List (List Int)) : SeqAt.shaped (.list (xss.map fun xs => PyData.tuple (xs.map PyData.int))) = true := by
  unfold SeqAt.shaped
  simp only [PyData.canLay0, PyData.depth, q_layT, Bool.true_and]
  have := q_depT xss
  exact decide_eq_true (by omega)
theorem in_T (x : List Int) (xss : List (List Int)) : inD (iT x) (.lst (xss.map iT)) = .ok (decide (x ∈ xss)) := by
  have h : (xss.map fun xs => PyData.tuple (xs.map PyData.int)).any (fun z => PyData.eqv z (.tuple (x.map PyData.int))) = decide (x ∈ xss) := by
    induction xss with
    | nil => rfl
    | cons y ys ih =>
      simp only [List.map_cons, List.any_cons, ih, PyData.eqv, q_eqv]
      by_cases h : y = x
      · subst h; simp
      · have : ¬ x = y := fun e => h e.symm
        simp [h, this]
  show (if flatD (iT x) && (xss.map iT).all flatD then R.ok ((xss.map iT).any fun z => eqF z (iT x)) else
      match (iT x).pd, pdAll (xss.map iT) with
      | some p, some ps => if SeqAt.shaped p && SeqAt.shaped (.list ps) then R.ok (ps.any fun z => PyData.eqv z p) else .bad
      | _, _ => .bad) = _
  rw [show flatD (iT x) = false from rfl, Bool.false_and, if_neg (by decide), q_pdT, q_pdTs]
  show (if SeqAt.shaped (.tuple (x.map PyData.int)) && SeqAt.shaped (.list (xss.map fun xs => PyData.tuple (xs.map PyData.int))) then R.ok ((xss.map fun xs => PyData.tuple (xs.map PyData.int)).any fun z => PyData.eqv z (.tuple (x.map PyData.int))) else .bad) = _
  rw [q_shT, q_shTs, h]
  rfl
theorem cmp_inT (x : List Int) (xss : List (List Int)) : cmpD .isin (iT x) (.lst (xss.map iT)) = .ok (decide (x ∈ xss)) := in_T x xss
/-- False in a row of truths -/
theorem in_bl (bs : List Bool) : cmpD .isin (.bl false) (.lst (bs.map D.bl)) = .ok (decide (false ∈ bs)) := by
  show (if flatD (.bl false) && (bs.map D.bl).all flatD then R.ok ((bs.map D.bl).any fun z => eqF z (.bl false)) else _) = _
  have h1 : (bs.map D.bl).all flatD = true := by
    rw [List.all_map]
    exact List.all_eq_true.mpr fun b _ => rfl
  rw [h1, if_pos (show (flatD (.bl false) && true) = true from rfl)]
  congr 1
  induction bs with
  | nil => rfl
  | cons b bs ih =>
    have h2 : (bs.map D.bl).all flatD = true := by
      rw [List.all_map]
      exact List.all_eq_true.mpr fun b _ => rfl
    rw [List.map_cons, List.any_cons, ih h2]
    cases b <;> simp [eqF]
end PV
/-! Plain laws, part 11: _law_town whole. -/
namespace PV
open PySem PySem.Spec PyProof.Rows L2
def cusL (C : List Int) : PV.D := .lst (C.map fun c => .lst (menuD.take c.toNat))
def cusT (C : List Int) : PV.D := .tup (C.map fun c => .tup (menuD.take c.toNat))
def s213 : List Int := (List.replicate 48 [21, 3]).flatten
def s214 : List Int := (List.replicate 48 [21, 4]).flatten
theorem s213_ok : s213.length = 96 ∧ (∀ s ∈ s213, 0 < s ∧ s < 1000) ∧ ∀ p < 48, s213[2 * p]? = some 21 ∧ s213[2 * p + 1]? = some 3 := by decide +kernel
theorem s214_ok : s214.length = 96 ∧ (∀ s ∈ s214, 0 < s ∧ s < 1000) ∧ ∀ p < 48, s214[2 * p]? = some 21 ∧ s214[2 * p + 1]? = some 4 := by decide +kernel
theorem countsT_ok : ∀ C ∈ countsT, C.length ≤ 4 ∧ 1 ≤ C.length ∧ ∀ n ∈ C, 1 ≤ n ∧ n ≤ 4 := by decide +kernel
section
variable {T : Tab} {wf n : Nat} {call : Cal → List PV.D → PV.R PV.D}
theorem cus_ok {C : List Int} (hC : C ∈ countsT) (s0 s1 s2 s3 s6 s7 s8 s9 s10 s11 s12 s13 s14 s15 s16 s17 s18 s19 : Option PV.D) : evE T call [s0, s1, s2, s3, some (.lst (C.map D.int)), some (.lst menuD), s6, s7, s8, s9, s10, s11, s12, s13, s14, s15, s16, s17, s18, s19] eCus = .ok (cusL C) := by
  have h : C = [2, 2] ∨ C = [2, 2, 2] ∨ C = [3, 2] ∨ C = [2, 3] ∨ C = [3, 3] ∨ C = [2] ∨ C = [1, 2] ∨ C = [2, 2, 2, 2] ∨ C = [4, 2] ∨ C = [4, 4] ∨ C = [1, 1, 2] ∨ C = [2, 2, 3] := by
    simpa [countsT] using hC
  rcases h with rfl | rfl | rfl | rfl | rfl | rfl | rfl | rfl | rfl | rfl | rfl | rfl <;> kernel_rfl
theorem mul48_3 {ρ : En} : evE T call ρ (.bin .mul (.lst (intEs [21, 3])) (.lit (.int 48))) = .ok (.lst (s213.map D.int)) := by kernel_rfl
theorem mul48_4 {ρ : En} : evE T call ρ (.bin .mul (.lst (intEs [21, 4])) (.lit (.int 48))) = .ok (.lst (s214.map D.int)) := by kernel_rfl
theorem menu_ok {ρ : En} : evE T call ρ eMenu = .ok (.lst menuD) := by kernel_rfl
theorem slips_ok {ρ : En} {shp : List Int} {s1 : Int} (h3 : ρ[3]? = some (some (.lst (shp.map D.int)))) (hs : shp[1]? = some s1) (h0 : 0 ≤ s1 ∧ s1 < 2) :
    ∃ sl : Str, (sl = "even" ∨ sl = "loss") ∧ evE T call ρ eSlips = .ok (.str sl) := by
  have e2 : evE T call ρ (.sub (.var 3) (.lit (.int 1))) = .ok (.int s1) := by
    show (rdV ρ 3 >>= fun x => PV.R.ok (.int 1) >>= fun y => subD x y) = _
    have : rdV ρ 3 = .ok (.lst (shp.map D.int)) := by
      unfold rdV
      rw [h3]
    rw [this, R.ok_bind, R.ok_bind]
    exact sub_ints (by decide) hs
  have e1 : evE T call ρ (.fzl (.lst (.cons (.lit (.str "even")) (.cons (.lit (.str "loss")) .nil)))) = .ok (.lst [.str "even", .str "loss"]) := by kernel_rfl
  have : s1 = 0 ∨ s1 = 1 := by omega
  rcases this with rfl | rfl
  · refine ⟨"even", .inl rfl, ?_⟩
    show (evE T call ρ (.fzl (.lst (.cons (.lit (.str "even")) (.cons (.lit (.str "loss")) .nil)))) >>= fun x => evE T call ρ (.sub (.var 3) (.lit (.int 1))) >>= fun y => subD x y) = _
    rw [e1, e2, R.ok_bind, R.ok_bind]
    exact r_l0
  · refine ⟨"loss", .inr rfl, ?_⟩
    show (evE T call ρ (.fzl (.lst (.cons (.lit (.str "even")) (.cons (.lit (.str "loss")) .nil)))) >>= fun x => evE T call ρ (.sub (.var 3) (.lit (.int 1))) >>= fun y => subD x y) = _
    rw [e1, e2, R.ok_bind, R.ok_bind]
    exact r_l1
theorem DigOk.get {S R : List Int} (h : DigOk S R) {k : Nat} {s : Int} (hs : S[k]? = some s) : ∃ r, R[k]? = some r ∧ 0 ≤ r ∧ r < s := by
  have hk : k < R.length := by
    rw [h.len]
    exact (List.getElem?_eq_some_iff.mp hs).1
  refine ⟨R[k], by simp [hk], ?_⟩
  exact h.at_ k R[k] s (by simp [hk]) hs
variable {jT iC iD : Nat}
theorem town_ok (hT : T.fns[jT]? = some ⟨3, 20, [], bTown iC iD⟩) (hC : T.fns[iC]? = some ⟨2, 4, [], bCell⟩) (hD : T.fns[iD]? = some ⟨2, 8, [], bDig⟩) (ns : List Int) {k : Int} (h0 : 0 ≤ k) (h1 : k < 1000) (sh : Bool) :
    ∃ (C : List Int) (ws : List Wt) (sl : Str), C ∈ countsT ∧ WsOk C ws 2048 ∧ (sl = "even" ∨ sl = "loss") ∧ calN T wf (n + 3) (.fn jT) [.scr ns, .int k, .bl sh] = .ok (.lst [cusL C, .lst (ws.map Wt.l), .str sl]) := by
  obtain ⟨c0, hc0⟩ := cell_ok (wf := wf) (n := n) hC ns h0 (show k < 2 ^ 20 by omega)
  obtain ⟨c1, hc1⟩ := cell_ok (wf := wf) (n := n) hC ns (k := k + 1) (by omega) (by omega)
  obtain ⟨c2, hc2⟩ := cell_ok (wf := wf) (n := n) hC ns (k := k + 2) (by omega) (by omega)
  obtain ⟨shp, dsh, hd0⟩ := digits_ok (wf := wf) (n := n) hD c0 [12, 2, 97, 3] (by decide) (by decide)
  obtain ⟨rw_, drw, hd1⟩ := digits_ok (wf := wf) (n := n) hD c1 s213 s213_ok.2.1 (by rw [s213_ok.1]; decide)
  obtain ⟨ot, dot, hd2⟩ := digits_ok (wf := wf) (n := n) hD c2 s214 s214_ok.2.1 (by rw [s214_ok.1]; decide)
  obtain ⟨x0, hx0, bx0⟩ := dsh.get (k := 0) rfl
  obtain ⟨x1, hx1, bx1⟩ := dsh.get (k := 1) rfl
  obtain ⟨x3, hx3, bx3⟩ := dsh.get (k := 3) rfl
  obtain ⟨C, hCm, eC⟩ := counts_ok (T := T) (call := calN T wf (n + 2)) (ρ := [some (.scr ns), some (.int k), some (.bl sh), some (.lst (shp.map D.int)), none, none, none, none, none, none, none, none, none, none, none, none, none, none, none, none]) (shp := shp) rfl hx0 bx0
  have hcnt := countsT_ok C hCm
  have tc : TownOk ⟨.scr ns, .int k, sh, shp, C, .lst menuD, cusL C, rw_, ot⟩ := ⟨fun p hp => by
      have a1 := s213_ok.2.2 p.toNat (by omega)
      have a2 := s214_ok.2.2 p.toNat (by omega)
      obtain ⟨r0, g0, b0⟩ := drw.get a1.1
      obtain ⟨r1, g1, b1⟩ := drw.get a1.2
      obtain ⟨q0, u0, v0⟩ := dot.get a2.1
      obtain ⟨q1, u1, v1⟩ := dot.get a2.2
      have e1 : (2 * p).toNat = 2 * p.toNat := by omega
      have e2 : (2 * p + 1).toNat = 2 * p.toNat + 1 := by omega
      exact ⟨r0, r1, q0, q1, x3, hp, ⟨by rw [e1]; exact g0, b0⟩, ⟨by rw [e2]; exact g1, b1⟩, ⟨by rw [e1]; exact u0, v0⟩, by rw [e2]; exact u1, hx3⟩, hcnt.1, hcnt.2.2⟩
  obtain ⟨ws, p', o11, o12, o13, o14, o15, o16, eL, hw⟩ := loop1 (T := T) (wf := wf) (call := calN T wf (n + 2)) tc
  obtain ⟨sl, hsl, esl⟩ := slips_ok (T := T) (call := calN T wf (n + 2)) (ρ := TownC.env ⟨.scr ns, .int k, sh, shp, C, .lst menuD, cusL C, rw_, ot⟩ ws p' o11 o12 o13 o14 o15 o16) (shp := shp) rfl hx1 bx1
  have hl4 : (C.length : Int) * 512 ≤ 2048 := by omega
  refine ⟨C, ws, sl, hCm, hw.mono hl4, hsl, ?_⟩
  have z0 : startE 20 [D.scr ns, .int k, .bl sh] = [some (.scr ns), some (.int k), some (.bl sh), none, none, none, none, none, none, none, none, none, none, none, none, none, none, none, none, none] := rfl
  have d0 : evE T (calN T wf (n + 2)) [some (.scr ns), some (.int k), some (.bl sh), none, none, none, none, none, none, none, none, none, none, none, none, none, none, none, none, none] (eDig iC iD (.var 1) (.lst (intEs [12, 2, 97, 3]))) = .ok (.lst (shp.map D.int)) := by
    have q := ev_lint (T := T) (call := calN T wf (n + 2)) (ρ := [some (.scr ns), some (.int k), some (.bl sh), none, none, none, none, none, none, none, none, none, none, none, none, none, none, none, none, none]) (is := [12, 2, 97, 3]) (by decide)
    unfold eDig
    generalize (.lst (intEs [12, 2, 97, 3]) : E) = e at q ⊢
    simp -implicitDefEqProofs (disch := omega) only [PV.zR, List.set_cons_zero, List.set_cons_succ, Bool.true_and, Bool.and_true, Bool.false_and, Bool.and_false, Bool.true_or, Bool.or_true, Bool.false_or, Bool.or_false, Bool.not_true, Bool.not_false, decide_true, decide_false, hc0, q, hd0]
  have d1 : ∀ o4 o5 o6, evE T (calN T wf (n + 2)) [some (.scr ns), some (.int k), some (.bl sh), some (.lst (shp.map D.int)), o4, o5, o6, none, none, none, none, none, none, none, none, none, none, none, none, none] (eDig iC iD (.bin .add (.var 1) (.lit (.int 1))) (.bin .mul (.lst (intEs [21, 3])) (.lit (.int 48)))) = .ok (.lst (rw_.map D.int)) := by
    intro o4 o5 o6
    have q := mul48_3 (T := T) (call := calN T wf (n + 2)) (ρ := [some (.scr ns), some (.int k), some (.bl sh), some (.lst (shp.map D.int)), o4, o5, o6, none, none, none, none, none, none, none, none, none, none, none, none, none])
    unfold eDig
    generalize (.bin .mul (.lst (intEs [21, 3])) (.lit (.int 48)) : E) = e at q ⊢
    simp -implicitDefEqProofs (disch := omega) only [PV.zR, List.set_cons_zero, List.set_cons_succ, Bool.true_and, Bool.and_true, Bool.false_and, Bool.and_false, Bool.true_or, Bool.or_true, Bool.false_or, Bool.or_false, Bool.not_true, Bool.not_false, decide_true, decide_false, hc1, q, hd1]
  have d2 : ∀ o4 o5 o6 o7, evE T (calN T wf (n + 2)) [some (.scr ns), some (.int k), some (.bl sh), some (.lst (shp.map D.int)), o4, o5, o6, o7, none, none, none, none, none, none, none, none, none, none, none, none] (eDig iC iD (.bin .add (.var 1) (.lit (.int 2))) (.bin .mul (.lst (intEs [21, 4])) (.lit (.int 48)))) = .ok (.lst (ot.map D.int)) := by
    intro o4 o5 o6 o7
    have q := mul48_4 (T := T) (call := calN T wf (n + 2)) (ρ := [some (.scr ns), some (.int k), some (.bl sh), some (.lst (shp.map D.int)), o4, o5, o6, o7, none, none, none, none, none, none, none, none, none, none, none, none])
    unfold eDig
    generalize (.bin .mul (.lst (intEs [21, 4])) (.lit (.int 48)) : E) = e at q ⊢
    simp -implicitDefEqProofs (disch := omega) only [PV.zR, List.set_cons_zero, List.set_cons_succ, Bool.true_and, Bool.and_true, Bool.false_and, Bool.and_false, Bool.true_or, Bool.or_true, Bool.false_or, Bool.or_false, Bool.not_true, Bool.not_false, decide_true, decide_false, hc2, q, hd2]
  refine r_ret (F := ⟨3, 20, [], bTown iC iD⟩) hT rfl (ρ := TownC.env ⟨.scr ns, .int k, sh, shp, C, .lst menuD, cusL C, rw_, ot⟩ ws p' o11 o12 o13 o14 o15 o16) ?_
  show exSs T (calN T wf (n + 2)) wf (startE 20 [D.scr ns, .int k, .bl sh]) (bTown iC iD) = _
  rw [z0, bTown]
  rw [ss_next (s_asg_eq d0)]
  simp only [List.set_cons_zero, List.set_cons_succ]
  rw [ss_next (s_asg_eq eC)]
  simp only [List.set_cons_zero, List.set_cons_succ]
  rw [ss_next (s_asg_eq menu_ok)]
  simp only [List.set_cons_zero, List.set_cons_succ]
  rw [ss_next (s_asg_eq (cus_ok hCm _ _ _ _ _ _ _ _ _ _ _ _ _ _ _ _ _ _))]
  simp only [List.set_cons_zero, List.set_cons_succ]
  rw [ss_next (s_asg_eq (d1 _ _ _))]
  simp only [List.set_cons_zero, List.set_cons_succ]
  rw [ss_next (s_asg_eq (d2 _ _ _ _))]
  simp only [List.set_cons_zero, List.set_cons_succ]
  rw [ss_next (s_asg_eq ev_nil)]
  simp only [List.set_cons_zero, List.set_cons_succ]
  rw [ss_next (s_asg_eq (d := .int 0) rfl)]
  simp only [List.set_cons_zero, List.set_cons_succ]
  refine (ss_next eL).trans ?_
  refine ss_ret (s_ret_eq ?_)
  show (R.ok (cusL C) >>= fun x => (R.ok (PV.D.lst (ws.map Wt.l)) >>= fun y => (evE T (calN T wf (n + 2)) (TownC.env ⟨.scr ns, .int k, sh, shp, C, .lst menuD, cusL C, rw_, ot⟩ ws p' o11 o12 o13 o14 o15 o16) eSlips >>= fun z => R.ok [] >>= fun zs => R.ok (z :: zs)) >>= fun ys => R.ok (y :: ys)) >>= fun xs => R.ok (x :: xs)) >>= (fun ds => if ds.length ≤ sizeLine then R.ok (PV.D.lst ds) else R.bad) = _
  rw [esl]
  simp only [R.ok_bind, r_sz3, if_true]
end
end PV
/-! Plain laws: loops by the turn's number, instances, more of ==. -/
namespace PV
open PySem PySem.Spec PyProof.Rows L2
section
variable {T : Tab} {call : Cal → List PV.D → PV.R PV.D} {wf n : Nat} {ρ : En}
/-- a for over a range, by the turn's number -/
theorem r_forR {m : Nat} {t : Tg} {it : It} {b : Ss} {I : Nat → En → Prop} (hi : evIt T call ρ it = .ok ((List.range m).map fun k => D.int (k : Nat))) (h0 : I 0 ρ)
    (hs : ∀ j ρ, j < m → I j ρ → ∃ ρ1 ρ2, setT t (.int (j : Nat)) ρ = .ok ρ1 ∧ exSs T call wf ρ1 b = .ok (.next, ρ2) ∧ I (j + 1) ρ2) :
    ∃ ρ', exS T call wf ρ (.for_ t it b) = .ok (.next, ρ') ∧ I m ρ' := by
  obtain ⟨ρ', h1, h2⟩ := forL_N (t := t) (body := fun ρ => exSs T call wf ρ b) (I := I) (xs := (List.range m).map fun k => D.int (k : Nat)) (fun j x ρ hx hI => by
    rw [List.getElem?_map] at hx
    by_cases q : j < m
    · rw [List.getElem?_range q] at hx
      cases hx
      exact hs j ρ q hI
    · rw [List.getElem?_eq_none (by simpa using q)] at hx
      cases hx) h0
  refine ⟨ρ', ?_, by simpa using h2⟩
  show (evIt T call ρ it >>= fun xs => forL t (fun ρ => exSs T call wf ρ b) xs ρ) = _
  rw [hi]
  exact h1
theorem r_mapT {ι : Type} {g : ι → PV.D} {is : List ι} {j : Nat} (h : j < is.length) : subD (.tup (is.map g)) (.int (j : Nat)) = .ok (g is[j]) := by
  rw [r_atTD (by omega) (by simpa using h)]
  simp [h]
theorem r_mapL {ι : Type} {g : ι → PV.D} {is : List ι} {j : Nat} (h : j < is.length) : subD (.lst (is.map g)) (.int (j : Nat)) = .ok (g is[j]) := by
  rw [r_atLD (by omega) (by simpa using h)]
  simp [h]
theorem kb_inT (x : List Int) (xss : List (List Int)) : cmpB .isin (_root_.PV.iT x) (.lst (xss.map _root_.PV.iT)) = .ok (.bl (decide (x ∈ xss))) := by
  show (cmpD .isin (_root_.PV.iT x) (.lst (xss.map _root_.PV.iT)) >>= fun k => PV.R.ok (PV.D.bl k)) = _
  rw [cmp_inT]
  rfl
theorem kb_eqT (x y : List Int) : cmpB .eq (_root_.PV.iT x) (_root_.PV.iT y) = .ok (.bl (decide (x = y))) := by
  show (cmpD .eq (_root_.PV.iT x) (_root_.PV.iT y) >>= fun k => PV.R.ok (PV.D.bl k)) = _
  rw [cmp_eqT]
  rfl
theorem kb_neT (x y : List Int) : cmpB .ne (_root_.PV.iT x) (_root_.PV.iT y) = .ok (.bl (!decide (x = y))) := by
  show (cmpD .ne (_root_.PV.iT x) (_root_.PV.iT y) >>= fun k => PV.R.ok (PV.D.bl k)) = _
  rw [cmp_neT]
  rfl
theorem kb_inbl (bs : List Bool) : cmpB .isin (.bl false) (.lst (bs.map D.bl)) = .ok (.bl (decide (false ∈ bs))) := by
  show (cmpD .isin (.bl false) (.lst (bs.map D.bl)) >>= fun k => PV.R.ok (PV.D.bl k)) = _
  rw [in_bl]
  rfl
/-! ### making an instance -/
def iniF (x : PV.R (Fl × En)) : PV.R PV.D := x >>= fun q => match q with
  | (.next, ρ) => rdV ρ 0
  | _ => .bad
theorem f_ini {d : PV.D} {ρ : En} : iniF (.ok (.next, some d :: ρ)) = .ok d := rfl
theorem c_mk {c i : Nat} {F : Fn} {ds : List PV.D} (hc : (T.cls[c]?).bind (·.init) = some i) (hF : T.fns[i]? = some F) (hl : ds.length + 1 = F.np) : calN T wf (n + 3) (.mk c) ds = iniF (exSs T (calN T wf (n + 1)) wf (startE F.ns (.ins c [] :: ds)) F.body) := by
  show calN T wf (n + 2) (.ini c) ds = _
  have e : calN T wf (n + 2) (.ini c) ds = iniF (bodyD T (calN T wf (n + 1)) wf F (.ins c [] :: ds)) := by
    show (match (T.cls[c]?).bind (·.init) with
    | some f => match T.fns[f]? with
      | some F => (bodyD T (calN T wf (n + 1)) wf F (.ins c [] :: ds)) >>= fun q => match q with
        | (.next, ρ) => rdV ρ 0
        | _ => .bad
      | none => .bad
    | none => .bad) = _
    rw [hc]
    show (match T.fns[i]? with
      | some F => (bodyD T (calN T wf (n + 1)) wf F (.ins c [] :: ds)) >>= fun q => match q with
        | (.next, ρ) => rdV ρ 0
        | _ => .bad
      | none => .bad) = _
    rw [hF]
    rfl
  rw [e]
  have hl' : (D.ins c [] :: ds).length = F.np := by rw [List.length_cons, hl]
  have : bodyD T (calN T wf (n + 1)) wf F (.ins c [] :: ds) = exSs T (calN T wf (n + 1)) wf (startE F.ns (.ins c [] :: ds)) F.body := by
    unfold bodyD
    rw [if_neg (by rw [List.length_append]; omega), if_neg (by omega), hl', Nat.sub_self, Nat.sub_zero, List.drop_length, List.append_nil]
  rw [this]
end
/-! ### rows of ints -/
theorem set_row {row : List Int} {p : Nat} (h : p < row.length) (k : Int) : row.take p ++ [k] ++ row.drop (p + 1) = row.set p k := by
  rw [List.set_eq_take_append_cons_drop, if_pos h]
  simp
theorem set_row2 {row : List Int} {p : Nat} (h : p < row.length) (c : Int) : (List.range row.length).map (fun k : Nat => if (k : Int) = (p : Int) then c else row.getD k 0) = row.set p c := by
  apply List.ext_getElem
  · simp
  · intro i h1 h2
    have hi : i < row.length := by simpa using h1
    rw [List.getElem_map, List.getElem_range, List.getElem_set]
    by_cases e : p = i
    · subst e; simp
    · rw [if_neg (by omega), if_neg e]
      simp [hi]
def maxL : List Int → Int
  | [] => 0
  | x :: xs => maxI x xs
theorem k_maxL {L : List Int} (h : L ≠ []) : biD .max [iL L] = .ok (.int (maxL L)) := by
  cases L with
  | nil => exact absurd rfl h
  | cons x xs => exact r_max
/-- the place of a row among rows -/
theorem index_T {x : List Int} {xss : List (List Int)} (h : x ∈ xss) : bmD .index (.lst (xss.map _root_.PV.iT)) [_root_.PV.iT x] = .ok (.int ((xss.idxOf x : Nat) : Int)) := by
  have key : ∀ xss : List (List Int), x ∈ xss → (xss.map fun xs => PyData.tuple (xs.map PyData.int)).findIdx? (fun z => PyData.eqv z (.tuple (x.map PyData.int))) = some (xss.idxOf x) := by
    intro xss
    induction xss with
    | nil => intro h; cases h
    | cons y ys ih =>
      intro h
      rw [List.map_cons, List.findIdx?_cons, List.idxOf_cons]
      simp only [PyData.eqv, q_eqv]
      by_cases e : y = x
      · subst e; simp
      · have hm : x ∈ ys := by
          rcases List.mem_cons.mp h with h | h
          · exact absurd h.symm e
          · exact h
        have ih' := ih hm
        have e3 : (fun z : PyData => z.eqv (.tuple (x.map PyData.int))) = fun z => PyData.eqv z (.tuple (x.map PyData.int)) := rfl
        rw [ih']
        have e2 : (y == x) = false := by simpa using e
        simp [e, e2]
  show (match (_root_.PV.iT x).pd, pdAll (xss.map _root_.PV.iT) with
    | some p, some ps => if SeqAt.shaped p && SeqAt.shaped (.list ps) then
        match ps.findIdx? fun z => PyData.eqv z p with
        | some j => PV.R.ok (PV.D.int j)
        | none => .bad
      else .bad
    | _, _ => .bad) = _
  rw [q_pdT, q_pdTs]
  show (if SeqAt.shaped (.tuple (x.map PyData.int)) && SeqAt.shaped (.list (xss.map fun xs => PyData.tuple (xs.map PyData.int))) then
        match (xss.map fun xs => PyData.tuple (xs.map PyData.int)).findIdx? fun z => PyData.eqv z (.tuple (x.map PyData.int)) with
        | some j => PV.R.ok (PV.D.int j)
        | none => .bad
      else .bad) = _
  rw [q_shT, q_shTs, key xss h]
  rfl
/-- an int among ints -/
theorem in_I (x : Int) (ys : List Int) : cmpB .isin (.int x) (_root_.PV.iT ys) = .ok (.bl (decide (x ∈ ys))) := by
  have h1 : (ys.map D.int).all flatD = true := by
    rw [List.all_map]
    exact List.all_eq_true.mpr fun b _ => rfl
  have h2 : ((ys.map D.int).any fun z => eqF z (.int x)) = decide (x ∈ ys) := by
    clear h1
    induction ys with
    | nil => rfl
    | cons y ys ih =>
      rw [List.map_cons, List.any_cons, ih]
      show ((y == x) || decide (x ∈ ys)) = _
      by_cases e : y = x
      · subst e; simp
      · have : ¬ x = y := fun q => e q.symm
        simp [e, this]
  show ((if flatD (.int x) && (ys.map D.int).all flatD then PV.R.ok ((ys.map D.int).any fun z => eqF z (.int x)) else .bad) >>= fun k => PV.R.ok (PV.D.bl k)) = _
  rw [h1, h2]
  rfl
/-- == of one thing with itself -/
theorem eq_self {d : PV.D} {p : PyData} (h : d.pd = some p) (hs : SeqAt.shaped p = true) : cmpB .eq d d = .ok (.bl true) ∧ cmpB .ne d d = .ok (.bl false) := by
  have e : eqD d d = .ok true := by
    unfold eqD
    rw [h]
    show (if SeqAt.shaped p && SeqAt.shaped p then PV.R.ok (PyData.eqv p p) else .bad) = _
    rw [hs, SeqAt.eqv_refl p (SeqAt.canLay_of_shaped hs)]
    rfl
  constructor
  · show (eqD d d >>= fun k => PV.R.ok (PV.D.bl k)) = _
    rw [e]
    rfl
  · show ((match eqD d d with
      | .ok b => PV.R.ok (!b)
      | _ => .bad) >>= fun k => PV.R.ok (PV.D.bl k)) = _
    rw [e]
    rfl
theorem foldl_app {α β : Type} (g : β → List α) : ∀ (l : List β) (a : List α), l.foldl (fun a x => a ++ g x) a = a ++ l.flatMap g
  | [], a => by simp
  | x :: l, a => by rw [List.foldl_cons, foldl_app g l]; simp
end PV
/-! Towns, part 1: what is checked. -/
namespace LW
open PySem PySem.Spec PyProof.Rows L2 PV
section
variable {n : Nat}
theorem glob4 : R.of T.globs[7]? = .ok (.int 10) := rfl
theorem whole_ok {i : Int} : calN T 1000 (n + 2) (.fn 25) [.int i] = .ok (.bl true) := rfl
theorem lwhole_ok {i : Int} : calN T 1000 (n + 2) (.fn 50) [.int i] = .ok (.bl true) := rfl
theorem state_ok {i m : Int} : calN T 1000 (n + 3) (.fn 24) [.int i, .int m] = .ok (.bl (decide (0 ≤ i) && decide (i < m))) := by
  refine r_ret (ρ := [some (.int i), some (.int m)]) hF24 rfl ?_
  show exSs T (calN T 1000 (n + 2)) 1000 [some (.int i), some (.int m)] b24 = _
  unfold b24
  simp -implicitDefEqProofs (disch := omega) only [PV.zR, List.set_cons_zero, List.set_cons_succ, Bool.true_and, Bool.and_true, Bool.false_and, Bool.and_false, Bool.true_or, Bool.or_true, Bool.false_or, Bool.or_false, Bool.not_true, Bool.not_false, decide_true, decide_false, whole_ok]
theorem row5_ok {x : Wt} : calN T 1000 (n + 2) (.fn 23) [x.t, .int 5] = .ok (.bl true) := by kernel_rfl
/-! ### frozen -/
theorem frozen_int {i : Int} : calN T 1000 (n + 2) (.fn 20) [.int i] = .ok (.int i) := rfl
theorem frozen_lst {ι : Type} {is : List ι} (g f : ι → PV.D) (hz : is.length ≤ 1000000) (h : ∀ i ∈ is, calN T 1000 (n + 1) (.fn 20) [g i] = .ok (f i)) : calN T 1000 (n + 2) (.fn 20) [.lst (is.map g)] = .ok (.tup (is.map f)) := by
  have e : evE T (calN T 1000 (n + 1)) [some (.lst (is.map g)), none, none] b20_c0 = .ok (.lst (is.map f)) := r_comp g f rfl hz fun i hi => ⟨[some (.lst (is.map g)), none, some (g i)], rfl, by simp -implicitDefEqProofs (disch := omega) only [PV.zR, List.set_cons_zero, List.set_cons_succ, Bool.true_and, Bool.and_true, Bool.false_and, Bool.and_false, Bool.true_or, Bool.or_true, Bool.false_or, Bool.or_false, Bool.not_true, Bool.not_false, decide_true, decide_false, h i hi]⟩
  refine r_ret (ρ := [some (.lst (is.map g)), none, none]) hF20 rfl ?_
  show exSs T (calN T 1000 (n + 1)) 1000 [some (.lst (is.map g)), none, none] b20 = _
  unfold b20
  simp -implicitDefEqProofs (disch := omega) only [PV.zR, List.set_cons_zero, List.set_cons_succ, Bool.true_and, Bool.and_true, Bool.false_and, Bool.and_false, Bool.true_or, Bool.or_true, Bool.false_or, Bool.or_false, Bool.not_true, Bool.not_false, decide_true, decide_false, e]
theorem frozen_wt {x : Wt} : calN T 1000 (n + 3) (.fn 20) [x.l] = .ok x.t :=
  frozen_lst (is := [x.i, x.a, x.j, x.b, x.w]) D.int D.int (by simp) fun i _ => frozen_int
theorem frozen_ws {ws : List Wt} (hz : ws.length ≤ 1000000) : calN T 1000 (n + 4) (.fn 20) [.lst (ws.map Wt.l)] = .ok (.tup (ws.map Wt.t)) :=
  frozen_lst Wt.l Wt.t hz fun x _ => frozen_wt
/-! ### a worth -/
theorem len_menu {c : Int} (h : 1 ≤ c ∧ c ≤ 4) : ((menuD.take c.toNat).length : Int) = c := by
  rw [List.length_take]
  show ((min c.toNat 4 : Nat) : Int) = c
  omega
theorem cus_at {C : List Int} {i : Int} (h0 : 0 ≤ i) (h1 : i < C.length) : subD (cusT C) (.int i) = .ok (.tup (menuD.take (C.getD i.toNat 0).toNat)) := by
  unfold cusT
  rw [r_atTD h0 (by simpa using h1)]
  have hl : i.toNat < C.length := by omega
  simp [hl]
theorem cus_len {C : List Int} : biD .len [cusT C] = .ok (.int C.length) := by
  unfold cusT
  rw [r_lenT, List.length_map]
structure CntOk (C : List Int) : Prop where
  len : C.length ≤ 4
  pos : 1 ≤ C.length
  cnt : ∀ k < C.length, 1 ≤ C.getD k 0 ∧ C.getD k 0 ≤ 4
theorem cnt_ok {C : List Int} (h : C ∈ countsT) : CntOk C := by
  have q := countsT_ok C h
  refine ⟨q.1, q.2.1, fun k hk => ?_⟩
  have : C.getD k 0 ∈ C := by
    rw [List.getD_eq_getElem?_getD, List.getElem?_eq_getElem hk]
    exact List.getElem_mem hk
  exact q.2.2 _ this
theorem worth_is {C : List Int} (hC : CntOk C) {x : Wt} (h : WtOk C x) : calN T 1000 (n + 4) (.fn 43) [x.t, cusT C] = .ok (.bl true) := by
  have hi := h.i; have hj := h.j; have hw := h.w
  have li : x.i.toNat < C.length := by omega
  have lj : x.j.toNat < C.length := by omega
  have ha := h.a (C.getD x.i.toNat 0) (by rw [List.getD_eq_getElem?_getD, List.getElem?_eq_getElem li]; rfl)
  have hb := h.b (C.getD x.j.toNat 0) (by rw [List.getD_eq_getElem?_getD, List.getElem?_eq_getElem lj]; rfl)
  have t1 := cus_at hi.1 hi.2
  have t2 := cus_at hj.1 hj.2
  have u1 := len_menu (hC.cnt _ li)
  have u2 := len_menu (hC.cnt _ lj)
  have ne := h.ne
  refine r_ret (ρ := [some x.t, some (cusT C)]) hF43 rfl ?_
  show exSs T (calN T 1000 (n + 3)) 1000 [some x.t, some (cusT C)] b43 = _
  unfold b43
  have r5 := row5_ok (n := n + 1) (x := x)
  have t0 : x.t = .tup [.int x.i, .int x.a, .int x.j, .int x.b, .int x.w] := rfl
  rw [t0] at r5 ⊢
  simp -implicitDefEqProofs (disch := omega) only [PV.zR, List.set_cons_zero, List.set_cons_succ, Bool.true_and, Bool.and_true, Bool.false_and, Bool.and_false, Bool.true_or, Bool.or_true, Bool.false_or, Bool.or_false, Bool.not_true, Bool.not_false, decide_true, decide_false, r5, cus_len, state_ok, t1, t2, u1, u2, whole_ok, glob4, decide_eq_true hi.1, decide_eq_true hi.2, decide_eq_true hj.1, decide_eq_true hj.2, decide_eq_true ha.1, decide_eq_true ha.2, decide_eq_true hb.1, decide_eq_true hb.2, decide_eq_true hw.1, decide_eq_true hw.2, decide_eq_false ne]
end
end LW
/-! Towns, part 2: the making of a town. -/
namespace LW
open PySem PySem.Spec PyProof.Rows L2 PV
def key (x : Wt) : List Int := [x.i, x.a, x.j, x.b]
theorem key_same {x y : Wt} (h : key x = key y) : x.same y := by
  unfold key at h
  simp only [List.cons.injEq, and_true] at h
  exact h
section
variable {n : Nat}
theorem cut4 {x : Wt} : slHD x.t (.int 4) = .ok (PV.iT (key x)) := by kernel_rfl
theorem checked_ok {C : List Int} (hC : CntOk C) {ws : List Wt} (h : ∀ x ∈ ws, WtOk C x) (hk : ws.Pairwise fun x y => ¬ x.same y) (hz : ws.length < 100000) :
    calN T 1000 (n + 5) (.fn 42) [.tup (ws.map Wt.t), cusT C] = .ok (.tup (ws.map Wt.t)) := by
  have e0 : evIt T (calN T 1000 (n + 4)) [some (.tup (ws.map Wt.t)), some (cusT C), some (.lst []), none] (.rng1 (.bi .len (.cons (.var 0) .nil))) = .ok ((List.range ws.length).map fun k => D.int (k : Nat)) := by
    simp -implicitDefEqProofs (disch := omega) only [PV.zR, List.set_cons_zero, List.set_cons_succ, Bool.true_and, Bool.and_true, Bool.false_and, Bool.and_false, Bool.true_or, Bool.or_true, Bool.false_or, Bool.or_false, Bool.not_true, Bool.not_false, decide_true, decide_false, List.length_map, Int.toNat_natCast]
  obtain ⟨ρ', hl, o, rfl⟩ := r_forR (T := T) (call := calN T 1000 (n + 4)) (wf := 1000) (t := .one 3) (b := b42_l0) (I := fun j ρ => ∃ o, ρ = [some (.tup (ws.map Wt.t)), some (cusT C), some (.lst (((ws.take j).map key).map PV.iT)), o]) e0 ⟨none, rfl⟩ (by
    rintro j ρ hj ⟨o, rfl⟩
    have s1 := r_mapT (g := Wt.t) hj
    have s2 := worth_is (n := n) hC (h ws[j] (List.getElem_mem hj))
    have hnot : ¬ key ws[j] ∈ (ws.take j).map key := by
      intro hm
      obtain ⟨y, hy, e⟩ := List.mem_map.mp hm
      obtain ⟨i, hi, rfl⟩ := List.getElem_of_mem hy
      have hij : i < j := by
        have : i < (ws.take j).length := hi
        rw [List.length_take] at this
        omega
      have hp := List.pairwise_iff_getElem.mp hk i j (by omega) hj hij
      rw [List.getElem_take] at e
      exact hp (key_same e)
    have s3 := kb_inT (key ws[j]) ((ws.take j).map key)
    rw [decide_eq_false hnot] at s3
    have hlen : (((ws.take j).map key).map PV.iT).length < 1000000 := by
      rw [List.length_map, List.length_map, List.length_take]
      omega
    refine ⟨_, _, rfl, ?_, some (.int (j : Nat)), rfl⟩
    show exSs T (calN T 1000 (n + 4)) 1000 [some (.tup (ws.map Wt.t)), some (cusT C), some (.lst (((ws.take j).map key).map PV.iT)), some (.int (j : Nat))] b42_l0 = _
    unfold b42_l0
    have e9 : (ws.take (j + 1)).map key = (ws.take j).map key ++ [key ws[j]] := by
      rw [List.take_succ_eq_append_getElem hj, List.map_append]
      rfl
    rw [e9, List.map_append]
    generalize ((ws.take j).map key).map PV.iT = kn at s3 hlen ⊢
    simp -implicitDefEqProofs (disch := omega) only [PV.zR, List.set_cons_zero, List.set_cons_succ, Bool.true_and, Bool.and_true, Bool.false_and, Bool.and_false, Bool.true_or, Bool.or_true, Bool.false_or, Bool.or_false, Bool.not_true, Bool.not_false, decide_true, decide_false, s1, s2, cut4, s3, z_appN hlen]
    rfl)
  refine r_ret (ρ := [some (.tup (ws.map Wt.t)), some (cusT C), some (.lst (((ws.take ws.length).map key).map PV.iT)), o]) hF42 rfl ?_
  show exSs T (calN T 1000 (n + 4)) 1000 [some (.tup (ws.map Wt.t)), some (cusT C), none, none] b42 = _
  have hl' : exS T (calN T 1000 (n + 4)) 1000 [some (.tup (ws.map Wt.t)), some (cusT C), some (.lst []), none] b42_f0 = _ := hl
  unfold b42
  simp -implicitDefEqProofs (disch := omega) only [PV.zR, List.set_cons_zero, List.set_cons_succ, Bool.true_and, Bool.and_true, Bool.false_and, Bool.and_false, Bool.true_or, Bool.or_true, Bool.false_or, Bool.or_false, Bool.not_true, Bool.not_false, decide_true, decide_false, hl']
/-! ### people, customs -/
def namesD : List PV.D := [.str "ann", .str "bob", .str "cid", .str "dee"]
def pplL (C : List Int) : PV.D := .lst (namesD.take C.length)
def pplT (C : List Int) : PV.D := .tup (namesD.take C.length)
def cusLT (C : List Int) : PV.D := .lst (C.map fun c => .tup (menuD.take c.toNat))
def rowsN (C : List Int) : Int := C.foldl (· * ·) 1
theorem ppl_frozen {C : List Int} (hC : C ∈ countsT) : calN T 1000 (n + 3) (.fn 20) [pplL C] = .ok (pplT C) := by
  have h : C = [2, 2] ∨ C = [2, 2, 2] ∨ C = [3, 2] ∨ C = [2, 3] ∨ C = [3, 3] ∨ C = [2] ∨ C = [1, 2] ∨ C = [2, 2, 2, 2] ∨ C = [4, 2] ∨ C = [4, 4] ∨ C = [1, 1, 2] ∨ C = [2, 2, 3] := by
    simpa [countsT] using hC
  rcases h with rfl | rfl | rfl | rfl | rfl | rfl | rfl | rfl | rfl | rfl | rfl | rfl <;> kernel_rfl
theorem ppl_ok {C : List Int} (hC : C ∈ countsT) : calN T 1000 (n + 3) (.fn 39) [pplT C] = .ok (pplT C) := by
  have h : C = [2, 2] ∨ C = [2, 2, 2] ∨ C = [3, 2] ∨ C = [2, 3] ∨ C = [3, 3] ∨ C = [2] ∨ C = [1, 2] ∨ C = [2, 2, 2, 2] ∨ C = [4, 2] ∨ C = [4, 4] ∨ C = [1, 1, 2] ∨ C = [2, 2, 3] := by
    simpa [countsT] using hC
  rcases h with rfl | rfl | rfl | rfl | rfl | rfl | rfl | rfl | rfl | rfl | rfl | rfl <;> kernel_rfl
theorem cus_frozen {C : List Int} (hC : C ∈ countsT) : calN T 1000 (n + 4) (.fn 20) [cusLT C] = .ok (cusT C) := by
  have h : C = [2, 2] ∨ C = [2, 2, 2] ∨ C = [3, 2] ∨ C = [2, 3] ∨ C = [3, 3] ∨ C = [2] ∨ C = [1, 2] ∨ C = [2, 2, 2, 2] ∨ C = [4, 2] ∨ C = [4, 4] ∨ C = [1, 1, 2] ∨ C = [2, 2, 3] := by
    simpa [countsT] using hC
  rcases h with rfl | rfl | rfl | rfl | rfl | rfl | rfl | rfl | rfl | rfl | rfl | rfl <;> kernel_rfl
theorem cus_frozen2 {C : List Int} (hC : C ∈ countsT) : calN T 1000 (n + 4) (.fn 20) [cusL C] = .ok (cusT C) := by
  have h : C = [2, 2] ∨ C = [2, 2, 2] ∨ C = [3, 2] ∨ C = [2, 3] ∨ C = [3, 3] ∨ C = [2] ∨ C = [1, 2] ∨ C = [2, 2, 2, 2] ∨ C = [4, 2] ∨ C = [4, 4] ∨ C = [1, 1, 2] ∨ C = [2, 2, 3] := by
    simpa [countsT] using hC
  rcases h with rfl | rfl | rfl | rfl | rfl | rfl | rfl | rfl | rfl | rfl | rfl | rfl <;> kernel_rfl
theorem cus_checked {C : List Int} (hC : C ∈ countsT) : calN T 1000 (n + 4) (.fn 40) [cusT C, .int C.length] = .ok (cusT C) := by
  have h : C = [2, 2] ∨ C = [2, 2, 2] ∨ C = [3, 2] ∨ C = [2, 3] ∨ C = [3, 3] ∨ C = [2] ∨ C = [1, 2] ∨ C = [2, 2, 2, 2] ∨ C = [4, 2] ∨ C = [4, 4] ∨ C = [1, 1, 2] ∨ C = [2, 2, 3] := by
    simpa [countsT] using hC
  rcases h with rfl | rfl | rfl | rfl | rfl | rfl | rfl | rfl | rfl | rfl | rfl | rfl <;> kernel_rfl
theorem cus_count {C : List Int} (hC : C ∈ countsT) : calN T 1000 (n + 2) (.fn 8) [cusT C] = .ok (.int (rowsN C)) ∧ rowsN C ≤ 16 := by
  have h : C = [2, 2] ∨ C = [2, 2, 2] ∨ C = [3, 2] ∨ C = [2, 3] ∨ C = [3, 3] ∨ C = [2] ∨ C = [1, 2] ∨ C = [2, 2, 2, 2] ∨ C = [4, 2] ∨ C = [4, 4] ∨ C = [1, 1, 2] ∨ C = [2, 2, 3] := by
    simpa [countsT] using hC
  rcases h with rfl | rfl | rfl | rfl | rfl | rfl | rfl | rfl | rfl | rfl | rfl | rfl <;> exact ⟨by kernel_rfl, by decide⟩
theorem ppl_len {C : List Int} (h : C.length ≤ 4) : biD .len [pplT C] = .ok (.int C.length) := by
  unfold pplT
  rw [r_lenT, List.length_take]
  show R.ok (D.int ((min C.length 4 : Nat) : Int)) = _
  rw [Nat.min_eq_left h]
/-- the town -/
def twn (C : List Int) (ws : List Wt) (sl : Str) : PV.D := .ins 1 [(4, pplT C), (5, cusT C), (6, .tup (ws.map Wt.t)), (7, .str sl)]
theorem at0_1 {p : PV.D} : attrD T 4 (.ins 1 [(4, p)]) = .ok p := rfl
theorem at1_2 {p c : PV.D} : attrD T 5 (.ins 1 [(4, p), (5, c)]) = .ok c := rfl
theorem set0 {p : PV.D} {ρ : En} : setAR T (some (.ins 1 []) :: ρ) 0 4 (.ok p) = .ok (.next, some (.ins 1 [(4, p)]) :: ρ) := rfl
theorem set1 {p c : PV.D} {ρ : En} : setAR T (some (.ins 1 [(4, p)]) :: ρ) 0 5 (.ok c) = .ok (.next, some (.ins 1 [(4, p), (5, c)]) :: ρ) := rfl
theorem set2 {p c w : PV.D} {ρ : En} : setAR T (some (.ins 1 [(4, p), (5, c)]) :: ρ) 0 6 (.ok w) = .ok (.next, some (.ins 1 [(4, p), (5, c), (6, w)]) :: ρ) := rfl
theorem set3 {p c w s : PV.D} {ρ : En} : setAR T (some (.ins 1 [(4, p), (5, c), (6, w)]) :: ρ) 0 7 (.ok s) = .ok (.next, some (.ins 1 [(4, p), (5, c), (6, w), (7, s)]) :: ρ) := rfl
theorem glob3 : R.of T.globs[6]? = .ok (.int 16) := rfl
theorem slips_in {sl : Str} (h : sl = "even" ∨ sl = "loss") : cmpB .notin (.str sl) (.tup [.str "even", .str "loss"]) = .ok (.bl false) := by
  rcases h with rfl | rfl <;> kernel_rfl
theorem make_ok {C : List Int} (hC : C ∈ countsT) {ws : List Wt} {sl : Str} (h : WsOk C ws 2048) (hs : sl = "even" ∨ sl = "loss") {XC : PV.D} (a3 : calN T 1000 (n + 6) (.fn 20) [XC] = .ok (cusT C)) :
    calN T 1000 (n + 8) (.mk 1) [pplL C, XC, .lst (ws.map Wt.l), .str sl] = .ok (twn C ws sl) := by
  have hc := cnt_ok hC
  have hz := h.len
  rw [c_mk (n := n + 5) (c := 1) (i := 38) rfl hF38 rfl]
  show iniF (exSs T (calN T 1000 (n + 6)) 1000 [some (.ins 1 []), some (pplL C), some XC, some (.lst (ws.map Wt.l)), some (.str sl), none] b38) = _
  have a1 := ppl_frozen (n := n + 3) hC
  have a2 := ppl_ok (n := n + 3) hC
  have a4 := cus_checked (n := n + 2) hC
  have a5 := cus_count (n := n + 4) hC
  have a6 := frozen_ws (n := n + 2) (ws := ws) (by omega)
  have a7 := checked_ok (n := n + 1) hc (fun x hx => (h.val x hx).1) h.key (by omega)
  have a8 : decide (16 < rowsN C) = false := decide_eq_false (by omega)
  unfold b38
  simp -implicitDefEqProofs (disch := omega) only [PV.zR, List.set_cons_zero, List.set_cons_succ, Bool.true_and, Bool.and_true, Bool.false_and, Bool.and_false, Bool.true_or, Bool.or_true, Bool.false_or, Bool.or_false, Bool.not_true, Bool.not_false, decide_true, decide_false, a1, a2, a3, a4, a5.1, a6, a7, a8, set0, set1, set2, set3, at0_1, at1_2, ppl_len hc.len, glob3, slips_in hs, f_ini]
  rfl
end
end LW
/-! Towns, part 3: worths, the best customs. -/
namespace LW
open PySem PySem.Spec PyProof.Rows L2 PV
/-- what a person gets in a row -/
def wF (ws : List Wt) (row : List Int) (p : Nat) : Int := ws.foldl (fun s x => if x.i = (p : Int) ∧ row.getD p 0 = x.a ∧ row.getD x.j.toNat 0 = x.b then s + x.w else s) 0
theorem dec3 {A B C : Prop} [Decidable A] [Decidable B] [Decidable C] : (decide A && (decide B && decide C)) = decide (A ∧ B ∧ C) := by
  by_cases a : A <;> by_cases b : B <;> by_cases c : C <;> simp [a, b, c]
structure RowOk (C : List Int) (row : List Int) : Prop where
  len : row.length = C.length
  at_ : ∀ k < C.length, 0 ≤ row.getD k 0 ∧ row.getD k 0 < C.getD k 0
/-- X holds the row -/
structure Holds (X : PV.D) (row : List Int) : Prop where
  at_ : ∀ k : Int, 0 ≤ k → k < row.length → subD X (.int k) = .ok (.int (row.getD k.toNat 0))
theorem holdsT {row : List Int} : Holds (PV.iT row) row := ⟨fun k h0 h1 => r_atT h0 h1⟩
theorem holdsL {row : List Int} : Holds (PV.iL row) row := ⟨fun k h0 h1 => r_atL h0 h1⟩
def drw (C : List Int) (ws : List Wt) (sl : Str) : PV.D := .lst [cusL C, .lst (ws.map Wt.l), .str sl]
theorem at2_4 {p c w s : PV.D} : attrD T 6 (.ins 1 [(4, p), (5, c), (6, w), (7, s)]) = .ok w := rfl
theorem at1_4 {p c w s : PV.D} : attrD T 5 (.ins 1 [(4, p), (5, c), (6, w), (7, s)]) = .ok c := rfl
section
variable {n : Nat}
theorem worth_of_ok {C : List Int} {ws : List Wt} {sl : Str} {X : PV.D} {row : List Int} {p : Nat} (hX : Holds X row) (hw : ∀ x ∈ ws, WtOk C x) (hr : row.length = C.length) (hp : p < row.length) :
    calN T 1000 (n + 2) (.fn 15) [twn C ws sl, X, .int p] = .ok (.int (wF ws row p)) := by
  obtain ⟨ρ', hl, o4, o5, o6, o7, o8, rfl⟩ := r_for (T := T) (call := calN T 1000 (n + 1)) (wf := 1000) (t := .many [4, 5, 6, 7, 8]) (it := .seq (.attr (.var 0) 6)) (b := b15_l0) (ρ := [some (twn C ws sl), some X, some (.int p), some (.int 0), none, none, none, none, none]) Wt.t
    (fun s ρ => ∃ o4 o5 o6 o7 o8, ρ = [some (twn C ws sl), some X, some (.int p), some (.int s), o4, o5, o6, o7, o8])
    (fun s x => if x.i = (p : Int) ∧ row.getD p 0 = x.a ∧ row.getD x.j.toNat 0 = x.b then s + x.w else s) (is := ws) (s := 0)
    (by unfold twn; simp -implicitDefEqProofs (disch := omega) only [PV.zR, List.set_cons_zero, List.set_cons_succ, Bool.true_and, Bool.and_true, Bool.false_and, Bool.and_false, Bool.true_or, Bool.or_true, Bool.false_or, Bool.or_false, Bool.not_true, Bool.not_false, decide_true, decide_false, at2_4]) ⟨none, none, none, none, none, rfl⟩ (by
    rintro s x ρ hx ⟨o4, o5, o6, o7, o8, rfl⟩
    have hj := (hw x hx).j
    have t1 := hX.at_ p (by omega) (by omega)
    have t2 := hX.at_ x.j (by omega) (by omega)
    rw [Int.toNat_natCast] at t1
    refine ⟨[some (twn C ws sl), some X, some (.int p), some (.int s), some (.int x.i), some (.int x.a), some (.int x.j), some (.int x.b), some (.int x.w)], [some (twn C ws sl), some X, some (.int p), some (.int (if x.i = (p : Int) ∧ row.getD p 0 = x.a ∧ row.getD x.j.toNat 0 = x.b then s + x.w else s)), some (.int x.i), some (.int x.a), some (.int x.j), some (.int x.b), some (.int x.w)], rfl, ?_, _, _, _, _, _, rfl⟩
    unfold b15_l0
    by_cases c : x.i = (p : Int) ∧ row.getD p 0 = x.a ∧ row.getD x.j.toNat 0 = x.b
    · simp -implicitDefEqProofs (disch := omega) only [PV.zR, List.set_cons_zero, List.set_cons_succ, Bool.true_and, Bool.and_true, Bool.false_and, Bool.and_false, Bool.true_or, Bool.or_true, Bool.false_or, Bool.or_false, Bool.not_true, Bool.not_false, decide_true, decide_false, t1, t2, dec3, decide_eq_true c, if_pos c]
    · simp -implicitDefEqProofs (disch := omega) only [PV.zR, List.set_cons_zero, List.set_cons_succ, Bool.true_and, Bool.and_true, Bool.false_and, Bool.and_false, Bool.true_or, Bool.or_true, Bool.false_or, Bool.or_false, Bool.not_true, Bool.not_false, decide_true, decide_false, t1, t2, dec3, decide_eq_false c, if_neg c])
  refine r_ret (ρ := [some (twn C ws sl), some X, some (.int p), some (.int (wF ws row p)), o4, o5, o6, o7, o8]) hF15 rfl ?_
  show exSs T (calN T 1000 (n + 1)) 1000 [some (twn C ws sl), some X, some (.int p), none, none, none, none, none, none] b15 = _
  have hl' : exS T (calN T 1000 (n + 1)) 1000 [some (twn C ws sl), some X, some (.int p), some (.int 0), none, none, none, none, none] b15_f0 = _ := hl
  unfold b15
  simp -implicitDefEqProofs (disch := omega) only [PV.zR, List.set_cons_zero, List.set_cons_succ, Bool.true_and, Bool.and_true, Bool.false_and, Bool.and_false, Bool.true_or, Bool.or_true, Bool.false_or, Bool.or_false, Bool.not_true, Bool.not_false, decide_true, decide_false, hl']
  rfl
theorem lworth_ok {C : List Int} {ws : List Wt} {sl : Str} {X : PV.D} {row : List Int} {p : Nat} (hX : Holds X row) (hw : ∀ x ∈ ws, WtOk C x) (hr : row.length = C.length) (hp : p < row.length) :
    calN T 1000 (n + 2) (.fn 47) [drw C ws sl, X, .int p] = .ok (.int (wF ws row p)) := by
  obtain ⟨ρ', hl, o4, rfl⟩ := r_for (T := T) (call := calN T 1000 (n + 1)) (wf := 1000) (t := .one 4) (it := .seq (.sub (.var 0) (.lit (.int 1)))) (b := b47_l0) (ρ := [some (drw C ws sl), some X, some (.int p), some (.int 0), none]) Wt.l
    (fun s ρ => ∃ o4, ρ = [some (drw C ws sl), some X, some (.int p), some (.int s), o4])
    (fun s x => if x.i = (p : Int) ∧ row.getD p 0 = x.a ∧ row.getD x.j.toNat 0 = x.b then s + x.w else s) (is := ws) (s := 0)
    (by unfold drw; simp -implicitDefEqProofs (disch := omega) only [PV.zR, List.set_cons_zero, List.set_cons_succ, Bool.true_and, Bool.and_true, Bool.false_and, Bool.and_false, Bool.true_or, Bool.or_true, Bool.false_or, Bool.or_false, Bool.not_true, Bool.not_false, decide_true, decide_false]) ⟨none, rfl⟩ (by
    rintro s x ρ hx ⟨o4, rfl⟩
    have hj := (hw x hx).j
    have t1 := hX.at_ p (by omega) (by omega)
    have t2 := hX.at_ x.j (by omega) (by omega)
    rw [Int.toNat_natCast] at t1
    refine ⟨[some (drw C ws sl), some X, some (.int p), some (.int s), some x.l], [some (drw C ws sl), some X, some (.int p), some (.int (if x.i = (p : Int) ∧ row.getD p 0 = x.a ∧ row.getD x.j.toNat 0 = x.b then s + x.w else s)), some x.l], rfl, ?_, _, rfl⟩
    unfold b47_l0 Wt.l
    by_cases c : x.i = (p : Int) ∧ row.getD p 0 = x.a ∧ row.getD x.j.toNat 0 = x.b
    · simp -implicitDefEqProofs (disch := omega) only [PV.zR, List.set_cons_zero, List.set_cons_succ, Bool.true_and, Bool.and_true, Bool.false_and, Bool.and_false, Bool.true_or, Bool.or_true, Bool.false_or, Bool.or_false, Bool.not_true, Bool.not_false, decide_true, decide_false, t1, t2, dec3, decide_eq_true c, if_pos c]
    · simp -implicitDefEqProofs (disch := omega) only [PV.zR, List.set_cons_zero, List.set_cons_succ, Bool.true_and, Bool.and_true, Bool.false_and, Bool.and_false, Bool.true_or, Bool.or_true, Bool.false_or, Bool.or_false, Bool.not_true, Bool.not_false, decide_true, decide_false, t1, t2, dec3, decide_eq_false c, if_neg c])
  refine r_ret (ρ := [some (drw C ws sl), some X, some (.int p), some (.int (wF ws row p)), o4]) hF47 rfl ?_
  show exSs T (calN T 1000 (n + 1)) 1000 [some (drw C ws sl), some X, some (.int p), none, none] b47 = _
  have hl' : exS T (calN T 1000 (n + 1)) 1000 [some (drw C ws sl), some X, some (.int p), some (.int 0), none] b47_f0 = _ := hl
  unfold b47
  simp -implicitDefEqProofs (disch := omega) only [PV.zR, List.set_cons_zero, List.set_cons_succ, Bool.true_and, Bool.and_true, Bool.false_and, Bool.and_false, Bool.true_or, Bool.or_true, Bool.false_or, Bool.or_false, Bool.not_true, Bool.not_false, decide_true, decide_false, hl']
  rfl
theorem lwith_ok {row : List Int} {p : Nat} {k : Int} (hp : p < row.length) (hz : row.length ≤ 1000) : calN T 1000 (n + 2) (.fn 48) [PV.iT row, .int p, .int k] = .ok (PV.iT (row.set p k)) := by
  refine r_ret (ρ := [some (PV.iT row), some (.int p), some (.int k)]) hF48 rfl ?_
  show exSs T (calN T 1000 (n + 1)) 1000 [some (PV.iT row), some (.int p), some (.int k)] b48 = _
  have a1 : slHD (PV.iT row) (.int (p : Int)) = .ok (.tup ((row.take p).map D.int)) := by
    unfold PV.iT
    rw [k_slH (by omega), Int.toNat_natCast, List.map_take]
  have a2 : slLD (PV.iT row) (.int ((p : Int) + 1)) = .ok (.tup ((row.drop (p + 1)).map D.int)) := by
    unfold PV.iT
    rw [k_slL (by omega), show ((p : Int) + 1).toNat = p + 1 by omega, List.map_drop]
  have a3 : binD .add (.tup ((row.take p).map D.int)) (.tup [.int k]) = .ok (.tup ((row.take p ++ [k]).map D.int)) := by
    rw [r_catT (by rw [List.length_map, List.length_take]; show _ + 1 ≤ _; omega), List.map_append]
    rfl
  have a4 : binD .add (.tup ((row.take p ++ [k]).map D.int)) (.tup ((row.drop (p + 1)).map D.int)) = .ok (PV.iT (row.set p k)) := by
    rw [r_catT (by rw [List.length_map, List.length_map, List.length_append, List.length_take, List.length_drop]; show _ + 1 + _ ≤ _; omega), ← List.map_append, set_row hp]
    rfl
  unfold b48
  simp -implicitDefEqProofs (disch := omega) only [PV.zR, List.set_cons_zero, List.set_cons_succ, Bool.true_and, Bool.and_true, Bool.false_and, Bool.and_false, Bool.true_or, Bool.or_true, Bool.false_or, Bool.or_false, Bool.not_true, Bool.not_false, decide_true, decide_false, a1, a2, a3, a4]
theorem with_ok {row : List Int} {p : Nat} {k : Int} (hp : p < row.length) (hz : row.length ≤ 1000) : calN T 1000 (n + 2) (.fn 11) [PV.iT row, .int p, .int k] = .ok (PV.iT (row.set p k)) := by
  have e : evE T (calN T 1000 (n + 1)) [some (PV.iT row), some (.int p), some (.int k), none, none] b11_c0 = .ok (.lst ((List.range row.length).map fun i : Nat => .int (if (i : Int) = (p : Int) then k else row.getD i 0))) := r_comp (fun i => .int (i : Nat)) _ (by unfold PV.iT; simp -implicitDefEqProofs (disch := omega) only [PV.zR, List.set_cons_zero, List.set_cons_succ, Bool.true_and, Bool.and_true, Bool.false_and, Bool.and_false, Bool.true_or, Bool.or_true, Bool.false_or, Bool.or_false, Bool.not_true, Bool.not_false, decide_true, decide_false, List.length_map, Int.toNat_natCast]) (by rw [List.length_range]; omega) fun i hi => by
      have hi : i < row.length := by simpa using hi
      refine ⟨[some (PV.iT row), some (.int p), some (.int k), none, some (.int (i : Nat))], rfl, ?_⟩
      have t1 := (holdsT (row := row)).at_ i (by omega) (by omega)
      rw [Int.toNat_natCast] at t1
      by_cases c : (i : Int) = (p : Int)
      · simp -implicitDefEqProofs (disch := omega) only [PV.zR, List.set_cons_zero, List.set_cons_succ, Bool.true_and, Bool.and_true, Bool.false_and, Bool.and_false, Bool.true_or, Bool.or_true, Bool.false_or, Bool.or_false, Bool.not_true, Bool.not_false, decide_true, decide_false, decide_eq_true c, if_pos c]
      · simp -implicitDefEqProofs (disch := omega) only [PV.zR, List.set_cons_zero, List.set_cons_succ, Bool.true_and, Bool.and_true, Bool.false_and, Bool.and_false, Bool.true_or, Bool.or_true, Bool.false_or, Bool.or_false, Bool.not_true, Bool.not_false, decide_true, decide_false, decide_eq_false c, if_neg c, t1]
  refine r_ret (ρ := [some (PV.iT row), some (.int p), some (.int k), none, none]) hF11 rfl ?_
  show exSs T (calN T 1000 (n + 1)) 1000 [some (PV.iT row), some (.int p), some (.int k), none, none] b11 = _
  unfold b11
  simp -implicitDefEqProofs (disch := omega) only [PV.zR, List.set_cons_zero, List.set_cons_succ, Bool.true_and, Bool.and_true, Bool.false_and, Bool.and_false, Bool.true_or, Bool.or_true, Bool.false_or, Bool.or_false, Bool.not_true, Bool.not_false, decide_true, decide_false, e]
  rw [← set_row2 hp k]
  simp only [PV.iT, List.map_map]
  rfl
/-- what a person gets by each custom -/
def wFs (C : List Int) (ws : List Wt) (row : List Int) (p : Nat) : List Int := (List.range (C.getD p 0).toNat).map fun k => wF ws (row.set p (k : Nat)) p
theorem cusL_at {C : List Int} {p : Nat} (h1 : p < C.length) : subD (cusL C) (.int (p : Nat)) = .ok (.lst (menuD.take (C.getD p 0).toNat)) := by
  unfold cusL
  rw [r_mapL (g := fun c : Int => D.lst (menuD.take c.toNat)) h1]
  simp [h1]
theorem cusT_at {C : List Int} {p : Nat} (h1 : p < C.length) : subD (cusT C) (.int (p : Nat)) = .ok (.tup (menuD.take (C.getD p 0).toNat)) := by
  unfold cusT
  rw [r_mapT (g := fun c : Int => D.tup (menuD.take c.toNat)) h1]
  simp [h1]
theorem lworths_ok {C : List Int} (hC : CntOk C) {ws : List Wt} {sl : Str} {row : List Int} {p : Nat} (hw : ∀ x ∈ ws, WtOk C x) (hr : row.length = C.length) (hp : p < row.length) :
    calN T 1000 (n + 3) (.fn 46) [drw C ws sl, PV.iT row, .int p] = .ok (PV.iL (wFs C ws row p)) := by
  have hc := hC.cnt p (by omega)
  have hl4 := hC.len
  have u1 := len_menu hc
  have a0 := cusL_at (C := C) (p := p) (by omega)
  have e : evE T (calN T 1000 (n + 2)) [some (drw C ws sl), some (PV.iT row), some (.int p), none, none] b46_c0 = .ok (.lst ((List.range (C.getD p 0).toNat).map fun k => .int (wF ws (row.set p (k : Nat)) p))) := r_comp (fun i => .int (i : Nat)) _ (by unfold drw; simp -implicitDefEqProofs (disch := omega) only [PV.zR, List.set_cons_zero, List.set_cons_succ, Bool.true_and, Bool.and_true, Bool.false_and, Bool.and_false, Bool.true_or, Bool.or_true, Bool.false_or, Bool.or_false, Bool.not_true, Bool.not_false, decide_true, decide_false, a0, u1]) (by rw [List.length_range]; omega) fun k hk => by
      refine ⟨[some (drw C ws sl), some (PV.iT row), some (.int p), none, some (.int (k : Nat))], rfl, ?_⟩
      have t1 := lwith_ok (n := n) (row := row) (p := p) (k := (k : Nat)) hp (by omega)
      have t2 := lworth_ok (n := n) (sl := sl) (holdsT (row := row.set p (k : Nat))) hw (by simpa using hr) (by simpa using hp)
      simp -implicitDefEqProofs (disch := omega) only [PV.zR, List.set_cons_zero, List.set_cons_succ, Bool.true_and, Bool.and_true, Bool.false_and, Bool.and_false, Bool.true_or, Bool.or_true, Bool.false_or, Bool.or_false, Bool.not_true, Bool.not_false, decide_true, decide_false, t1, t2]
  refine r_ret (ρ := [some (drw C ws sl), some (PV.iT row), some (.int p), none, none]) hF46 rfl ?_
  show exSs T (calN T 1000 (n + 2)) 1000 [some (drw C ws sl), some (PV.iT row), some (.int p), none, none] b46 = _
  unfold b46
  simp -implicitDefEqProofs (disch := omega) only [PV.zR, List.set_cons_zero, List.set_cons_succ, Bool.true_and, Bool.and_true, Bool.false_and, Bool.and_false, Bool.true_or, Bool.or_true, Bool.false_or, Bool.or_false, Bool.not_true, Bool.not_false, decide_true, decide_false, e]
  rw [PV.iL, wFs, List.map_map]
  rfl
theorem worth_row_ok {C : List Int} (hC : CntOk C) {ws : List Wt} {sl : Str} {row : List Int} {p : Nat} (hw : ∀ x ∈ ws, WtOk C x) (hr : row.length = C.length) (hp : p < row.length) :
    calN T 1000 (n + 3) (.fn 14) [twn C ws sl, PV.iT row, .int p] = .ok (PV.iL (wFs C ws row p)) := by
  have hc := hC.cnt p (by omega)
  have hl4 := hC.len
  have u1 := len_menu hc
  have a0 := cusT_at (C := C) (p := p) (by omega)
  have e : evE T (calN T 1000 (n + 2)) [some (twn C ws sl), some (PV.iT row), some (.int p), none, none] b14_c0 = .ok (.lst ((List.range (C.getD p 0).toNat).map fun k => .int (wF ws (row.set p (k : Nat)) p))) := r_comp (fun i => .int (i : Nat)) _ (by unfold twn; simp -implicitDefEqProofs (disch := omega) only [PV.zR, List.set_cons_zero, List.set_cons_succ, Bool.true_and, Bool.and_true, Bool.false_and, Bool.and_false, Bool.true_or, Bool.or_true, Bool.false_or, Bool.or_false, Bool.not_true, Bool.not_false, decide_true, decide_false, at1_4, a0, u1]) (by rw [List.length_range]; omega) fun k hk => by
      refine ⟨[some (twn C ws sl), some (PV.iT row), some (.int p), none, some (.int (k : Nat))], rfl, ?_⟩
      have t1 := with_ok (n := n) (row := row) (p := p) (k := (k : Nat)) hp (by omega)
      have t2 := worth_of_ok (n := n) (sl := sl) (holdsT (row := row.set p (k : Nat))) hw (by simpa using hr) (by simpa using hp)
      simp -implicitDefEqProofs (disch := omega) only [PV.zR, List.set_cons_zero, List.set_cons_succ, Bool.true_and, Bool.and_true, Bool.false_and, Bool.and_false, Bool.true_or, Bool.or_true, Bool.false_or, Bool.or_false, Bool.not_true, Bool.not_false, decide_true, decide_false, t1, t2]
  refine r_ret (ρ := [some (twn C ws sl), some (PV.iT row), some (.int p), none, none]) hF14 rfl ?_
  show exSs T (calN T 1000 (n + 2)) 1000 [some (twn C ws sl), some (PV.iT row), some (.int p), none, none] b14 = _
  unfold b14
  simp -implicitDefEqProofs (disch := omega) only [PV.zR, List.set_cons_zero, List.set_cons_succ, Bool.true_and, Bool.and_true, Bool.false_and, Bool.and_false, Bool.true_or, Bool.or_true, Bool.false_or, Bool.or_false, Bool.not_true, Bool.not_false, decide_true, decide_false, e]
  rw [PV.iL, wFs, List.map_map]
  rfl
/-- the places of the greatest -/
def tops (L : List Int) : List Int := ((List.range L.length).filter fun k => decide (L.getD k 0 = maxL L)).map fun k : Nat => (k : Int)
theorem best_ok {C : List Int} (hC : CntOk C) {ws : List Wt} {sl : Str} {row : List Int} {p : Nat} (hw : ∀ x ∈ ws, WtOk C x) (hr : row.length = C.length) (hp : p < row.length) :
    calN T 1000 (n + 4) (.fn 13) [twn C ws sl, PV.iT row, .int p] = .ok (PV.iT (tops (wFs C ws row p))) := by
  have hc := hC.cnt p (by omega)
  have w := worth_row_ok (n := n) (sl := sl) hC hw hr hp
  have hlen : (wFs C ws row p).length = (C.getD p 0).toNat := by unfold wFs; simp
  generalize wFs C ws row p = L at w hlen
  have hne : L ≠ [] := by rintro rfl; rw [List.length_nil] at hlen; omega
  have hm := k_maxL hne
  have e : evE T (calN T 1000 (n + 3)) [some (twn C ws sl), some (PV.iT row), some (.int p), some (PV.iL L), some (.int (maxL L)), none, none] b13_c0 = .ok (.lst (((List.range L.length).filter fun k => decide (L.getD k 0 = maxL L)).map fun k => .int (k : Nat))) := r_compI (fun i => .int (i : Nat)) _ _ (by unfold PV.iL; simp -implicitDefEqProofs (disch := omega) only [PV.zR, List.set_cons_zero, List.set_cons_succ, Bool.true_and, Bool.and_true, Bool.false_and, Bool.and_false, Bool.true_or, Bool.or_true, Bool.false_or, Bool.or_false, Bool.not_true, Bool.not_false, decide_true, decide_false, List.length_map, Int.toNat_natCast]) (by rw [List.length_range]; omega) fun k hk => by
      have hk : k < L.length := by simpa using hk
      have t1 := (holdsL (row := L)).at_ k (by omega) (by omega)
      rw [Int.toNat_natCast] at t1
      refine ⟨[some (twn C ws sl), some (PV.iT row), some (.int p), some (PV.iL L), some (.int (maxL L)), none, some (.int (k : Nat))], rfl, ?_, fun _ => ?_⟩
      · simp -implicitDefEqProofs (disch := omega) only [PV.zR, List.set_cons_zero, List.set_cons_succ, Bool.true_and, Bool.and_true, Bool.false_and, Bool.and_false, Bool.true_or, Bool.or_true, Bool.false_or, Bool.or_false, Bool.not_true, Bool.not_false, decide_true, decide_false, t1]
      · simp -implicitDefEqProofs (disch := omega) only [PV.zR, List.set_cons_zero, List.set_cons_succ, Bool.true_and, Bool.and_true, Bool.false_and, Bool.and_false, Bool.true_or, Bool.or_true, Bool.false_or, Bool.or_false, Bool.not_true, Bool.not_false, decide_true, decide_false]
  refine r_ret (ρ := [some (twn C ws sl), some (PV.iT row), some (.int p), some (PV.iL L), some (.int (maxL L)), none, none]) hF13 rfl ?_
  show exSs T (calN T 1000 (n + 3)) 1000 [some (twn C ws sl), some (PV.iT row), some (.int p), none, none, none, none] b13 = _
  unfold b13
  simp -implicitDefEqProofs (disch := omega) only [PV.zR, List.set_cons_zero, List.set_cons_succ, Bool.true_and, Bool.and_true, Bool.false_and, Bool.and_false, Bool.true_or, Bool.or_true, Bool.false_or, Bool.or_false, Bool.not_true, Bool.not_false, decide_true, decide_false, w, hm, e]
  simp only [PV.iT, tops, List.map_map]
  rfl
end
end LW
/-! Towns, part 5: rows. -/
namespace LW
open PySem PySem.Spec PyProof.Rows L2 PV
def rowsC (C : List Int) : List (List Int) := C.foldl (fun rows c => (rows.map fun r => (List.range c.toNat).map fun k : Nat => r ++ [(k : Int)]).flatten) [[]]
theorem rows_ok : ∀ C ∈ countsT, ∀ row ∈ rowsC C, row.length = C.length ∧ ∀ k < C.length, 0 ≤ row.getD k 0 ∧ row.getD k 0 < C.getD k 0 := by decide +kernel
section
variable {n : Nat}
theorem people_ok {C : List Int} (hC : C ∈ countsT) {ws : List Wt} {sl : Str} : calN T 1000 (n + 2) (.fn 4) [drw C ws sl] = .ok (pplL C) := by
  have h : C = [2, 2] ∨ C = [2, 2, 2] ∨ C = [3, 2] ∨ C = [2, 3] ∨ C = [3, 3] ∨ C = [2] ∨ C = [1, 2] ∨ C = [2, 2, 2, 2] ∨ C = [4, 2] ∨ C = [4, 4] ∨ C = [1, 1, 2] ∨ C = [2, 2, 3] := by
    simpa [countsT] using hC
  rcases h with rfl | rfl | rfl | rfl | rfl | rfl | rfl | rfl | rfl | rfl | rfl | rfl <;> kernel_rfl
theorem lrows_ok {C : List Int} (hC : C ∈ countsT) {ws : List Wt} {sl : Str} : calN T 1000 (n + 2) (.fn 45) [drw C ws sl] = .ok (.lst ((rowsC C).map PV.iT)) := by
  have h : C = [2, 2] ∨ C = [2, 2, 2] ∨ C = [3, 2] ∨ C = [2, 3] ∨ C = [3, 3] ∨ C = [2] ∨ C = [1, 2] ∨ C = [2, 2, 2, 2] ∨ C = [4, 2] ∨ C = [4, 4] ∨ C = [1, 1, 2] ∨ C = [2, 2, 3] := by
    simpa [countsT] using hC
  rcases h with rfl | rfl | rfl | rfl | rfl | rfl | rfl | rfl | rfl | rfl | rfl | rfl <;> kernel_rfl
theorem wFs_at {C : List Int} {ws : List Wt} {row : List Int} {p : Nat} {k : Int} (h0 : 0 ≤ k) (h1 : k < C.getD p 0) : (wFs C ws row p).getD k.toNat 0 = wF ws (row.set p k) p := by
  have hk : k.toNat < (C.getD p 0).toNat := by omega
  have e : ((k.toNat : Nat) : Int) = k := by omega
  unfold wFs
  rw [List.getD_eq_getElem?_getD, List.getElem?_map, List.getElem?_range hk]
  show wF ws (row.set p ((k.toNat : Nat) : Int)) p = _
  rw [e]
theorem set_self {row : List Int} {p : Nat} (hp : p < row.length) : row.set p (row.getD p 0) = row := by
  apply List.ext_getElem
  · simp
  · intro i h1 h2
    rw [List.getElem_set]
    by_cases e : p = i
    · subst e; simp [hp]
    · rw [if_neg e]
end
end LW
/-! Ratios and machines, part 1. -/
namespace LW
open PySem PySem.Spec PyProof.Rows L2 PV
/-! ### lowest terms -/
def lowN (a b : Nat) : Nat × Nat := (a / Nat.gcd a b, b / Nat.gcd a b)
theorem low_eq {a b c d : Nat} (hb : 0 < b) (hd : 0 < d) (h : a * d = c * b) : lowN a b = lowN c d := by
  have g0 : 0 < Nat.gcd a b := Nat.gcd_pos_of_pos_right _ hb
  have h0 : 0 < Nat.gcd c d := Nat.gcd_pos_of_pos_right _ hd
  have e1 : Nat.gcd a b * d = Nat.gcd c d * b := by
    rw [← Nat.gcd_mul_right, ← Nat.gcd_mul_right, h, Nat.mul_comm b d]
  have e2 : a * Nat.gcd c d = c * Nat.gcd a b := by
    apply Nat.eq_of_mul_eq_mul_right hb
    calc a * Nat.gcd c d * b = a * (Nat.gcd c d * b) := Nat.mul_assoc _ _ _
      _ = a * (Nat.gcd a b * d) := by rw [e1]
      _ = (a * d) * Nat.gcd a b := by rw [Nat.mul_comm (Nat.gcd a b) d, Nat.mul_assoc]
      _ = (c * b) * Nat.gcd a b := by rw [h]
      _ = c * Nat.gcd a b * b := by rw [Nat.mul_assoc, Nat.mul_comm b, ← Nat.mul_assoc]
  have d1 : a / Nat.gcd a b * Nat.gcd a b = a := Nat.div_mul_cancel (Nat.gcd_dvd_left a b)
  have d2 : b / Nat.gcd a b * Nat.gcd a b = b := Nat.div_mul_cancel (Nat.gcd_dvd_right a b)
  have d3 : c / Nat.gcd c d * Nat.gcd c d = c := Nat.div_mul_cancel (Nat.gcd_dvd_left c d)
  have d4 : d / Nat.gcd c d * Nat.gcd c d = d := Nat.div_mul_cancel (Nat.gcd_dvd_right c d)
  unfold lowN
  have p0 : 0 < Nat.gcd a b * Nat.gcd c d := Nat.mul_pos g0 h0
  congr 1
  · apply Nat.eq_of_mul_eq_mul_right p0
    calc a / Nat.gcd a b * (Nat.gcd a b * Nat.gcd c d) = (a / Nat.gcd a b * Nat.gcd a b) * Nat.gcd c d := (Nat.mul_assoc _ _ _).symm
      _ = a * Nat.gcd c d := by rw [d1]
      _ = c * Nat.gcd a b := e2
      _ = (c / Nat.gcd c d * Nat.gcd c d) * Nat.gcd a b := by rw [d3]
      _ = c / Nat.gcd c d * (Nat.gcd a b * Nat.gcd c d) := by rw [Nat.mul_assoc, Nat.mul_comm (Nat.gcd c d)]
  · apply Nat.eq_of_mul_eq_mul_right p0
    calc b / Nat.gcd a b * (Nat.gcd a b * Nat.gcd c d) = (b / Nat.gcd a b * Nat.gcd a b) * Nat.gcd c d := (Nat.mul_assoc _ _ _).symm
      _ = b * Nat.gcd c d := by rw [d2]
      _ = d * Nat.gcd a b := by rw [Nat.mul_comm b, ← e1, Nat.mul_comm]
      _ = (d / Nat.gcd c d * Nat.gcd c d) * Nat.gcd a b := by rw [d4]
      _ = d / Nat.gcd c d * (Nat.gcd a b * Nat.gcd c d) := by rw [Nat.mul_assoc, Nat.mul_comm (Nat.gcd c d)]
/-- one d-th more -/
theorem low_add {N D d m : Nat} (hD : 0 < D) (hd : d * m = D) : lowN ((lowN N D).1 * d + (lowN N D).2) ((lowN N D).2 * d) = lowN (N + m) D := by
  have g0 : 0 < Nat.gcd N D := Nat.gcd_pos_of_pos_right _ hD
  have d1 : (lowN N D).1 * Nat.gcd N D = N := Nat.div_mul_cancel (Nat.gcd_dvd_left N D)
  have d2 : (lowN N D).2 * Nat.gcd N D = D := Nat.div_mul_cancel (Nat.gcd_dvd_right N D)
  generalize (lowN N D).1 = x at *
  generalize (lowN N D).2 = y at *
  generalize Nat.gcd N D = g at *
  have hy : 0 < y := by
    rcases Nat.eq_zero_or_pos y with rfl | h
    · rw [Nat.zero_mul] at d2; omega
    · exact h
  have hd0 : 0 < d := by
    rcases Nat.eq_zero_or_pos d with rfl | h
    · rw [Nat.zero_mul] at hd; omega
    · exact h
  apply low_eq (Nat.mul_pos hy hd0) hD
  calc (x * d + y) * D = x * d * D + y * D := Nat.add_mul _ _ _
    _ = x * d * (y * g) + y * (d * m) := by rw [d2, hd]
    _ = (x * g) * (y * d) + m * (y * d) := by
      congr 1
      · rw [Nat.mul_assoc x d, Nat.mul_assoc x g]
        congr 1
        rw [← Nat.mul_assoc, Nat.mul_comm d y, Nat.mul_comm (y * d) g]
      · rw [← Nat.mul_assoc, Nat.mul_comm]
    _ = (N + m) * (y * d) := by rw [d1, Nat.add_mul]
theorem low_one {d : Nat} (hd : 0 < d) : lowN 1 d = (1, d) := by
  unfold lowN
  rw [Nat.gcd_one_left, Nat.div_one, Nat.div_one]
/-! ### ratios -/
def rto (n d : Nat) : PV.D := .tup [.int (n : Int), .int (d : Int)]
def rtP (p : Nat × Nat) : PV.D := rto p.1 p.2
section
variable {n : Nat}
theorem whole_m {i : Int} : calN T 1000 (n + 2) (.fn 25) [.int i] = .ok (.bl true) := rfl
theorem state_m {i m : Int} : calN T 1000 (n + 3) (.fn 24) [.int i, .int m] = .ok (.bl (decide (0 ≤ i) && decide (i < m))) := by
  refine r_ret (ρ := [some (.int i), some (.int m)]) hF24 rfl ?_
  show exSs T (calN T 1000 (n + 2)) 1000 [some (.int i), some (.int m)] b24 = _
  unfold b24
  simp -implicitDefEqProofs (disch := omega) only [PV.zR, List.set_cons_zero, List.set_cons_succ, Bool.true_and, Bool.and_true, Bool.false_and, Bool.and_false, Bool.true_or, Bool.or_true, Bool.false_or, Bool.or_false, Bool.not_true, Bool.not_false, decide_true, decide_false, whole_m]
theorem lowest_ok {a b : Nat} (hb : 0 < b) (hz : b < 2 ^ 150) : calN T 1000 (n + 2) (.fn 31) [.int (a : Int), .int (b : Int)] = .ok (rtP (lowN a b)) := by
  have g0 : 0 < Nat.gcd a b := Nat.gcd_pos_of_pos_right _ hb
  have g1 : Nat.gcd a b ≤ b := Nat.gcd_le_right _ hb
  have e1 : ((a : Int) / ((Nat.gcd a b : Nat) : Int)) = ((a / Nat.gcd a b : Nat) : Int) := rfl
  have e2 : ((b : Int) / ((Nat.gcd a b : Nat) : Int)) = ((b / Nat.gcd a b : Nat) : Int) := rfl
  refine r_ret (ρ := [some (.int (a : Int)), some (.int (b : Int)), some (.int ((Nat.gcd a b : Nat) : Int))]) hF31 rfl ?_
  show exSs T (calN T 1000 (n + 1)) 1000 [some (.int (a : Int)), some (.int (b : Int)), none] b31 = _
  have e3 : decide ((b : Int) < 0) = false := decide_eq_false (by omega)
  unfold b31
  have q1 : binD .fdiv (.int (a : Int)) (.int ((Nat.gcd a b : Nat) : Int)) = .ok (.int ((a / Nat.gcd a b : Nat) : Int)) := by rw [← e1]; exact r_div (by omega) (by omega)
  have q2 : binD .fdiv (.int (b : Int)) (.int ((Nat.gcd a b : Nat) : Int)) = .ok (.int ((b / Nat.gcd a b : Nat) : Int)) := by rw [← e2]; exact r_div (by omega) (by omega)
  simp -implicitDefEqProofs (disch := omega) only [PV.zR, List.set_cons_zero, List.set_cons_succ, Bool.true_and, Bool.and_true, Bool.false_and, Bool.and_false, Bool.true_or, Bool.or_true, Bool.false_or, Bool.or_false, Bool.not_true, Bool.not_false, decide_true, decide_false, Int.natAbs_natCast, e3, q1, q2]
  rfl
theorem times_ok {a b c d : Nat} (hb : 0 < b) (hd : 0 < d) (ha : a < 2 ^ 70) (hb2 : b < 2 ^ 70) (hc : c < 2 ^ 70) (hd2 : d < 2 ^ 70) : calN T 1000 (n + 3) (.fn 33) [rto a b, rto c d] = .ok (rtP (lowN (a * c) (b * d))) := by
  have h1 : b * d < 2 ^ 150 := Nat.lt_of_le_of_lt (Nat.mul_le_mul (Nat.le_of_lt hb2) (Nat.le_of_lt hd2)) (by decide)
  have l := lowest_ok (n := n) (a := a * c) (b := b * d) (Nat.mul_pos hb hd) h1
  refine r_ret (ρ := [some (rto a b), some (rto c d)]) hF33 rfl ?_
  show exSs T (calN T 1000 (n + 2)) 1000 [some (rto a b), some (rto c d)] b33 = _
  unfold b33 rto
  have m1 : binD .mul (.int (a : Int)) (.int (c : Int)) = .ok (.int ((a * c : Nat) : Int)) := by rw [r_mul (by omega) (by omega)]; rfl
  have m2 : binD .mul (.int (b : Int)) (.int (d : Int)) = .ok (.int ((b * d : Nat) : Int)) := by rw [r_mul (by omega) (by omega)]; rfl
  simp -implicitDefEqProofs (disch := omega) only [PV.zR, List.set_cons_zero, List.set_cons_succ, Bool.true_and, Bool.and_true, Bool.false_and, Bool.and_false, Bool.true_or, Bool.or_true, Bool.false_or, Bool.or_false, Bool.not_true, Bool.not_false, decide_true, decide_false, m1, m2, l]
theorem plus_ok {a b c d : Nat} (hb : 0 < b) (hd : 0 < d) (ha : a < 2 ^ 70) (hb2 : b < 2 ^ 70) (hc : c < 2 ^ 70) (hd2 : d < 2 ^ 70) : calN T 1000 (n + 3) (.fn 30) [rto a b, rto c d] = .ok (rtP (lowN (a * d + c * b) (b * d))) := by
  have h1 : b * d < 2 ^ 150 := Nat.lt_of_le_of_lt (Nat.mul_le_mul (Nat.le_of_lt hb2) (Nat.le_of_lt hd2)) (by decide)
  have l := lowest_ok (n := n) (a := a * d + c * b) (b := b * d) (Nat.mul_pos hb hd) h1
  refine r_ret (ρ := [some (rto a b), some (rto c d)]) hF30 rfl ?_
  show exSs T (calN T 1000 (n + 2)) 1000 [some (rto a b), some (rto c d)] b30 = _
  unfold b30 rto
  have m1 : binD .mul (.int (a : Int)) (.int (d : Int)) = .ok (.int ((a * d : Nat) : Int)) := by rw [r_mul (by omega) (by omega)]; rfl
  have m2 : binD .mul (.int (c : Int)) (.int (b : Int)) = .ok (.int ((c * b : Nat) : Int)) := by rw [r_mul (by omega) (by omega)]; rfl
  have m3 : binD .mul (.int (b : Int)) (.int (d : Int)) = .ok (.int ((b * d : Nat) : Int)) := by rw [r_mul (by omega) (by omega)]; rfl
  have m4 : binD .add (.int ((a * d : Nat) : Int)) (.int ((c * b : Nat) : Int)) = .ok (.int ((a * d + c * b : Nat) : Int)) := rfl
  simp -implicitDefEqProofs (disch := omega) only [PV.zR, List.set_cons_zero, List.set_cons_succ, Bool.true_and, Bool.and_true, Bool.false_and, Bool.and_false, Bool.true_or, Bool.or_true, Bool.false_or, Bool.or_false, Bool.not_true, Bool.not_false, decide_true, decide_false, m1, m2, m3, m4, l]
/-- not above one -/
theorem compare_one {a b : Nat} (h : a ≤ b) (hb : b < 2 ^ 70) : ∃ k : Int, k ≤ 0 ∧ calN T 1000 (n + 2) (.fn 28) [rto a b, rto 1 1] = .ok (.int k) := by
  have m1 : binD .mul (.int (a : Int)) (.int ((1 : Nat) : Int)) = .ok (.int (a : Int)) := by rw [r_mul (by omega) (by decide)]; simp
  have m2 : binD .mul (.int ((1 : Nat) : Int)) (.int (b : Int)) = .ok (.int (b : Int)) := by rw [r_mul (by decide) (by omega)]; simp
  by_cases c : (a : Int) < b
  · refine ⟨-1, by decide, r_ret (ρ := [some (rto a b), some (rto 1 1), some (.int (a : Int)), some (.int (b : Int))]) hF28 rfl ?_⟩
    show exSs T (calN T 1000 (n + 1)) 1000 [some (rto a b), some (rto 1 1), none, none] b28 = _
    unfold b28 rto
    simp -implicitDefEqProofs (disch := omega) only [PV.zR, List.set_cons_zero, List.set_cons_succ, Bool.true_and, Bool.and_true, Bool.false_and, Bool.and_false, Bool.true_or, Bool.or_true, Bool.false_or, Bool.or_false, Bool.not_true, Bool.not_false, decide_true, decide_false, m1, m2, decide_eq_true c]
  · have c2 : ¬ (b : Int) < a := by omega
    refine ⟨0, by decide, r_ret (ρ := [some (rto a b), some (rto 1 1), some (.int (a : Int)), some (.int (b : Int))]) hF28 rfl ?_⟩
    show exSs T (calN T 1000 (n + 1)) 1000 [some (rto a b), some (rto 1 1), none, none] b28 = _
    unfold b28 rto
    simp -implicitDefEqProofs (disch := omega) only [PV.zR, List.set_cons_zero, List.set_cons_succ, Bool.true_and, Bool.and_true, Bool.false_and, Bool.and_false, Bool.true_or, Bool.or_true, Bool.false_or, Bool.or_false, Bool.not_true, Bool.not_false, decide_true, decide_false, m1, m2, decide_eq_false c, decide_eq_false c2]
theorem raised_one {k : Int} (h0 : 0 ≤ k) (h1 : k < 1000) : calN T 1000 (n + 2) (.fn 34) [rto 1 1, .int k] = .ok (rto 1 1) := by
  obtain ⟨ρ', hl, o4, rfl⟩ := r_forR (T := T) (call := calN T 1000 (n + 1)) (wf := 1000) (t := .one 4) (it := .rng1 (.var 1)) (b := b34_l0) (m := k.toNat) (ρ := [some (rto 1 1), some (.int k), some (.int 1), some (.int 1), none])
    (I := fun _ ρ => ∃ o4, ρ = [some (rto 1 1), some (.int k), some (.int 1), some (.int 1), o4]) (by simp -implicitDefEqProofs (disch := omega) only [PV.zR, List.set_cons_zero, List.set_cons_succ, Bool.true_and, Bool.and_true, Bool.false_and, Bool.and_false, Bool.true_or, Bool.or_true, Bool.false_or, Bool.or_false, Bool.not_true, Bool.not_false, decide_true, decide_false]) ⟨none, rfl⟩ (by
    rintro j ρ hj ⟨o4, rfl⟩
    refine ⟨[some (rto 1 1), some (.int k), some (.int 1), some (.int 1), some (.int (j : Nat))], [some (rto 1 1), some (.int k), some (.int 1), some (.int 1), some (.int (j : Nat))], rfl, ?_, _, rfl⟩
    have m1 : binD .mul (.int 1) (.int ((1 : Nat) : Int)) = .ok (.int 1) := by rw [r_mul (by decide) (by decide)]; rfl
    unfold b34_l0 rto
    simp -implicitDefEqProofs (disch := omega) only [PV.zR, List.set_cons_zero, List.set_cons_succ, Bool.true_and, Bool.and_true, Bool.false_and, Bool.and_false, Bool.true_or, Bool.or_true, Bool.false_or, Bool.or_false, Bool.not_true, Bool.not_false, decide_true, decide_false, m1])
  refine r_ret (ρ := [some (rto 1 1), some (.int k), some (.int 1), some (.int 1), o4]) hF34 rfl ?_
  show exSs T (calN T 1000 (n + 1)) 1000 [some (rto 1 1), some (.int k), none, none, none] b34 = _
  have hl' : exS T (calN T 1000 (n + 1)) 1000 [some (rto 1 1), some (.int k), some (.int 1), some (.int 1), none] b34_f0 = _ := hl
  unfold b34
  simp -implicitDefEqProofs (disch := omega) only [PV.zR, List.set_cons_zero, List.set_cons_succ, Bool.true_and, Bool.and_true, Bool.false_and, Bool.and_false, Bool.true_or, Bool.or_true, Bool.false_or, Bool.or_false, Bool.not_true, Bool.not_false, decide_true, decide_false, hl', decide_eq_false (show ¬ k < 0 by omega)]
  rfl
theorem ratio_ok {a b : Nat} (hb : 0 < b) (hg : Nat.gcd a b = 1) : calN T 1000 (n + 3) (.fn 27) [rto a b] = .ok (.bl true) := by
  refine r_ret (ρ := [some (rto a b)]) hF27 rfl ?_
  show exSs T (calN T 1000 (n + 2)) 1000 [some (rto a b)] b27 = _
  unfold b27 rto
  have e1 : decide (((([D.int (a : Int), D.int (b : Int)] : List PV.D).length : Nat) : Int) = 2) = true := by simp
  have e2 : decide ((b : Int) < 1) = false := decide_eq_false (by omega)
  have e3 : decide (((Nat.gcd a b : Nat) : Int) = 1) = true := by rw [hg]; rfl
  simp -implicitDefEqProofs (disch := omega) only [PV.zR, List.set_cons_zero, List.set_cons_succ, Bool.true_and, Bool.and_true, Bool.false_and, Bool.and_false, Bool.true_or, Bool.or_true, Bool.false_or, Bool.or_false, Bool.not_true, Bool.not_false, decide_true, decide_false, e1, e2, e3, whole_m, Int.natAbs_natCast]
theorem positive_ok {a b : Nat} (ha : 0 < a) (hb : 0 < b) (hg : Nat.gcd a b = 1) : calN T 1000 (n + 4) (.fn 26) [rto a b] = .ok (.bl true) := by
  refine r_ret (ρ := [some (rto a b)]) hF26 rfl ?_
  show exSs T (calN T 1000 (n + 3)) 1000 [some (rto a b)] b26 = _
  have r := ratio_ok (n := n) hb hg
  unfold b26
  generalize hX : rto a b = X at *
  have e1 : subD X (.int 0) = .ok (.int (a : Int)) := by rw [← hX]; exact r_t0
  simp -implicitDefEqProofs (disch := omega) only [PV.zR, List.set_cons_zero, List.set_cons_succ, Bool.true_and, Bool.and_true, Bool.false_and, Bool.and_false, Bool.true_or, Bool.or_true, Bool.false_or, Bool.or_false, Bool.not_true, Bool.not_false, decide_true, decide_false, r, e1, decide_eq_true (show (0 : Int) < a by omega)]
end
end LW
/-! Machines, part 2: the making of a machine of a town. -/
namespace LW
open PySem PySem.Spec PyProof.Rows L2 PV
/-- one step: from, to, factor, cost -/
structure St where
  a : Nat
  b : Nat
  n : Nat
  d : Nat
  c : Int
def St.t (s : St) : PV.D := .tup [.int (s.a : Int), .int (s.b : Int), rto s.n s.d, .int s.c]
structure StOk (size : Nat) (s : St) : Prop where
  a : s.a < size
  b : s.b < size
  ne : s.a ≠ s.b
  n : 0 < s.n
  d : 0 < s.d
  g : Nat.gcd s.n s.d = 1
  c : 0 ≤ s.c ∧ s.c ≤ 60
  nz : s.n < 2 ^ 70
  dz : s.d < 2 ^ 70
/-- a for, by what is still ahead -/
theorem r_forI {call : Cal → List PV.D → PV.R PV.D} {ρ : En} {ι : Type} {t : Tg} {it : PV.It} {b : Ss} (g : ι → PV.D) {I : List ι → En → Prop} {is : List ι} (hi : evIt T call ρ it = .ok (is.map g)) (h0 : I is ρ)
    (hs : ∀ i is ρ, I (i :: is) ρ → ∃ ρ1 ρ2, setT t (g i) ρ = .ok ρ1 ∧ exSs T call 1000 ρ1 b = .ok (.next, ρ2) ∧ I is ρ2) :
    ∃ ρ', exS T call 1000 ρ (.for_ t it b) = .ok (.next, ρ') ∧ I [] ρ' := by
  have key : ∀ (is : List ι) ρ, I is ρ → ∃ ρ', forL t (fun ρ => exSs T call 1000 ρ b) (is.map g) ρ = .ok (.next, ρ') ∧ I [] ρ' := by
    intro is
    induction is with
    | nil => exact fun ρ h => ⟨ρ, rfl, h⟩
    | cons i is ih =>
      intro ρ h
      obtain ⟨ρ1, ρ2, h1, h2, h3⟩ := hs i is ρ h
      obtain ⟨ρ', h4, h5⟩ := ih ρ2 h3
      refine ⟨ρ', ?_, h5⟩
      show (setT t (g i) ρ >>= fun ρ1 => exSs T call 1000 ρ1 b >>= fun q => match q with
        | (.next, ρ2) => forL t (fun ρ => exSs T call 1000 ρ b) (is.map g) ρ2
        | (.cont, ρ2) => forL t (fun ρ => exSs T call 1000 ρ b) (is.map g) ρ2
        | (.brk, ρ2) => PV.R.ok (Fl.next, ρ2)
        | (.ret d, ρ2) => PV.R.ok (Fl.ret d, ρ2)) = _
      rw [h1, R.ok_bind, h2, R.ok_bind]
      exact h4
  obtain ⟨ρ', h1, h2⟩ := key is ρ h0
  refine ⟨ρ', ?_, h2⟩
  show (evIt T call ρ it >>= fun xs => forL t (fun ρ => exSs T call 1000 ρ b) xs ρ) = _
  rw [hi]
  exact h1
/-- a making whose last parameters take their defaults -/
theorem c_mkD {n c i : Nat} {F : Fn} {ds : List PV.D} (hc : (T.cls[c]?).bind (·.init) = some i) (hF : T.fns[i]? = some F) (hl : ds.length + 1 + F.dfl.length = F.np) : calN T 1000 (n + 3) (.mk c) ds = iniF (exSs T (calN T 1000 (n + 1)) 1000 (startE F.ns (.ins c [] :: ds ++ F.dfl)) F.body) := by
  show calN T 1000 (n + 2) (.ini c) ds = _
  have e : calN T 1000 (n + 2) (.ini c) ds = iniF (bodyD T (calN T 1000 (n + 1)) 1000 F (.ins c [] :: ds)) := by
    show (match (T.cls[c]?).bind (·.init) with
    | some f => match T.fns[f]? with
      | some F => (bodyD T (calN T 1000 (n + 1)) 1000 F (.ins c [] :: ds)) >>= fun q => match q with
        | (.next, ρ) => rdV ρ 0
        | _ => .bad
      | none => .bad
    | none => .bad) = _
    rw [hc]
    show (match T.fns[i]? with
      | some F => (bodyD T (calN T 1000 (n + 1)) 1000 F (.ins c [] :: ds)) >>= fun q => match q with
        | (.next, ρ) => rdV ρ 0
        | _ => .bad
      | none => .bad) = _
    rw [hF]
    rfl
  rw [e]
  have hl' : (D.ins c [] :: ds).length + F.dfl.length = F.np := by rw [List.length_cons]; omega
  have : bodyD T (calN T 1000 (n + 1)) 1000 F (.ins c [] :: ds) = exSs T (calN T 1000 (n + 1)) 1000 (startE F.ns (.ins c [] :: ds ++ F.dfl)) F.body := by
    unfold bodyD
    rw [if_neg (by rw [List.length_append]; omega), if_neg (by omega), show F.dfl.length - (F.np - (D.ins c [] :: ds).length) = 0 by omega, List.drop_zero]
  rw [this]
section
variable {n : Nat}
theorem globC : R.of T.globs[2]? = .ok (.int 60) := rfl
theorem globO : R.of T.globs[3]? = .ok (rto 1 1) := rfl
theorem globZ : R.of T.globs[4]? = .ok (rto 0 1) := rfl
theorem row4_ok {s : St} : calN T 1000 (n + 2) (.fn 23) [s.t, .int 4] = .ok (.bl true) := by kernel_rfl
theorem step_is {size : Nat} {s : St} (h : StOk size s) : calN T 1000 (n + 5) (.fn 22) [s.t, .int (size : Int)] = .ok (.bl true) := by
  have ha := h.a; have hb := h.b; have hne := h.ne; have hc := h.c
  have r4 := row4_ok (n := n + 2) (s := s)
  have p := positive_ok (n := n) h.n h.d h.g
  refine r_ret (ρ := [some s.t, some (.int (size : Int))]) hF22 rfl ?_
  show exSs T (calN T 1000 (n + 4)) 1000 [some s.t, some (.int (size : Int))] b22 = _
  unfold b22
  have t0 : s.t = .tup [.int (s.a : Int), .int (s.b : Int), rto s.n s.d, .int s.c] := rfl
  rw [t0] at r4 ⊢
  generalize rto s.n s.d = X at *
  simp -implicitDefEqProofs (disch := omega) only [PV.zR, List.set_cons_zero, List.set_cons_succ, Bool.true_and, Bool.and_true, Bool.false_and, Bool.and_false, Bool.true_or, Bool.or_true, Bool.false_or, Bool.or_false, Bool.not_true, Bool.not_false, decide_true, decide_false, r4, state_m, p, whole_m, globC, decide_eq_true (show (0 : Int) ≤ (s.a : Int) by omega), decide_eq_true (show (s.a : Int) < (size : Int) by omega), decide_eq_true (show (0 : Int) ≤ (s.b : Int) by omega), decide_eq_true (show (s.b : Int) < (size : Int) by omega), decide_eq_false (show ¬ (s.a : Int) = (s.b : Int) by omega), decide_eq_true hc.1, decide_eq_true hc.2]
theorem steps_ok {size : Nat} {ss : List St} (h : ∀ s ∈ ss, StOk size s) (hz : ss.length < 100000) : calN T 1000 (n + 6) (.fn 21) [.tup (ss.map St.t), .int (size : Int)] = .ok (.tup (ss.map St.t)) := by
  obtain ⟨ρ', hl, o, rfl⟩ := r_forR (T := T) (call := calN T 1000 (n + 5)) (wf := 1000) (t := .one 2) (it := .rng1 (.bi .len (.cons (.var 0) .nil))) (b := b21_l0) (m := ss.length) (ρ := [some (.tup (ss.map St.t)), some (.int (size : Int)), none])
    (I := fun _ ρ => ∃ o, ρ = [some (.tup (ss.map St.t)), some (.int (size : Int)), o]) (by simp -implicitDefEqProofs (disch := omega) only [PV.zR, List.set_cons_zero, List.set_cons_succ, Bool.true_and, Bool.and_true, Bool.false_and, Bool.and_false, Bool.true_or, Bool.or_true, Bool.false_or, Bool.or_false, Bool.not_true, Bool.not_false, decide_true, decide_false, List.length_map, Int.toNat_natCast]) ⟨none, rfl⟩ (by
    rintro j ρ hj ⟨o, rfl⟩
    have s1 := r_mapT (g := St.t) hj
    have s2 := step_is (n := n) (h ss[j] (List.getElem_mem hj))
    refine ⟨[some (.tup (ss.map St.t)), some (.int (size : Int)), some (.int (j : Nat))], [some (.tup (ss.map St.t)), some (.int (size : Int)), some (.int (j : Nat))], rfl, ?_, _, rfl⟩
    unfold b21_l0
    simp -implicitDefEqProofs (disch := omega) only [PV.zR, List.set_cons_zero, List.set_cons_succ, Bool.true_and, Bool.and_true, Bool.false_and, Bool.and_false, Bool.true_or, Bool.or_true, Bool.false_or, Bool.or_false, Bool.not_true, Bool.not_false, decide_true, decide_false, s1, s2])
  refine r_ret (ρ := [some (.tup (ss.map St.t)), some (.int (size : Int)), o]) hF21 rfl ?_
  show exSs T (calN T 1000 (n + 5)) 1000 [some (.tup (ss.map St.t)), some (.int (size : Int)), none] b21 = _
  have hl' : exS T (calN T 1000 (n + 5)) 1000 [some (.tup (ss.map St.t)), some (.int (size : Int)), none] b21_f0 = _ := hl
  unfold b21
  simp -implicitDefEqProofs (disch := omega) only [PV.zR, List.set_cons_zero, List.set_cons_succ, Bool.true_and, Bool.and_true, Bool.false_and, Bool.and_false, Bool.true_or, Bool.or_true, Bool.false_or, Bool.or_false, Bool.not_true, Bool.not_false, decide_true, decide_false, hl']
/-! ### frozen steps -/
theorem frozen_tup {ι : Type} {is : List ι} (g f : ι → PV.D) (hz : is.length ≤ 1000000) (h : ∀ i ∈ is, calN T 1000 (n + 1) (.fn 20) [g i] = .ok (f i)) : calN T 1000 (n + 2) (.fn 20) [.tup (is.map g)] = .ok (.tup (is.map f)) := by
  have e : evE T (calN T 1000 (n + 1)) [some (.tup (is.map g)), none, none] b20_c0 = .ok (.lst (is.map f)) := r_comp g f rfl hz fun i hi => ⟨[some (.tup (is.map g)), none, some (g i)], rfl, by simp -implicitDefEqProofs (disch := omega) only [PV.zR, List.set_cons_zero, List.set_cons_succ, Bool.true_and, Bool.and_true, Bool.false_and, Bool.and_false, Bool.true_or, Bool.or_true, Bool.false_or, Bool.or_false, Bool.not_true, Bool.not_false, decide_true, decide_false, h i hi]⟩
  refine r_ret (ρ := [some (.tup (is.map g)), none, none]) hF20 rfl ?_
  show exSs T (calN T 1000 (n + 1)) 1000 [some (.tup (is.map g)), none, none] b20 = _
  unfold b20
  simp -implicitDefEqProofs (disch := omega) only [PV.zR, List.set_cons_zero, List.set_cons_succ, Bool.true_and, Bool.and_true, Bool.false_and, Bool.and_false, Bool.true_or, Bool.or_true, Bool.false_or, Bool.or_false, Bool.not_true, Bool.not_false, decide_true, decide_false, e]
theorem frozen_rt {a b : Nat} : calN T 1000 (n + 3) (.fn 20) [rto a b] = .ok (rto a b) :=
  frozen_tup (is := [(a : Int), (b : Int)]) D.int D.int (by simp) fun i _ => frozen_int
theorem frozen_st {s : St} : calN T 1000 (n + 4) (.fn 20) [s.t] = .ok s.t := by
  have := frozen_tup (n := n + 2) (is := [.int (s.a : Int), .int (s.b : Int), rto s.n s.d, .int s.c]) id id (by simp) (by
    intro i hi
    simp only [List.mem_cons, List.not_mem_nil, or_false] at hi
    rcases hi with rfl | rfl | rfl | rfl
    · exact frozen_int
    · exact frozen_int
    · exact frozen_rt
    · exact frozen_int)
  show calN T 1000 (n + 4) (.fn 20) [.tup [.int (s.a : Int), .int (s.b : Int), rto s.n s.d, .int s.c]] = .ok (.tup [.int (s.a : Int), .int (s.b : Int), rto s.n s.d, .int s.c])
  simpa using this
theorem frozen_sts {ss : List St} (hz : ss.length ≤ 1000000) : calN T 1000 (n + 5) (.fn 20) [.lst (ss.map St.t)] = .ok (.tup (ss.map St.t)) :=
  frozen_lst St.t St.t hz fun s _ => frozen_st
/-! ### the chances out of a state -/
def wS (D : Nat) (s : St) : Nat := D / s.d
def outF (D st : Nat) : List St → Nat
  | [] => 0
  | s :: ss => (if s.a = st then wS D s else 0) + outF D st ss
theorem low_zero {D : Nat} (h : 0 < D) : lowN 0 D = (0, 1) := by
  unfold lowN
  rw [Nat.gcd_zero_left, Nat.zero_div, Nat.div_self h]
theorem chance_ok {D st : Nat} {ss : List St} (hD : 0 < D) (hDz : D < 2 ^ 60) (h : ∀ s ∈ ss, s.n = 1 ∧ 0 < s.d ∧ s.d ∣ D ∧ 0 ≤ s.c ∧ s.c ≤ 60) (ho : outF D st ss ≤ D) :
    calN T 1000 (n + 5) (.fn 29) [.tup (ss.map St.t), .int (st : Int), rto 1 1] = .ok (rtP (lowN (outF D st ss) D)) := by
  obtain ⟨ρ', hl, N, o, hN, _, rfl⟩ := r_forI (call := calN T 1000 (n + 4)) (t := .one 4) (it := .seq (.var 0)) (b := b29_l0) (is := ss) (ρ := [some (.tup (ss.map St.t)), some (.int (st : Int)), some (rto 1 1), some (rto 0 1), none]) St.t
    (I := fun ys ρ => ∃ (N : Nat) (o : Option PV.D), N + outF D st ys = outF D st ss ∧ (∀ s ∈ ys, s ∈ ss) ∧ ρ = [some (.tup (ss.map St.t)), some (.int (st : Int)), some (rto 1 1), some (rtP (lowN N D)), o]) (by simp -implicitDefEqProofs (disch := omega) only [PV.zR, List.set_cons_zero, List.set_cons_succ, Bool.true_and, Bool.and_true, Bool.false_and, Bool.and_false, Bool.true_or, Bool.or_true, Bool.false_or, Bool.or_false, Bool.not_true, Bool.not_false, decide_true, decide_false]) ⟨0, none, by simp, fun _ h => h, by rw [low_zero hD]; rfl⟩ (by
    rintro s ys ρ ⟨N, o, hN, hm, rfl⟩
    obtain ⟨s1, s2, s3, s4, s5⟩ := h s (hm s List.mem_cons_self)
    have hN' : N + ((if s.a = st then wS D s else 0) + outF D st ys) = outF D st ss := hN
    have g1 : (lowN N D).1 ≤ N := Nat.div_le_self _ _
    have g2 : (lowN N D).2 ≤ D := Nat.div_le_self _ _
    have g3 : 0 < (lowN N D).2 := Nat.div_pos (Nat.gcd_le_right _ hD) (Nat.gcd_pos_of_pos_right _ hD)
    have hd : s.d ≤ D := Nat.le_of_dvd hD s3
    have t0 : s.t = .tup [.int (s.a : Int), .int (s.b : Int), rto s.n s.d, .int s.c] := rfl
    have c1 : calN T 1000 (n + 4) (.fn 32) [s.t, rto 1 1] = .ok (rto 1 s.d) := by
      have r1 := raised_one (n := n + 1) s4 (show s.c < 1000 by omega)
      have r2 := times_ok (n := n) (a := 1) (b := s.d) (c := 1) (d := 1) s2 (by decide) (by decide) (by omega) (by decide) (by decide)
      rw [Nat.mul_one, Nat.mul_one, low_one s2] at r2
      refine r_ret (ρ := [some s.t, some (rto 1 1)]) hF32 rfl ?_
      show exSs T (calN T 1000 (n + 3)) 1000 [some s.t, some (rto 1 1)] b32 = _
      unfold b32
      rw [t0, s1]
      generalize hX : rto 1 s.d = X at *
      generalize hY : rto 1 1 = Y at *
      have r2' : calN T 1000 (n + 3) (.fn 33) [X, Y] = .ok X := by rw [r2, ← hX]; rfl
      simp -implicitDefEqProofs (disch := omega) only [PV.zR, List.set_cons_zero, List.set_cons_succ, Bool.true_and, Bool.and_true, Bool.false_and, Bool.and_false, Bool.true_or, Bool.or_true, Bool.false_or, Bool.or_false, Bool.not_true, Bool.not_false, decide_true, decide_false, r1, r2']
    have c2 := plus_ok (n := n + 1) (a := (lowN N D).1) (b := (lowN N D).2) (c := 1) (d := s.d) g3 s2 (by omega) (by omega) (by decide) (by omega)
    have c3 : s.d * wS D s = D := Nat.mul_div_cancel' s3
    rw [Nat.one_mul, low_add hD c3] at c2
    refine ⟨[some (.tup (ss.map St.t)), some (.int (st : Int)), some (rto 1 1), some (rtP (lowN N D)), some s.t], [some (.tup (ss.map St.t)), some (.int (st : Int)), some (rto 1 1), some (rtP (lowN (N + (if s.a = st then wS D s else 0)) D)), some s.t], rfl, ?_, N + (if s.a = st then wS D s else 0), some s.t, by omega, fun x hx => hm x (List.mem_cons_of_mem _ hx), rfl⟩
    have a0 : subD s.t (.int 0) = .ok (.int (s.a : Int)) := by rw [t0]; exact r_t0
    unfold b29_l0
    generalize hX : rto 1 s.d = X at *
    generalize hY : rto 1 1 = Y at *
    generalize hZ : s.t = Z at *
    by_cases q : s.a = st
    · have e1 : decide ((s.a : Int) = (st : Int)) = true := decide_eq_true (by omega)
      rw [if_pos q]
      have c2' : calN T 1000 (n + 4) (.fn 30) [rtP (lowN N D), X] = .ok (rtP (lowN (N + wS D s) D)) := c2
      simp -implicitDefEqProofs (disch := omega) only [PV.zR, List.set_cons_zero, List.set_cons_succ, Bool.true_and, Bool.and_true, Bool.false_and, Bool.and_false, Bool.true_or, Bool.or_true, Bool.false_or, Bool.or_false, Bool.not_true, Bool.not_false, decide_true, decide_false, a0, c1, c2', e1]
    · have e1 : decide ((s.a : Int) = (st : Int)) = false := decide_eq_false (by omega)
      rw [if_neg q, Nat.add_zero]
      simp -implicitDefEqProofs (disch := omega) only [PV.zR, List.set_cons_zero, List.set_cons_succ, Bool.true_and, Bool.and_true, Bool.false_and, Bool.and_false, Bool.true_or, Bool.or_true, Bool.false_or, Bool.or_false, Bool.not_true, Bool.not_false, decide_true, decide_false, a0, e1, Nat.add_zero])
  have hN' : N = outF D st ss := by
    have : N + 0 = outF D st ss := hN
    omega
  subst hN'
  refine r_ret (ρ := [some (.tup (ss.map St.t)), some (.int (st : Int)), some (rto 1 1), some (rtP (lowN (outF D st ss) D)), o]) hF29 rfl ?_
  show exSs T (calN T 1000 (n + 4)) 1000 [some (.tup (ss.map St.t)), some (.int (st : Int)), some (rto 1 1), none, none] b29 = _
  have hl' : exS T (calN T 1000 (n + 4)) 1000 [some (.tup (ss.map St.t)), some (.int (st : Int)), some (rto 1 1), some (rto 0 1), none] b29_f0 = _ := hl
  unfold b29
  simp -implicitDefEqProofs (disch := omega) only [PV.zR, List.set_cons_zero, List.set_cons_succ, Bool.true_and, Bool.and_true, Bool.false_and, Bool.and_false, Bool.true_or, Bool.or_true, Bool.false_or, Bool.or_false, Bool.not_true, Bool.not_false, decide_true, decide_false, globZ, hl']
end
end LW
/-! Machines, part 3: ways, leaving rows, the making. -/
namespace LW
open PySem PySem.Spec PyProof.Rows L2 PV
/-- the pairs of the steps -/
def prs (ss : List St) : List (Nat × Nat) := ss.map fun s => (s.a, s.b)
def turnR (told : List Bool) (p : Nat × Nat) : List Bool := if told.getD p.1 false then told.set p.2 true else told
def roundR (ps : List (Nat × Nat)) (told : List Bool) : List Bool := ps.foldl turnR told
def roundsR (ps : List (Nat × Nat)) : Nat → List Bool → List Bool
  | 0, t => t
  | k + 1, t => roundsR ps k (roundR ps t)
def startR (size st : Nat) : List Bool := (List.range size).map fun k : Nat => decide ((k : Int) = (st : Int))
def bL (bs : List Bool) : PV.D := .lst (bs.map D.bl)
theorem turnR_len {told : List Bool} {p : Nat × Nat} : (turnR told p).length = told.length := by
  unfold turnR
  split
  · exact List.length_set
  · rfl
theorem foldl_range {α : Type} (f : α → α) : ∀ (k : Nat) (t : α), (List.range k).foldl (fun t _ => f t) t = Nat.rec t (fun _ r => f r) k
  | 0, t => rfl
  | k + 1, t => by rw [List.range_succ, List.foldl_append, foldl_range f k t]; rfl
theorem rounds_rec (ps : List (Nat × Nat)) : ∀ (k : Nat) (t : List Bool), roundsR ps (k + 1) t = roundR ps (roundsR ps k t)
  | 0, t => rfl
  | k + 1, t => by
    show roundsR ps (k + 1) (roundR ps t) = _
    rw [rounds_rec ps k]
    rfl
section
variable {n : Nat}
theorem at_bL {bs : List Bool} {k : Nat} (h : k < bs.length) : subD (bL bs) (.int (k : Int)) = .ok (.bl (bs.getD k false)) := by
  unfold bL
  rw [r_mapL (g := D.bl) h]
  simp [h]
theorem reach_ok {size st : Nat} {ss : List St} (h : ∀ s ∈ ss, s.a < size ∧ s.b < size) (hz : size < 1000) :
    calN T 1000 (n + 2) (.fn 36) [.tup (ss.map St.t), .int (size : Int), .int (st : Int)] = .ok (bL (roundsR (prs ss) size (startR size st))) := by
  have e0 : evE T (calN T 1000 (n + 1)) [some (.tup (ss.map St.t)), some (.int (size : Int)), some (.int (st : Int)), none, none, none, none, none] b36_c0 = .ok (bL (startR size st)) := by
    unfold bL startR
    rw [List.map_map]
    exact r_comp (fun k => .int (k : Nat)) _ (by simp -implicitDefEqProofs (disch := omega) only [PV.zR, List.set_cons_zero, List.set_cons_succ, Bool.true_and, Bool.and_true, Bool.false_and, Bool.and_false, Bool.true_or, Bool.or_true, Bool.false_or, Bool.or_false, Bool.not_true, Bool.not_false, decide_true, decide_false, Int.toNat_natCast]) (by rw [List.length_range]; omega) fun k hk => ⟨[some (.tup (ss.map St.t)), some (.int (size : Int)), some (.int (st : Int)), none, none, none, none, some (.int (k : Nat))], rfl, by simp -implicitDefEqProofs (disch := omega) only [PV.zR, List.set_cons_zero, List.set_cons_succ, Bool.true_and, Bool.and_true, Bool.false_and, Bool.and_false, Bool.true_or, Bool.or_true, Bool.false_or, Bool.or_false, Bool.not_true, Bool.not_false, decide_true, decide_false]; rfl⟩
  have inner : ∀ (told : List Bool) (o4 o5 : Option PV.D), told.length = size → ∃ o5', exS T (calN T 1000 (n + 1)) 1000 [some (.tup (ss.map St.t)), some (.int (size : Int)), some (.int (st : Int)), some (bL told), o4, o5, none, none] b36_f0 =
      .ok (.next, [some (.tup (ss.map St.t)), some (.int (size : Int)), some (.int (st : Int)), some (bL (roundR (prs ss) told)), o4, o5', none, none]) := by
    intro told o4 o5 hl
    obtain ⟨ρ', hl2, o5', _, rfl⟩ := r_for (T := T) (call := calN T 1000 (n + 1)) (wf := 1000) (t := .one 5) (it := .seq (.var 0)) (b := b36_l0) (ρ := [some (.tup (ss.map St.t)), some (.int (size : Int)), some (.int (st : Int)), some (bL told), o4, o5, none, none]) St.t
      (fun told ρ => ∃ o5, told.length = size ∧ ρ = [some (.tup (ss.map St.t)), some (.int (size : Int)), some (.int (st : Int)), some (bL told), o4, o5, none, none]) (fun told s => turnR told (s.a, s.b)) (is := ss) (s := told) (by simp -implicitDefEqProofs (disch := omega) only [PV.zR, List.set_cons_zero, List.set_cons_succ, Bool.true_and, Bool.and_true, Bool.false_and, Bool.and_false, Bool.true_or, Bool.or_true, Bool.false_or, Bool.or_false, Bool.not_true, Bool.not_false, decide_true, decide_false]) ⟨o5, hl, rfl⟩ (by
      rintro told s ρ hs ⟨o5, hl, rfl⟩
      obtain ⟨ha, hb⟩ := h s hs
      have t0 : s.t = .tup [.int (s.a : Int), .int (s.b : Int), rto s.n s.d, .int s.c] := rfl
      have a0 : subD s.t (.int 0) = .ok (.int (s.a : Int)) := by rw [t0]; exact r_t0
      have a1 : subD s.t (.int 1) = .ok (.int (s.b : Int)) := by rw [t0]; exact r_t1
      have a2 := at_bL (bs := told) (k := s.a) (by omega)
      refine ⟨[some (.tup (ss.map St.t)), some (.int (size : Int)), some (.int (st : Int)), some (bL told), o4, some s.t, none, none], [some (.tup (ss.map St.t)), some (.int (size : Int)), some (.int (st : Int)), some (bL (turnR told (s.a, s.b))), o4, some s.t, none, none], rfl, ?_, some s.t, by rw [turnR_len]; exact hl, rfl⟩
      unfold b36_l0
      generalize hZ : s.t = Z at *
      by_cases q : told.getD s.a false = true
      · have e1 : turnR told (s.a, s.b) = told.set s.b true := by unfold turnR; rw [if_pos q]
        have e2 : setPathD (.bl true) (bL told) [.int (s.b : Int)] = .ok (bL (told.set s.b true)) := by
          unfold bL
          rw [k_set1 (by omega) (by rw [List.length_map]; omega), Int.toNat_natCast, List.map_set]
        rw [q] at a2
        rw [e1]
        generalize hB : bL told = B at *
        simp -implicitDefEqProofs (disch := omega) only [PV.zR, List.set_cons_zero, List.set_cons_succ, Bool.true_and, Bool.and_true, Bool.false_and, Bool.and_false, Bool.true_or, Bool.or_true, Bool.false_or, Bool.or_false, Bool.not_true, Bool.not_false, decide_true, decide_false, a0, a1, a2, e2]
      · have q2 : told.getD s.a false = false := by simpa using q
        have e1 : turnR told (s.a, s.b) = told := by unfold turnR; rw [if_neg q]
        rw [q2] at a2
        rw [e1]
        generalize hB : bL told = B at *
        simp -implicitDefEqProofs (disch := omega) only [PV.zR, List.set_cons_zero, List.set_cons_succ, Bool.true_and, Bool.and_true, Bool.false_and, Bool.and_false, Bool.true_or, Bool.or_true, Bool.false_or, Bool.or_false, Bool.not_true, Bool.not_false, decide_true, decide_false, a0, a1, a2])
    refine ⟨o5', hl2.trans ?_⟩
    unfold roundR prs
    rw [List.foldl_map]
  obtain ⟨ρ', hl, o4, o5, _, rfl⟩ := r_forR (T := T) (call := calN T 1000 (n + 1)) (wf := 1000) (t := .one 4) (it := .rng1 (.var 1)) (b := b36_l1) (m := size) (ρ := [some (.tup (ss.map St.t)), some (.int (size : Int)), some (.int (st : Int)), some (bL (startR size st)), none, none, none, none])
    (I := fun j ρ => ∃ o4 o5, (roundsR (prs ss) j (startR size st)).length = size ∧ ρ = [some (.tup (ss.map St.t)), some (.int (size : Int)), some (.int (st : Int)), some (bL (roundsR (prs ss) j (startR size st))), o4, o5, none, none]) (by simp -implicitDefEqProofs (disch := omega) only [PV.zR, List.set_cons_zero, List.set_cons_succ, Bool.true_and, Bool.and_true, Bool.false_and, Bool.and_false, Bool.true_or, Bool.or_true, Bool.false_or, Bool.or_false, Bool.not_true, Bool.not_false, decide_true, decide_false, Int.toNat_natCast]) ⟨none, none, by simp [roundsR, startR], rfl⟩ (by
    rintro j ρ hj ⟨o4, o5, hl, rfl⟩
    obtain ⟨o5', e⟩ := inner _ (some (.int (j : Nat))) o5 hl
    refine ⟨[some (.tup (ss.map St.t)), some (.int (size : Int)), some (.int (st : Int)), some (bL (roundsR (prs ss) j (startR size st))), some (.int (j : Nat)), o5, none, none], [some (.tup (ss.map St.t)), some (.int (size : Int)), some (.int (st : Int)), some (bL (roundsR (prs ss) (j + 1) (startR size st))), some (.int (j : Nat)), o5', none, none], rfl, ?_, some (.int (j : Nat)), o5', ?_, rfl⟩
    · unfold b36_l1
      rw [rounds_rec]
      simp -implicitDefEqProofs (disch := omega) only [PV.zR, List.set_cons_zero, List.set_cons_succ, Bool.true_and, Bool.and_true, Bool.false_and, Bool.and_false, Bool.true_or, Bool.or_true, Bool.false_or, Bool.or_false, Bool.not_true, Bool.not_false, decide_true, decide_false, e]
    · rw [rounds_rec]
      have : ∀ (ps : List (Nat × Nat)) (t : List Bool), (roundR ps t).length = t.length := by
        intro ps
        unfold roundR
        induction ps with
        | nil => exact fun t => rfl
        | cons p ps ih => exact fun t => (ih _).trans turnR_len
      rw [this, hl])
  refine r_ret (ρ := [some (.tup (ss.map St.t)), some (.int (size : Int)), some (.int (st : Int)), some (bL (roundsR (prs ss) size (startR size st))), o4, o5, none, none]) hF36 rfl ?_
  show exSs T (calN T 1000 (n + 1)) 1000 [some (.tup (ss.map St.t)), some (.int (size : Int)), some (.int (st : Int)), none, none, none, none, none] b36 = _
  have hl' : exS T (calN T 1000 (n + 1)) 1000 [some (.tup (ss.map St.t)), some (.int (size : Int)), some (.int (st : Int)), some (bL (startR size st)), none, none, none, none] b36_f1 = _ := hl
  unfold b36
  simp -implicitDefEqProofs (disch := omega) only [PV.zR, List.set_cons_zero, List.set_cons_succ, Bool.true_and, Bool.and_true, Bool.false_and, Bool.and_false, Bool.true_or, Bool.or_true, Bool.false_or, Bool.or_false, Bool.not_true, Bool.not_false, decide_true, decide_false, e0, hl']
theorem ways_ok {size : Nat} {ss : List St} (h : ∀ s ∈ ss, s.a < size ∧ s.b < size) (hz : size < 1000) (hr : ∀ st < size, roundsR (prs ss) size (startR size st) = List.replicate size true) :
    calN T 1000 (n + 3) (.fn 35) [.tup (ss.map St.t), .int (size : Int)] = .ok .non := by
  obtain ⟨ρ', hl, o2, o3, o4, rfl⟩ := r_forR (T := T) (call := calN T 1000 (n + 2)) (wf := 1000) (t := .one 2) (it := .rng1 (.var 1)) (b := b35_l1) (m := size) (ρ := [some (.tup (ss.map St.t)), some (.int (size : Int)), none, none, none])
    (I := fun j ρ => ∃ o2 o3 o4, ρ = [some (.tup (ss.map St.t)), some (.int (size : Int)), o2, o3, o4]) (by simp -implicitDefEqProofs (disch := omega) only [PV.zR, List.set_cons_zero, List.set_cons_succ, Bool.true_and, Bool.and_true, Bool.false_and, Bool.and_false, Bool.true_or, Bool.or_true, Bool.false_or, Bool.or_false, Bool.not_true, Bool.not_false, decide_true, decide_false, Int.toNat_natCast]) ⟨none, none, none, rfl⟩ (by
    rintro j ρ hj ⟨o2, o3, o4, rfl⟩
    have r := reach_ok (n := n) (st := j) h hz
    rw [hr j hj] at r
    obtain ⟨ρ', hl, o4', rfl⟩ := r_forR (T := T) (call := calN T 1000 (n + 2)) (wf := 1000) (t := .one 4) (it := .rng1 (.var 1)) (b := b35_l0) (m := size) (ρ := [some (.tup (ss.map St.t)), some (.int (size : Int)), some (.int (j : Nat)), some (bL (List.replicate size true)), o4])
      (I := fun _ ρ => ∃ o4, ρ = [some (.tup (ss.map St.t)), some (.int (size : Int)), some (.int (j : Nat)), some (bL (List.replicate size true)), o4]) (by simp -implicitDefEqProofs (disch := omega) only [PV.zR, List.set_cons_zero, List.set_cons_succ, Bool.true_and, Bool.and_true, Bool.false_and, Bool.and_false, Bool.true_or, Bool.or_true, Bool.false_or, Bool.or_false, Bool.not_true, Bool.not_false, decide_true, decide_false, Int.toNat_natCast]) ⟨o4, rfl⟩ (by
      rintro k ρ hk ⟨o4, rfl⟩
      have a := at_bL (bs := List.replicate size true) (k := k) (by rw [List.length_replicate]; exact hk)
      have e : (List.replicate size true).getD k false = true := by simp [hk]
      rw [e] at a
      refine ⟨[some (.tup (ss.map St.t)), some (.int (size : Int)), some (.int (j : Nat)), some (bL (List.replicate size true)), some (.int (k : Nat))], [some (.tup (ss.map St.t)), some (.int (size : Int)), some (.int (j : Nat)), some (bL (List.replicate size true)), some (.int (k : Nat))], rfl, ?_, _, rfl⟩
      unfold b35_l0
      simp -implicitDefEqProofs (disch := omega) only [PV.zR, List.set_cons_zero, List.set_cons_succ, Bool.true_and, Bool.and_true, Bool.false_and, Bool.and_false, Bool.true_or, Bool.or_true, Bool.false_or, Bool.or_false, Bool.not_true, Bool.not_false, decide_true, decide_false, a])
    refine ⟨[some (.tup (ss.map St.t)), some (.int (size : Int)), some (.int (j : Nat)), o3, o4], [some (.tup (ss.map St.t)), some (.int (size : Int)), some (.int (j : Nat)), some (bL (List.replicate size true)), o4'], rfl, ?_, _, _, _, rfl⟩
    have hl' : exS T (calN T 1000 (n + 2)) 1000 [some (.tup (ss.map St.t)), some (.int (size : Int)), some (.int (j : Nat)), some (bL (List.replicate size true)), o4] b35_f0 = _ := hl
    unfold b35_l1
    simp -implicitDefEqProofs (disch := omega) only [PV.zR, List.set_cons_zero, List.set_cons_succ, Bool.true_and, Bool.and_true, Bool.false_and, Bool.and_false, Bool.true_or, Bool.or_true, Bool.false_or, Bool.or_false, Bool.not_true, Bool.not_false, decide_true, decide_false, r, hl'])
  rw [c_run hF35 rfl]
  show retF (exSs T (calN T 1000 (n + 2)) 1000 [some (.tup (ss.map St.t)), some (.int (size : Int)), none, none, none] b35) = _
  have hl' : exS T (calN T 1000 (n + 2)) 1000 [some (.tup (ss.map St.t)), some (.int (size : Int)), none, none, none] b35_f1 = _ := hl
  unfold b35
  simp -implicitDefEqProofs (disch := omega) only [PV.zR, List.set_cons_zero, List.set_cons_succ, Bool.true_and, Bool.and_true, Bool.false_and, Bool.and_false, Bool.true_or, Bool.or_true, Bool.false_or, Bool.or_false, Bool.not_true, Bool.not_false, decide_true, decide_false, hl']
/-- for each state the numbers of the steps that start there -/
def leavF (ss : List St) (st : Nat) : List Int := ((List.range ss.length).filter fun k => decide ((((ss.map St.a).getD k 0 : Nat) : Int) = (st : Int))).map fun k : Nat => (k : Int)
def leavD (size : Nat) (ss : List St) : PV.D := .tup ((List.range size).map fun st => PV.iT (leavF ss st))
theorem leav_ok {size : Nat} {ss : List St} (hz : size < 1000) (hz2 : ss.length < 100000) : calN T 1000 (n + 2) (.fn 37) [.tup (ss.map St.t), .int (size : Int)] = .ok (leavD size ss) := by
  have e0 : ∀ (st : Nat) (o4 : Option PV.D), evE T (calN T 1000 (n + 1)) [some (.tup (ss.map St.t)), some (.int (size : Int)), none, some (.int (st : Nat)), o4] b37_c0 = .ok (.lst ((leavF ss st).map D.int)) := by
    intro st o4
    unfold leavF
    rw [List.map_map]
    exact r_compI (fun k => .int (k : Nat)) _ _ (by simp -implicitDefEqProofs (disch := omega) only [PV.zR, List.set_cons_zero, List.set_cons_succ, Bool.true_and, Bool.and_true, Bool.false_and, Bool.and_false, Bool.true_or, Bool.or_true, Bool.false_or, Bool.or_false, Bool.not_true, Bool.not_false, decide_true, decide_false, List.length_map, Int.toNat_natCast]) (by rw [List.length_range]; omega) fun k hk => by
      have hk : k < ss.length := by simpa using hk
      have s1 := r_mapT (g := St.t) hk
      have t0 : (ss[k]).t = .tup [.int ((ss[k]).a : Int), .int ((ss[k]).b : Int), rto (ss[k]).n (ss[k]).d, .int (ss[k]).c] := rfl
      have a0 : subD (ss[k]).t (.int 0) = .ok (.int ((ss[k]).a : Int)) := by rw [t0]; exact r_t0
      have e : (ss.map St.a).getD k 0 = (ss[k]).a := by simp [hk]
      refine ⟨[some (.tup (ss.map St.t)), some (.int (size : Int)), none, some (.int (st : Nat)), some (.int (k : Nat))], rfl, ?_, fun _ => ?_⟩
      · rw [e]
        generalize (ss[k]).t = Z at *
        simp -implicitDefEqProofs (disch := omega) only [PV.zR, List.set_cons_zero, List.set_cons_succ, Bool.true_and, Bool.and_true, Bool.false_and, Bool.and_false, Bool.true_or, Bool.or_true, Bool.false_or, Bool.or_false, Bool.not_true, Bool.not_false, decide_true, decide_false, s1, a0]
      · simp -implicitDefEqProofs (disch := omega) only [PV.zR, List.set_cons_zero, List.set_cons_succ, Bool.true_and, Bool.and_true, Bool.false_and, Bool.and_false, Bool.true_or, Bool.or_true, Bool.false_or, Bool.or_false, Bool.not_true, Bool.not_false, decide_true, decide_false]
        rfl
  have e1 : evE T (calN T 1000 (n + 1)) [some (.tup (ss.map St.t)), some (.int (size : Int)), none, none, none] b37_c1 = .ok (.lst ((List.range size).map fun st => PV.iT (leavF ss st))) :=
    r_comp (fun k => .int (k : Nat)) _ (by simp -implicitDefEqProofs (disch := omega) only [PV.zR, List.set_cons_zero, List.set_cons_succ, Bool.true_and, Bool.and_true, Bool.false_and, Bool.and_false, Bool.true_or, Bool.or_true, Bool.false_or, Bool.or_false, Bool.not_true, Bool.not_false, decide_true, decide_false, Int.toNat_natCast]) (by rw [List.length_range]; omega) fun st hst => by
      refine ⟨[some (.tup (ss.map St.t)), some (.int (size : Int)), none, some (.int (st : Nat)), none], rfl, ?_⟩
      simp -implicitDefEqProofs (disch := omega) only [PV.zR, List.set_cons_zero, List.set_cons_succ, Bool.true_and, Bool.and_true, Bool.false_and, Bool.and_false, Bool.true_or, Bool.or_true, Bool.false_or, Bool.or_false, Bool.not_true, Bool.not_false, decide_true, decide_false, e0]
      rfl
  refine r_ret (ρ := [some (.tup (ss.map St.t)), some (.int (size : Int)), none, none, none]) hF37 rfl ?_
  show exSs T (calN T 1000 (n + 1)) 1000 [some (.tup (ss.map St.t)), some (.int (size : Int)), none, none, none] b37 = _
  unfold b37
  simp -implicitDefEqProofs (disch := omega) only [PV.zR, List.set_cons_zero, List.set_cons_succ, Bool.true_and, Bool.and_true, Bool.false_and, Bool.and_false, Bool.true_or, Bool.or_true, Bool.false_or, Bool.or_false, Bool.not_true, Bool.not_false, decide_true, decide_false, e1]
  rfl
/-! ### the making -/
def mach (nms : PV.D) (size : Nat) (ss : List St) : PV.D := .ins 0 [(0, nms), (1, .tup (ss.map St.t)), (2, rto 1 1), (3, leavD size ss)]
theorem mat0 {p : PV.D} {fs : List (Nat × PV.D)} : attrD T 0 (.ins 0 ((0, p) :: fs)) = .ok p := rfl
theorem mat1 {p c : PV.D} {fs : List (Nat × PV.D)} : attrD T 1 (.ins 0 ((0, p) :: (1, c) :: fs)) = .ok c := rfl
theorem mset0 {p : PV.D} {ρ : En} : setAR T (some (.ins 0 []) :: ρ) 0 0 (.ok p) = .ok (.next, some (.ins 0 [(0, p)]) :: ρ) := rfl
theorem mset1 {p c : PV.D} {ρ : En} : setAR T (some (.ins 0 [(0, p)]) :: ρ) 0 1 (.ok c) = .ok (.next, some (.ins 0 [(0, p), (1, c)]) :: ρ) := rfl
theorem mset2 {p c w : PV.D} {ρ : En} : setAR T (some (.ins 0 [(0, p), (1, c)]) :: ρ) 0 2 (.ok w) = .ok (.next, some (.ins 0 [(0, p), (1, c), (2, w)]) :: ρ) := rfl
theorem mset3 {p c w s : PV.D} {ρ : En} : setAR T (some (.ins 0 [(0, p), (1, c), (2, w)]) :: ρ) 0 3 (.ok s) = .ok (.next, some (.ins 0 [(0, p), (1, c), (2, w), (3, s)]) :: ρ) := rfl
/-- a machine of a town's kind -/
structure MOk (size D : Nat) (ss : List St) : Prop where
  st : ∀ s ∈ ss, StOk size s
  one : ∀ s ∈ ss, s.n = 1 ∧ s.d ∣ D
  len : ss.length < 100000
  dp : 0 < D ∧ D < 2 ^ 60
  out : ∀ k < size, outF D k ss ≤ D
  way : ∀ k < size, roundsR (prs ss) size (startR size k) = List.replicate size true
theorem low_le {N D : Nat} (hD : 0 < D) (h : N ≤ D) : (lowN N D).1 ≤ (lowN N D).2 ∧ (lowN N D).2 ≤ D := ⟨Nat.div_le_div_right h, Nat.div_le_self _ _⟩
theorem machine_ok {size D : Nat} {ss : List St} {nl nt : List PV.D} {o5 : Option PV.D} (h : MOk size D ss) (hz : size < 1000) (hnt : nt.length = size) (f1 : calN T 1000 (n + 7) (.fn 20) [.lst nl] = .ok (.tup nt)) (f2 : calN T 1000 (n + 7) (.fn 18) [.tup nt] = .ok (.tup nt)) :
    calN T 1000 (n + 9) (.mk 0) [.lst nl, .lst (ss.map St.t)] = .ok (mach (.tup nt) size ss) := by
  have hD := h.dp
  rw [c_mkD (n := n + 6) (c := 0) (i := 17) rfl hF17 rfl]
  show iniF (exSs T (calN T 1000 (n + 7)) 1000 [some (.ins 0 []), some (.lst nl), some (.lst (ss.map St.t)), some (rto 1 1), none] b17) = _
  have a1 := frozen_sts (n := n + 2) (ss := ss) (by have := h.len; omega)
  have a2 := steps_ok (n := n + 1) h.st h.len
  have a3 := positive_ok (n := n + 3) (a := 1) (b := 1) (by decide) (by decide) (by decide)
  obtain ⟨k, hk, a4⟩ := compare_one (n := n + 5) (a := 1) (b := 1) (by decide) (by decide)
  have hin : ∀ s ∈ ss, s.a < size ∧ s.b < size := fun s hs => ⟨(h.st s hs).a, (h.st s hs).b⟩
  have a5 := ways_ok (n := n + 4) hin hz h.way
  have a6 := leav_ok (n := n + 5) (ss := ss) hz h.len
  have ln : ((nt.length : Nat) : Int) = (size : Int) := by rw [hnt]
  obtain ⟨ρ', hl, o4, rfl⟩ := r_forR (T := T) (call := calN T 1000 (n + 7)) (wf := 1000) (t := .one 4) (it := .rng1 (.bi .len (.cons (.attr (.var 0) 0) .nil))) (b := b17_l0) (m := size)
    (ρ := [some (.ins 0 [(0, .tup nt), (1, .tup (ss.map St.t)), (2, rto 1 1)]), some (.lst nl), some (.lst (ss.map St.t)), some (rto 1 1), none])
    (I := fun _ ρ => ∃ o4, ρ = [some (.ins 0 [(0, .tup nt), (1, .tup (ss.map St.t)), (2, rto 1 1)]), some (.lst nl), some (.lst (ss.map St.t)), some (rto 1 1), o4]) (by simp -implicitDefEqProofs (disch := omega) only [PV.zR, List.set_cons_zero, List.set_cons_succ, Bool.true_and, Bool.and_true, Bool.false_and, Bool.and_false, Bool.true_or, Bool.or_true, Bool.false_or, Bool.or_false, Bool.not_true, Bool.not_false, decide_true, decide_false, mat0, ln, Int.toNat_natCast]) ⟨none, rfl⟩ (by
    rintro j ρ hj ⟨o4, rfl⟩
    refine ⟨[some (.ins 0 [(0, .tup nt), (1, .tup (ss.map St.t)), (2, rto 1 1)]), some (.lst nl), some (.lst (ss.map St.t)), some (rto 1 1), some (.int (j : Nat))], [some (.ins 0 [(0, .tup nt), (1, .tup (ss.map St.t)), (2, rto 1 1)]), some (.lst nl), some (.lst (ss.map St.t)), some (rto 1 1), some (.int (j : Nat))], rfl, ?_, _, rfl⟩
    have c1 := chance_ok (n := n + 2) (st := j) (ss := ss) hD.1 hD.2 (fun s hs => ⟨(h.one s hs).1, (h.st s hs).d, (h.one s hs).2, (h.st s hs).c⟩) (h.out j hj)
    obtain ⟨l1, l2⟩ := low_le (N := outF D j ss) hD.1 (h.out j hj)
    obtain ⟨q, hq, c2⟩ := compare_one (n := n + 5) l1 (by omega)
    have c2' : calN T 1000 (n + 7) (.fn 28) [rtP (lowN (outF D j ss) D), rto 1 1] = .ok (.int q) := c2
    unfold b17_l0
    simp -implicitDefEqProofs (disch := omega) only [PV.zR, List.set_cons_zero, List.set_cons_succ, Bool.true_and, Bool.and_true, Bool.false_and, Bool.and_false, Bool.true_or, Bool.or_true, Bool.false_or, Bool.or_false, Bool.not_true, Bool.not_false, decide_true, decide_false, mat1, c1, globO, c2', decide_eq_false (show ¬ 0 < q by omega)])
  have hl' : exS T (calN T 1000 (n + 7)) 1000 [some (.ins 0 [(0, .tup nt), (1, .tup (ss.map St.t)), (2, rto 1 1)]), some (.lst nl), some (.lst (ss.map St.t)), some (rto 1 1), none] b17_f0 = _ := hl
  unfold b17
  simp -implicitDefEqProofs (disch := omega) only [PV.zR, List.set_cons_zero, List.set_cons_succ, Bool.true_and, Bool.and_true, Bool.false_and, Bool.and_false, Bool.true_or, Bool.or_true, Bool.false_or, Bool.or_false, Bool.not_true, Bool.not_false, decide_true, decide_false, f1, f2, a1, a2, a3, a4, a5, a6, ln, mset0, mset1, mset2, mset3, mat0, mat1, globO, decide_eq_false (show ¬ 0 < k by omega), hl', f_ini]
  rfl
end
end LW
/-! The machine of a town, part 1: the program's steps. -/
namespace LW
open PySem PySem.Spec PyProof.Rows L2 PV
/-- the kind of the slips -/
structure Ev (sl : Str) (ev : Bool) : Prop where
  eq : cmpB .eq (.str sl) (.str "even") = .ok (.bl ev)
theorem ev_of {sl : Str} (h : sl = "even" ∨ sl = "loss") : ∃ ev, Ev sl ev := by
  rcases h with rfl | rfl
  · exact ⟨true, ⟨by kernel_rfl⟩⟩
  · exact ⟨false, ⟨by kernel_rfl⟩⟩
/-- bottom of the factor, cost of the step to another custom -/
def facF (C : List Int) (ws : List Wt) (ev : Bool) (row : List Int) (p k : Nat) : Nat × Int :=
  if ev then (if (k : Int) ∈ tops (wFs C ws row p) then (2 * C.length * (tops (wFs C ws row p)).length, 0) else (2 * C.length * (C.getD p 0).toNat, 1))
  else (C.length * (C.getD p 0).toNat, maxL (wFs C ws row p) - (wFs C ws row p).getD k 0)
def mkSt (C : List Int) (ws : List Wt) (ev : Bool) (row : List Int) (p k : Nat) : St := ⟨(rowsC C).idxOf row, (rowsC C).idxOf (row.set p (k : Int)), 1, (facF C ws ev row p k).1, (facF C ws ev row p k).2⟩
def gK (C : List Int) (ws : List Wt) (ev : Bool) (row : List Int) (p k : Nat) : List St := if (k : Int) = row.getD p 0 then [] else [mkSt C ws ev row p k]
def perP (C : List Int) (ws : List Wt) (ev : Bool) (row : List Int) (p : Nat) : List St := (List.range (C.getD p 0).toNat).flatMap (gK C ws ev row p)
def perRow (C : List Int) (ws : List Wt) (ev : Bool) (row : List Int) : List St := (List.range C.length).flatMap (perP C ws ev row)
def allS (C : List Int) (ws : List Wt) (ev : Bool) : List St := (rowsC C).flatMap (perRow C ws ev)
theorem rows_len : ∀ C ∈ countsT, (rowsC C).length ≤ 16 ∧ 1 ≤ (rowsC C).length := by decide +kernel
theorem rows_set : ∀ C ∈ countsT, ∀ row ∈ rowsC C, ∀ p < C.length, ∀ k < (C.getD p 0).toNat, row.set p (k : Int) ∈ rowsC C := by decide +kernel
theorem perP_len {C : List Int} {ws : List Wt} {ev : Bool} {row : List Int} {p : Nat} : (perP C ws ev row p).length ≤ (C.getD p 0).toNat := by
  unfold perP
  generalize (C.getD p 0).toNat = m
  induction m with
  | zero => simp
  | succ m ih =>
    rw [List.range_succ, List.flatMap_append, List.length_append]
    have : (List.flatMap (gK C ws ev row p) [m]).length ≤ 1 := by
      simp only [List.flatMap_cons, List.flatMap_nil, List.append_nil]
      unfold gK
      split <;> simp
    omega
theorem flat_len {α β : Type} {f : α → List β} {B : Nat} : ∀ (l : List α), (∀ x ∈ l, (f x).length ≤ B) → (l.flatMap f).length ≤ l.length * B
  | [], _ => by simp
  | x :: l, h => by
    rw [List.flatMap_cons, List.length_append, List.length_cons, Nat.add_mul, Nat.one_mul]
    have := flat_len l fun y hy => h y (List.mem_cons_of_mem _ hy)
    have := h x List.mem_cons_self
    omega
theorem perRow_len {C : List Int} (hC : CntOk C) {ws : List Wt} {ev : Bool} {row : List Int} : (perRow C ws ev row).length ≤ 16 := by
  have h1 := flat_len (f := perP C ws ev row) (B := 4) (List.range C.length) fun p hp => by
    have hp : p < C.length := by simpa using hp
    have := hC.cnt p hp
    exact Nat.le_trans perP_len (by omega)
  have h2 := hC.len
  unfold perRow
  rw [List.length_range] at h1
  omega
theorem allS_len {C : List Int} (hC : C ∈ countsT) {ws : List Wt} {ev : Bool} : (allS C ws ev).length ≤ 256 := by
  have h1 := flat_len (f := perRow C ws ev) (B := 16) (rowsC C) fun row _ => perRow_len (cnt_ok hC)
  have h2 := (rows_len C hC).1
  unfold allS
  omega
section
variable {n : Nat}
theorem every_ok {C : List Int} (hC : C ∈ countsT) {ws : List Wt} {sl : Str} : calN T 1000 (n + 4) (.fn 6) [twn C ws sl] = .ok (.lst ((rowsC C).map PV.iT)) := by
  have h : C = [2, 2] ∨ C = [2, 2, 2] ∨ C = [3, 2] ∨ C = [2, 3] ∨ C = [3, 3] ∨ C = [2] ∨ C = [1, 2] ∨ C = [2, 2, 2, 2] ∨ C = [4, 2] ∨ C = [4, 4] ∨ C = [1, 1, 2] ∨ C = [2, 2, 3] := by
    simpa [countsT] using hC
  rcases h with rfl | rfl | rfl | rfl | rfl | rfl | rfl | rfl | rfl | rfl | rfl | rfl <;> kernel_rfl
def numP (C row : List Int) (j : Nat) : Int := (List.range j).foldl (fun t p => t * C.getD p 0 + row.getD p 0) 0
theorem num_facts : ∀ C ∈ countsT, ∀ row ∈ rowsC C, (∀ j < 5, 0 ≤ numP C row j ∧ numP C row j < 1000) ∧ numP C row C.length = (((rowsC C).idxOf row : Nat) : Int) := by decide +kernel
theorem number_ok {C : List Int} (hCm : C ∈ countsT) {ws : List Wt} {sl : Str} {row : List Int} (h : row ∈ rowsC C) : calN T 1000 (n + 2) (.fn 10) [twn C ws sl, PV.iT row] = .ok (.int (((rowsC C).idxOf row : Nat) : Int)) := by
  have hC := cnt_ok hCm
  have hr := rows_ok C hCm row h
  have hl4 := hC.len
  have nf := num_facts C hCm row h
  have q1 : attrD T 5 (twn C ws sl) = .ok (cusT C) := rfl
  have rl : biD .len [PV.iT row] = .ok (.int ((C.length : Nat) : Int)) := by
    unfold PV.iT
    rw [r_lenT, List.length_map, hr.1]
  obtain ⟨ρ', hl, o3, rfl⟩ := r_forR (T := T) (call := calN T 1000 (n + 1)) (wf := 1000) (t := .one 3) (it := .rng1 (.bi .len (.cons (.var 1) .nil))) (b := b10_l0) (m := C.length) (ρ := [some (twn C ws sl), some (PV.iT row), some (.int 0), none])
    (I := fun j ρ => ∃ o3, ρ = [some (twn C ws sl), some (PV.iT row), some (.int (numP C row j)), o3]) (by simp -implicitDefEqProofs (disch := omega) only [PV.zR, List.set_cons_zero, List.set_cons_succ, Bool.true_and, Bool.and_true, Bool.false_and, Bool.and_false, Bool.true_or, Bool.or_true, Bool.false_or, Bool.or_false, Bool.not_true, Bool.not_false, decide_true, decide_false, rl, Int.toNat_natCast]) ⟨none, rfl⟩ (by
    rintro j ρ hj ⟨o3, rfl⟩
    have a0 := cusT_at (C := C) (p := j) hj
    have hc := hC.cnt j hj
    have ml := len_menu hc
    have t5 := (holdsT (row := row)).at_ j (by omega) (by omega)
    rw [Int.toNat_natCast] at t5
    have nb := nf.1 j (by omega)
    have e : numP C row (j + 1) = numP C row j * C.getD j 0 + row.getD j 0 := by
      unfold numP
      rw [List.range_succ, List.foldl_append]
      rfl
    refine ⟨[some (twn C ws sl), some (PV.iT row), some (.int (numP C row j)), some (.int (j : Nat))], [some (twn C ws sl), some (PV.iT row), some (.int (numP C row (j + 1))), some (.int (j : Nat))], rfl, ?_, _, rfl⟩
    rw [e]
    have m1 : binD .mul (.int (numP C row j)) (.int (C.getD j 0)) = .ok (.int (numP C row j * C.getD j 0)) := r_mul (by omega) (by omega)
    unfold b10_l0
    generalize twn C ws sl = W at *
    generalize PV.iT row = Y at *
    simp -implicitDefEqProofs (disch := omega) only [PV.zR, List.set_cons_zero, List.set_cons_succ, Bool.true_and, Bool.and_true, Bool.false_and, Bool.and_false, Bool.true_or, Bool.or_true, Bool.false_or, Bool.or_false, Bool.not_true, Bool.not_false, decide_true, decide_false, q1, a0, ml, t5, m1])
  rw [nf.2] at hl
  refine r_ret (ρ := [some (twn C ws sl), some (PV.iT row), some (.int (((rowsC C).idxOf row : Nat) : Int)), o3]) hF10 rfl ?_
  show exSs T (calN T 1000 (n + 1)) 1000 [some (twn C ws sl), some (PV.iT row), none, none] b10 = _
  have hl' : exS T (calN T 1000 (n + 1)) 1000 [some (twn C ws sl), some (PV.iT row), some (.int 0), none] b10_f0 = _ := hl
  unfold b10
  simp -implicitDefEqProofs (disch := omega) only [PV.zR, List.set_cons_zero, List.set_cons_succ, Bool.true_and, Bool.and_true, Bool.false_and, Bool.and_false, Bool.true_or, Bool.or_true, Bool.false_or, Bool.or_false, Bool.not_true, Bool.not_false, decide_true, decide_false, hl']
theorem at0_4 {p c w s : PV.D} : attrD T 4 (.ins 1 [(4, p), (5, c), (6, w), (7, s)]) = .ok p := rfl
theorem at3_4 {p c w s : PV.D} : attrD T 7 (.ins 1 [(4, p), (5, c), (6, w), (7, s)]) = .ok s := rfl
theorem mulN {a b : Nat} (ha : a < 1000) (hb : b < 1000) : binD .mul (.int (a : Int)) (.int (b : Int)) = .ok (.int ((a * b : Nat) : Int)) := by rw [r_mul (by omega) (by omega)]; rfl
theorem mulN2 {a : Nat} (ha : a < 1000) : binD .mul (.int 2) (.int (a : Int)) = .ok (.int ((2 * a : Nat) : Int)) := by rw [r_mul (by decide) (by omega)]; rfl
theorem menu_len {C : List Int} (hC : CntOk C) {p : Nat} (h : p < C.length) : ((menuD.take (C.getD p 0).toNat).length : Int) = (((C.getD p 0).toNat : Nat) : Int) := by
  have := hC.cnt p h
  rw [len_menu this]
  omega
theorem tops_len {L : List Int} : (tops L).length ≤ L.length := by
  unfold tops
  rw [List.length_map]
  exact Nat.le_trans (List.length_filter_le _ _) (by rw [List.length_range]; exact Nat.le_refl _)
theorem step_pair {C : List Int} (hC : CntOk C) {ws : List Wt} {sl : Str} {ev : Bool} (he : Ev sl ev) {row : List Int} {p k : Nat} (hw : ∀ x ∈ ws, WtOk C x) (hr : row.length = C.length) (hp : p < row.length) (hk : k < (C.getD p 0).toNat) :
    (ev = true → calN T 1000 (n + 5) (.fn 12) [twn C ws sl, PV.iT row, .int p, .int (k : Int)] = .ok (.tup [rto 1 (facF C ws ev row p k).1, .int (facF C ws ev row p k).2])) ∧
    (ev = false → calN T 1000 (n + 5) (.fn 16) [twn C ws sl, PV.iT row, .int p, .int (k : Int)] = .ok (.tup [rto 1 (facF C ws ev row p k).1, .int (facF C ws ev row p k).2])) := by
  have hpC : p < C.length := by omega
  have hl4 := hC.len
  have hc := hC.cnt p hpC
  have ml := menu_len hC hpC
  have a0 := cusT_at (C := C) (p := p) hpC
  have pl := ppl_len (C := C) hl4
  have hlen : (wFs C ws row p).length = (C.getD p 0).toNat := by unfold wFs; simp
  have ht := tops_len (L := wFs C ws row p)
  constructor
  · rintro rfl
    have b := best_ok (n := n) (sl := sl) hC hw hr hp
    have i := in_I (k : Int) (tops (wFs C ws row p))
    have tl : biD .len [PV.iT (tops (wFs C ws row p))] = .ok (.int (((tops (wFs C ws row p)).length : Nat) : Int)) := by
      unfold PV.iT
      rw [r_lenT, List.length_map]
    refine r_ret (ρ := [some (twn C ws sl), some (PV.iT row), some (.int p), some (.int (k : Int)), some (PV.iT (tops (wFs C ws row p)))]) hF12 rfl ?_
    show exSs T (calN T 1000 (n + 4)) 1000 [some (twn C ws sl), some (PV.iT row), some (.int p), some (.int (k : Int)), none] b12 = _
    have f : facF C ws true row p k = if (k : Int) ∈ tops (wFs C ws row p) then (2 * C.length * (tops (wFs C ws row p)).length, 0) else (2 * C.length * (C.getD p 0).toNat, 1) := rfl
    rw [f]
    generalize wFs C ws row p = L at *
    have m1 := mulN2 (a := C.length) (by omega)
    have m2 := mulN (a := 2 * C.length) (b := (tops L).length) (by omega) (by omega)
    have m3 := mulN (a := 2 * C.length) (b := (C.getD p 0).toNat) (by omega) (by omega)
    unfold b12
    have q0 : attrD T 4 (twn C ws sl) = .ok (pplT C) := rfl
    have q1 : attrD T 5 (twn C ws sl) = .ok (cusT C) := rfl
    generalize twn C ws sl = W at *
    generalize PV.iT (tops L) = Z at *
    generalize PV.iT row = Y at *
    by_cases q : (k : Int) ∈ tops L
    · rw [decide_eq_true q] at i
      rw [if_pos q]
      simp -implicitDefEqProofs (disch := omega) only [PV.zR, List.set_cons_zero, List.set_cons_succ, Bool.true_and, Bool.and_true, Bool.false_and, Bool.and_false, Bool.true_or, Bool.or_true, Bool.false_or, Bool.or_false, Bool.not_true, Bool.not_false, decide_true, decide_false, b, i, q0, pl, tl, m1, m2]
      rfl
    · rw [decide_eq_false q] at i
      rw [if_neg q]
      simp -implicitDefEqProofs (disch := omega) only [PV.zR, List.set_cons_zero, List.set_cons_succ, Bool.true_and, Bool.and_true, Bool.false_and, Bool.and_false, Bool.true_or, Bool.or_true, Bool.false_or, Bool.or_false, Bool.not_true, Bool.not_false, decide_true, decide_false, b, i, q0, q1, a0, pl, ml, m1, m3]
      rfl
  · rintro rfl
    have b := worth_row_ok (n := n + 1) (sl := sl) hC hw hr hp
    refine r_ret (ρ := [some (twn C ws sl), some (PV.iT row), some (.int p), some (.int (k : Int)), some (PV.iL (wFs C ws row p))]) hF16 rfl ?_
    show exSs T (calN T 1000 (n + 4)) 1000 [some (twn C ws sl), some (PV.iT row), some (.int p), some (.int (k : Int)), none] b16 = _
    have f : facF C ws false row p k = (C.length * (C.getD p 0).toNat, maxL (wFs C ws row p) - (wFs C ws row p).getD k 0) := rfl
    rw [f]
    generalize wFs C ws row p = L at *
    have hne : L ≠ [] := by rintro rfl; rw [List.length_nil] at hlen; omega
    have hm := k_maxL hne
    have t1 := (holdsL (row := L)).at_ k (by omega) (by omega)
    rw [Int.toNat_natCast] at t1
    have m3 := mulN (a := C.length) (b := (C.getD p 0).toNat) (by omega) (by omega)
    unfold b16
    have q0 : attrD T 4 (twn C ws sl) = .ok (pplT C) := rfl
    have q1 : attrD T 5 (twn C ws sl) = .ok (cusT C) := rfl
    generalize twn C ws sl = W at *
    generalize PV.iL L = Z at *
    generalize PV.iT row = Y at *
    simp -implicitDefEqProofs (disch := omega) only [PV.zR, List.set_cons_zero, List.set_cons_succ, Bool.true_and, Bool.and_true, Bool.false_and, Bool.and_false, Bool.true_or, Bool.or_true, Bool.false_or, Bool.or_false, Bool.not_true, Bool.not_false, decide_true, decide_false, b, hm, t1, q0, q1, a0, pl, ml, m3]
    rfl
theorem town_steps_ok {C : List Int} (hCm : C ∈ countsT) {ws : List Wt} {sl : Str} {ev : Bool} (he : Ev sl ev) {row : List Int} (hw : ∀ x ∈ ws, WtOk C x) (hrow : row ∈ rowsC C) :
    calN T 1000 (n + 6) (.fn 9) [twn C ws sl, PV.iT row] = .ok (.lst ((perRow C ws ev row).map St.t)) := by
  have hC := cnt_ok hCm
  have hr := rows_ok C hCm row hrow
  have hl4 := hC.len
  have hpl := perRow_len hC (ws := ws) (ev := ev) (row := row)
  have q1 : attrD T 5 (twn C ws sl) = .ok (cusT C) := rfl
  have q3 : attrD T 7 (twn C ws sl) = .ok (.str sl) := rfl
  have nr := number_ok (n := n + 3) hCm (ws := ws) (sl := sl) hrow
  have rl : biD .len [PV.iT row] = .ok (.int ((C.length : Nat) : Int)) := by
    unfold PV.iT
    rw [r_lenT, List.length_map, hr.1]
  have inner : ∀ (p : Nat) (acc : List St) (o4 o5 o6 o7 : Option PV.D), p < C.length → acc.length + (C.getD p 0).toNat ≤ 1000 → ∃ o4' o5' o6' o7', exS T (calN T 1000 (n + 5)) 1000 [some (twn C ws sl), some (PV.iT row), some (.lst (acc.map St.t)), some (.int (p : Nat)), o4, o5, o6, o7] b9_f0 =
      .ok (.next, [some (twn C ws sl), some (PV.iT row), some (.lst ((acc ++ perP C ws ev row p).map St.t)), some (.int (p : Nat)), o4', o5', o6', o7']) := by
    intro p acc o4 o5 o6 o7 hp hz
    have a0 := cusT_at (C := C) (p := p) hp
    have ml := menu_len hC hp
    have hc := hC.cnt p hp
    have t5 := (holdsT (row := row)).at_ p (by omega) (by omega)
    rw [Int.toNat_natCast] at t5
    obtain ⟨ρ', hl, ac, o4', o5', o6', o7', hac, _, rfl⟩ := r_forI (call := calN T 1000 (n + 5)) (t := .one 4) (it := .rng1 (.bi .len (.cons (.sub (.attr (.var 0) 5) (.var 3)) .nil))) (b := b9_l0) (is := List.range (C.getD p 0).toNat)
      (ρ := [some (twn C ws sl), some (PV.iT row), some (.lst (acc.map St.t)), some (.int (p : Nat)), o4, o5, o6, o7]) (fun k : Nat => D.int (k : Int))
      (I := fun ys ρ => ∃ (ac : List St) (o4 o5 o6 o7 : Option PV.D), ac ++ ys.flatMap (gK C ws ev row p) = acc ++ perP C ws ev row p ∧ (∀ k ∈ ys, k < (C.getD p 0).toNat) ∧ ρ = [some (twn C ws sl), some (PV.iT row), some (.lst (ac.map St.t)), some (.int (p : Nat)), o4, o5, o6, o7])
      (by simp -implicitDefEqProofs (disch := omega) only [PV.zR, List.set_cons_zero, List.set_cons_succ, Bool.true_and, Bool.and_true, Bool.false_and, Bool.and_false, Bool.true_or, Bool.or_true, Bool.false_or, Bool.or_false, Bool.not_true, Bool.not_false, decide_true, decide_false, q1, a0, ml, Int.toNat_natCast]) ⟨acc, o4, o5, o6, o7, rfl, fun k hk => by simpa using hk, rfl⟩ (by
      rintro k ys ρ ⟨ac, o4, o5, o6, o7, hac, hks, rfl⟩
      have hk := hks k List.mem_cons_self
      have hacl : ac.length < 1000000 := by
        have := congrArg List.length hac
        rw [List.length_append, List.length_append] at this
        have := perP_len (C := C) (ws := ws) (ev := ev) (row := row) (p := p)
        omega
      have hgk : ac ++ (k :: ys).flatMap (gK C ws ev row p) = (ac ++ gK C ws ev row p k) ++ ys.flatMap (gK C ws ev row p) := by
        rw [List.flatMap_cons, List.append_assoc]
      rw [hgk] at hac
      have w := with_ok (n := n + 3) (row := row) (p := p) (k := (k : Int)) (by omega) (by omega)
      have ng := number_ok (n := n + 3) hCm (ws := ws) (sl := sl) (rows_set C hCm row hrow p hp k hk)
      obtain ⟨s1, s2⟩ := step_pair (n := n) hC he (row := row) (p := p) (k := k) hw hr.1 (by omega) hk
      have hs := he.eq
      by_cases q : (k : Int) = row.getD p 0
      · have e1 : gK C ws ev row p k = [] := if_pos q
        have e2 : decide ((k : Int) = row.getD p 0) = true := decide_eq_true q
        rw [e1, List.append_nil] at hac
        refine ⟨[some (twn C ws sl), some (PV.iT row), some (.lst (ac.map St.t)), some (.int (p : Nat)), some (.int (k : Int)), o5, o6, o7], [some (twn C ws sl), some (PV.iT row), some (.lst (ac.map St.t)), some (.int (p : Nat)), some (.int (k : Int)), o5, o6, o7], rfl, ?_, ac, _, _, _, _, hac, fun j hj => hks j (List.mem_cons_of_mem _ hj), rfl⟩
        unfold b9_l0
        generalize twn C ws sl = W at *
        generalize PV.iT row = Y at *
        simp -implicitDefEqProofs (disch := omega) only [PV.zR, List.set_cons_zero, List.set_cons_succ, Bool.true_and, Bool.and_true, Bool.false_and, Bool.and_false, Bool.true_or, Bool.or_true, Bool.false_or, Bool.or_false, Bool.not_true, Bool.not_false, decide_true, decide_false, t5, e2]
      · have e1 : gK C ws ev row p k = [mkSt C ws ev row p k] := if_neg q
        have e2 : decide ((k : Int) = row.getD p 0) = false := decide_eq_false q
        rw [e1] at hac
        refine ⟨[some (twn C ws sl), some (PV.iT row), some (.lst (ac.map St.t)), some (.int (p : Nat)), some (.int (k : Int)), o5, o6, o7], [some (twn C ws sl), some (PV.iT row), some (.lst ((ac ++ [mkSt C ws ev row p k]).map St.t)), some (.int (p : Nat)), some (.int (k : Int)), some (.int (((rowsC C).idxOf (row.set p (k : Int)) : Nat) : Int)), some (rto 1 (facF C ws ev row p k).1), some (.int (facF C ws ev row p k).2)], rfl, ?_, ac ++ [mkSt C ws ev row p k], _, _, _, _, hac, fun j hj => hks j (List.mem_cons_of_mem _ hj), rfl⟩
        have hz1 : (ac.map St.t).length < 1000000 := by rw [List.length_map]; exact hacl
        have e3 : (ac ++ [mkSt C ws ev row p k]).map St.t = ac.map St.t ++ [.tup [.int (((rowsC C).idxOf row : Nat) : Int), .int (((rowsC C).idxOf (row.set p (k : Int)) : Nat) : Int), rto 1 (facF C ws ev row p k).1, .int (facF C ws ev row p k).2]] := by rw [List.map_append]; rfl
        rw [e3]
        unfold b9_l0
        generalize twn C ws sl = W at *
        generalize PV.iT row = Y at *
        generalize ac.map St.t = A at *
        generalize PV.iT (row.set p (k : Int)) = Y2 at *
        cases ev with
        | true =>
          have s1 := s1 rfl
          generalize rto 1 (facF C ws true row p k).1 = f1 at *
          simp -implicitDefEqProofs (disch := omega) only [PV.zR, List.set_cons_zero, List.set_cons_succ, Bool.true_and, Bool.and_true, Bool.false_and, Bool.and_false, Bool.true_or, Bool.or_true, Bool.false_or, Bool.or_false, Bool.not_true, Bool.not_false, decide_true, decide_false, t5, e2, w, ng, nr, q3, hs, s1, z_appN hz1]
        | false =>
          have s2 := s2 rfl
          generalize rto 1 (facF C ws false row p k).1 = f1 at *
          simp -implicitDefEqProofs (disch := omega) only [PV.zR, List.set_cons_zero, List.set_cons_succ, Bool.true_and, Bool.and_true, Bool.false_and, Bool.and_false, Bool.true_or, Bool.or_true, Bool.false_or, Bool.or_false, Bool.not_true, Bool.not_false, decide_true, decide_false, t5, e2, w, ng, nr, q3, hs, s2, z_appN hz1])
    refine ⟨o4', o5', o6', o7', ?_⟩
    have : ac = acc ++ perP C ws ev row p := by simpa using hac
    subst this
    exact hl
  obtain ⟨ρ', hl, ac, o3, o4, o5, o6, o7, hac, _, rfl⟩ := r_forI (call := calN T 1000 (n + 5)) (t := .one 3) (it := .rng1 (.bi .len (.cons (.var 1) .nil))) (b := b9_l1) (is := List.range C.length)
    (ρ := [some (twn C ws sl), some (PV.iT row), some (.lst []), none, none, none, none, none]) (fun k : Nat => D.int (k : Int))
    (I := fun ys ρ => ∃ (ac : List St) (o3 o4 o5 o6 o7 : Option PV.D), ac ++ ys.flatMap (perP C ws ev row) = perRow C ws ev row ∧ (∀ k ∈ ys, k < C.length) ∧ ρ = [some (twn C ws sl), some (PV.iT row), some (.lst (ac.map St.t)), o3, o4, o5, o6, o7])
    (by simp -implicitDefEqProofs (disch := omega) only [PV.zR, List.set_cons_zero, List.set_cons_succ, Bool.true_and, Bool.and_true, Bool.false_and, Bool.and_false, Bool.true_or, Bool.or_true, Bool.false_or, Bool.or_false, Bool.not_true, Bool.not_false, decide_true, decide_false, rl, Int.toNat_natCast]) ⟨[], none, none, none, none, none, rfl, fun k hk => by simpa using hk, rfl⟩ (by
    rintro p ys ρ ⟨ac, o3, o4, o5, o6, o7, hac, hps, rfl⟩
    have hp := hps p List.mem_cons_self
    have hc := hC.cnt p hp
    have hacl : ac.length + (C.getD p 0).toNat ≤ 1000 := by
      have := congrArg List.length hac
      rw [List.length_append] at this
      omega
    obtain ⟨o4', o5', o6', o7', e⟩ := inner p ac o4 o5 o6 o7 hp hacl
    have hgk : ac ++ (p :: ys).flatMap (perP C ws ev row) = (ac ++ perP C ws ev row p) ++ ys.flatMap (perP C ws ev row) := by
      rw [List.flatMap_cons, List.append_assoc]
    rw [hgk] at hac
    refine ⟨[some (twn C ws sl), some (PV.iT row), some (.lst (ac.map St.t)), some (.int (p : Nat)), o4, o5, o6, o7], [some (twn C ws sl), some (PV.iT row), some (.lst ((ac ++ perP C ws ev row p).map St.t)), some (.int (p : Nat)), o4', o5', o6', o7'], rfl, ?_, ac ++ perP C ws ev row p, _, _, _, _, _, hac, fun j hj => hps j (List.mem_cons_of_mem _ hj), rfl⟩
    unfold b9_l1
    simp -implicitDefEqProofs (disch := omega) only [PV.zR, List.set_cons_zero, List.set_cons_succ, Bool.true_and, Bool.and_true, Bool.false_and, Bool.and_false, Bool.true_or, Bool.or_true, Bool.false_or, Bool.or_false, Bool.not_true, Bool.not_false, decide_true, decide_false, e])
  have : ac = perRow C ws ev row := by simpa using hac
  subst this
  refine r_ret (ρ := [some (twn C ws sl), some (PV.iT row), some (.lst ((perRow C ws ev row).map St.t)), o3, o4, o5, o6, o7]) hF9 rfl ?_
  show exSs T (calN T 1000 (n + 5)) 1000 [some (twn C ws sl), some (PV.iT row), none, none, none, none, none, none] b9 = _
  have hl' : exS T (calN T 1000 (n + 5)) 1000 [some (twn C ws sl), some (PV.iT row), some (.lst []), none, none, none, none, none] b9_f1 = _ := hl
  unfold b9
  simp -implicitDefEqProofs (disch := omega) only [PV.zR, List.set_cons_zero, List.set_cons_succ, Bool.true_and, Bool.and_true, Bool.false_and, Bool.and_false, Bool.true_or, Bool.or_true, Bool.false_or, Bool.or_false, Bool.not_true, Bool.not_false, decide_true, decide_false, hl']
end
end LW
/-! The machine of a town, part 2: what holds of its steps. -/
namespace LW
open PySem PySem.Spec PyProof.Rows L2 PV
/-! ### worths are small -/
def mB (row : List Int) (p : Nat) (x : Wt) : Bool := decide (x.i = (p : Int) ∧ row.getD p 0 = x.a ∧ row.getD x.j.toNat 0 = x.b)
theorem fold_bound {row : List Int} {p : Nat} : ∀ (ws : List Wt) (s : Int), (∀ x ∈ ws, -10 ≤ x.w ∧ x.w ≤ 10) →
    s - 10 * ((ws.filter (mB row p)).length : Int) ≤ ws.foldl (fun s x => if x.i = (p : Int) ∧ row.getD p 0 = x.a ∧ row.getD x.j.toNat 0 = x.b then s + x.w else s) s ∧
    ws.foldl (fun s x => if x.i = (p : Int) ∧ row.getD p 0 = x.a ∧ row.getD x.j.toNat 0 = x.b then s + x.w else s) s ≤ s + 10 * ((ws.filter (mB row p)).length : Int)
  | [], s, _ => by simp
  | x :: ws, s, h => by
    have hx := h x List.mem_cons_self
    by_cases c : x.i = (p : Int) ∧ row.getD p 0 = x.a ∧ row.getD x.j.toNat 0 = x.b
    · have ih := fold_bound (row := row) (p := p) ws (s + x.w) fun y hy => h y (List.mem_cons_of_mem _ hy)
      have e : mB row p x = true := decide_eq_true c
      rw [List.foldl_cons, if_pos c, List.filter_cons_of_pos e, List.length_cons]
      omega
    · have ih := fold_bound (row := row) (p := p) ws s fun y hy => h y (List.mem_cons_of_mem _ hy)
      have e : ¬ mB row p x = true := by unfold mB; simpa using c
      rw [List.foldl_cons, if_neg c, List.filter_cons_of_neg e]
      exact ih
theorem wF_bound {C : List Int} (hC : CntOk C) {ws : List Wt} (hw : WsOk C ws 2048) {row : List Int} {p : Nat} (hp : p < C.length) : -30 ≤ wF ws row p ∧ wF ws row p ≤ 30 := by
  have fb := fold_bound (row := row) (p := p) ws 0 fun x hx => (hw.val x hx).1.w
  have hl4 := hC.len
  have hm : ∀ x ∈ ws.filter (mB row p), x ∈ ws ∧ x.i = (p : Int) ∧ row.getD p 0 = x.a ∧ row.getD x.j.toNat 0 = x.b := fun x hx => by
    obtain ⟨h1, h2⟩ := List.mem_filter.mp hx
    exact ⟨h1, of_decide_eq_true h2⟩
  have nd : (p :: (ws.filter (mB row p)).map fun x => x.j.toNat).Nodup := by
    refine List.nodup_cons.mpr ⟨fun h => ?_, ?_⟩
    · obtain ⟨x, hx, e⟩ := List.mem_map.mp h
      obtain ⟨h1, h2, _⟩ := hm x hx
      have ok := (hw.val x h1).1
      have := ok.ne
      have := ok.j
      omega
    · refine List.pairwise_map.mpr (List.Pairwise.imp_of_mem (fun {x y} hx hy h e => ?_) (List.Pairwise.filter _ hw.key))
      obtain ⟨x1, x2, x3, x4⟩ := hm x hx
      obtain ⟨y1, y2, y3, y4⟩ := hm y hy
      have jx := (hw.val x x1).1.j
      have jy := (hw.val y y1).1.j
      have e2 : x.j = y.j := by omega
      exact h ⟨x2.trans y2.symm, x3.symm.trans y3, e2, by rw [← x4, ← y4, e2]⟩
  have sub : (p :: (ws.filter (mB row p)).map fun x => x.j.toNat) ⊆ List.range C.length := fun q hq => by
    rcases List.mem_cons.mp hq with rfl | hq
    · simpa using hp
    · obtain ⟨x, hx, rfl⟩ := List.mem_map.mp hq
      have := ((hw.val x (hm x hx).1).1).j
      simp only [List.mem_range]
      omega
  have l := List.Nodup.length_le_of_subset nd sub
  rw [List.length_cons, List.length_map, List.length_range] at l
  unfold wF
  omega
theorem maxL_spec {L : List Int} (h : L ≠ []) : maxL L ∈ L ∧ ∀ x ∈ L, x ≤ maxL L := by
  cases L with
  | nil => exact absurd rfl h
  | cons x xs =>
    refine ⟨maxI_mem x xs, fun y hy => ?_⟩
    have g := maxI_ge x xs
    rcases List.mem_cons.mp hy with rfl | hy
    · exact g.1
    · exact g.2 y hy
theorem wFs_len {C : List Int} {ws : List Wt} {row : List Int} {p : Nat} : (wFs C ws row p).length = (C.getD p 0).toNat := by unfold wFs; simp
theorem getD_mem {L : List Int} {k : Nat} (h : k < L.length) : L.getD k 0 ∈ L := by
  rw [List.getD_eq_getElem?_getD, List.getElem?_eq_getElem h]
  exact List.getElem_mem h
theorem fac_ok {C : List Int} (hC : CntOk C) {ws : List Wt} (hw : WsOk C ws 2048) {ev : Bool} {row : List Int} {p k : Nat} (hp : p < C.length) (hk : k < (C.getD p 0).toNat) :
    0 < (facF C ws ev row p k).1 ∧ (facF C ws ev row p k).1 ∣ 24 * C.length ∧ (facF C ws ev row p k).1 < 1000 ∧ 0 ≤ (facF C ws ev row p k).2 ∧ (facF C ws ev row p k).2 ≤ 60 := by
  have hl4 := hC.len
  have hl1 := hC.pos
  have hc := hC.cnt p hp
  have dv : ∀ m : Nat, 1 ≤ m → m ≤ 4 → m ∣ 24 ∧ 2 * m ∣ 24 := fun m h1 h2 => by
    have : m = 1 ∨ m = 2 ∨ m = 3 ∨ m = 4 := by omega
    rcases this with rfl | rfl | rfl | rfl <;> decide
  have dl : ∀ m : Nat, 1 ≤ m → m ≤ 4 → 0 < C.length * m ∧ C.length * m ∣ 24 * C.length ∧ C.length * m < 1000 := fun m h1 h2 => by
    refine ⟨Nat.mul_pos (by omega) (by omega), ?_, Nat.lt_of_le_of_lt (Nat.mul_le_mul hl4 h2) (by decide)⟩
    rw [Nat.mul_comm 24]
    exact Nat.mul_dvd_mul_left _ (dv m h1 h2).1
  have de : ∀ m : Nat, 1 ≤ m → m ≤ 4 → 0 < 2 * C.length * m ∧ 2 * C.length * m ∣ 24 * C.length ∧ 2 * C.length * m < 1000 := fun m h1 h2 => by
    refine ⟨Nat.mul_pos (by omega) (by omega), ?_, Nat.lt_of_le_of_lt (Nat.mul_le_mul (Nat.mul_le_mul_left 2 hl4) h2) (by decide)⟩
    rw [Nat.mul_comm 24, Nat.mul_comm 2, Nat.mul_assoc]
    exact Nat.mul_dvd_mul_left _ (dv m h1 h2).2
  have hlen := wFs_len (C := C) (ws := ws) (row := row) (p := p)
  have hb : ∀ x ∈ wFs C ws row p, -30 ≤ x ∧ x ≤ 30 := fun x hx => by
    unfold wFs at hx
    obtain ⟨k, _, rfl⟩ := List.mem_map.mp hx
    exact wF_bound hC hw hp
  cases ev with
  | true =>
    have f : facF C ws true row p k = if (k : Int) ∈ tops (wFs C ws row p) then (2 * C.length * (tops (wFs C ws row p)).length, 0) else (2 * C.length * (C.getD p 0).toNat, 1) := rfl
    rw [f]
    have tl := tops_len (L := wFs C ws row p)
    by_cases q : (k : Int) ∈ tops (wFs C ws row p)
    · rw [if_pos q]
      have t1 : 1 ≤ (tops (wFs C ws row p)).length := List.length_pos_of_mem q
      obtain ⟨a1, a2, a3⟩ := de (tops (wFs C ws row p)).length t1 (by omega)
      exact ⟨a1, a2, a3, Int.le_refl 0, (by decide : (0 : Int) ≤ 60)⟩
    · rw [if_neg q]
      obtain ⟨a1, a2, a3⟩ := de (C.getD p 0).toNat (by omega) (by omega)
      exact ⟨a1, a2, a3, (by decide : (0 : Int) ≤ 1), (by decide : (1 : Int) ≤ 60)⟩
  | false =>
    have f : facF C ws false row p k = (C.length * (C.getD p 0).toNat, maxL (wFs C ws row p) - (wFs C ws row p).getD k 0) := rfl
    rw [f]
    obtain ⟨a1, a2, a3⟩ := dl (C.getD p 0).toNat (by omega) (by omega)
    generalize wFs C ws row p = L at *
    have hne : L ≠ [] := by rintro rfl; rw [List.length_nil] at hlen; omega
    obtain ⟨m1, m2⟩ := maxL_spec hne
    have m3 := getD_mem (L := L) (k := k) (by omega)
    have b1 := hb _ m1
    have b2 := hb _ m3
    have b3 := m2 _ m3
    exact ⟨a1, a2, a3, by show 0 ≤ maxL L - L.getD k 0; omega, by show maxL L - L.getD k 0 ≤ 60; omega⟩
/-! ### each step -/
theorem mem_allS {C : List Int} {ws : List Wt} {ev : Bool} {s : St} (h : s ∈ allS C ws ev) : ∃ row ∈ rowsC C, ∃ p < C.length, ∃ k < (C.getD p 0).toNat, ¬ (k : Int) = row.getD p 0 ∧ s = mkSt C ws ev row p k := by
  unfold allS at h
  obtain ⟨row, hr, h⟩ := List.mem_flatMap.mp h
  unfold perRow at h
  obtain ⟨p, hp, h⟩ := List.mem_flatMap.mp h
  unfold perP at h
  obtain ⟨k, hk, h⟩ := List.mem_flatMap.mp h
  unfold gK at h
  refine ⟨row, hr, p, by simpa using hp, k, by simpa using hk, ?_⟩
  by_cases q : (k : Int) = row.getD p 0
  · rw [if_pos q] at h; cases h
  · rw [if_neg q] at h
    exact ⟨q, by simpa using h⟩
theorem idx_ne : ∀ C ∈ countsT, ∀ row ∈ rowsC C, ∀ p < C.length, ∀ k < (C.getD p 0).toNat, ¬ (k : Int) = row.getD p 0 → (rowsC C).idxOf row ≠ (rowsC C).idxOf (row.set p (k : Int)) := by decide +kernel
theorem st_all {C : List Int} (hCm : C ∈ countsT) {ws : List Wt} (hw : WsOk C ws 2048) {ev : Bool} {s : St} (h : s ∈ allS C ws ev) : StOk (rowsC C).length s ∧ s.n = 1 ∧ s.d ∣ 24 * C.length := by
  obtain ⟨row, hr, p, hp, k, hk, hne, rfl⟩ := mem_allS h
  have f := fac_ok (cnt_ok hCm) hw (ev := ev) (row := row) hp hk
  refine ⟨⟨List.idxOf_lt_length_of_mem hr, List.idxOf_lt_length_of_mem (rows_set C hCm row hr p hp k hk), idx_ne C hCm row hr p hp k hk hne, by show 0 < 1; decide, f.1, Nat.gcd_one_left _, f.2.2.2, by show 1 < 2 ^ 70; decide, Nat.lt_trans f.2.2.1 (by decide)⟩, rfl, f.2.1⟩
/-! ### ways -/
def pairsC (C : List Int) : List (Nat × Nat) := (rowsC C).flatMap fun row => (List.range C.length).flatMap fun p => (List.range (C.getD p 0).toNat).flatMap fun k : Nat => if (k : Int) = row.getD p 0 then [] else [((rowsC C).idxOf row, (rowsC C).idxOf (row.set p (k : Int)))]
theorem prs_all {C : List Int} {ws : List Wt} {ev : Bool} : prs (allS C ws ev) = pairsC C := by
  unfold prs allS pairsC perRow perP
  rw [List.map_flatMap]
  congr 1
  funext row
  rw [List.map_flatMap]
  congr 1
  funext p
  rw [List.map_flatMap]
  congr 1
  funext k
  unfold gK
  split <;> rfl
def allTrue (size : Nat) (bs : List Bool) : Bool := bs.length == size && bs.all id
theorem allTrue_of {size : Nat} {bs : List Bool} (h : allTrue size bs = true) : bs = List.replicate size true := by
  unfold allTrue at h
  simp only [Bool.and_eq_true, beq_iff_eq, List.all_eq_true, id_eq] at h
  exact List.eq_replicate_iff.mpr h
theorem turn_true {size : Nat} {p : Nat × Nat} : turnR (List.replicate size true) p = List.replicate size true := by
  unfold turnR
  split
  · apply List.ext_getElem
    · simp
    · intro i h1 h2
      rw [List.getElem_set]
      split <;> simp
  · rfl
theorem round_true {size : Nat} : ∀ ps : List (Nat × Nat), roundR ps (List.replicate size true) = List.replicate size true
  | [] => rfl
  | p :: ps => by
    show roundR ps (turnR _ p) = _
    rw [turn_true]
    exact round_true ps
theorem rounds_true {size : Nat} {ps : List (Nat × Nat)} : ∀ k, roundsR ps k (List.replicate size true) = List.replicate size true
  | 0 => rfl
  | k + 1 => by
    show roundsR ps k (roundR ps _) = _
    rw [round_true]
    exact rounds_true k
theorem rounds_add {ps : List (Nat × Nat)} : ∀ (j k : Nat) (t : List Bool), roundsR ps (j + k) t = roundsR ps k (roundsR ps j t)
  | 0, k, t => by rw [Nat.zero_add]; rfl
  | j + 1, k, t => by
    rw [show j + 1 + k = (j + k) + 1 by omega]
    show roundsR ps (j + k) (roundR ps t) = roundsR ps k (roundsR ps j (roundR ps t))
    exact rounds_add j k _
theorem ways_fact : ∀ C ∈ countsT, ((List.range (rowsC C).length).all fun k => allTrue (rowsC C).length (roundsR (pairsC C) (min 4 (rowsC C).length) (startR (rowsC C).length k))) = true := by decide +kernel
theorem ways_all {C : List Int} (hCm : C ∈ countsT) {ws : List Wt} {ev : Bool} {k : Nat} (hk : k < (rowsC C).length) : roundsR (prs (allS C ws ev)) (rowsC C).length (startR (rowsC C).length k) = List.replicate (rowsC C).length true := by
  rw [prs_all]
  have h2 := ways_fact C hCm
  have h3 := allTrue_of (List.all_eq_true.mp h2 k (by simpa using hk))
  rw [show roundsR (pairsC C) (rowsC C).length (startR (rowsC C).length k) = roundsR (pairsC C) (min 4 (rowsC C).length + ((rowsC C).length - min 4 (rowsC C).length)) (startR (rowsC C).length k) by congr 1; omega, rounds_add, h3]
  exact rounds_true _
end LW
/-! The machine of a town, part 3: its making. -/
namespace LW
open PySem PySem.Spec PyProof.Rows L2 PV
theorem sum_le {α : Type} {f g : α → Nat} : ∀ (l : List α), (∀ x ∈ l, f x ≤ g x) → (l.map f).sum ≤ (l.map g).sum
  | [], _ => Nat.le_refl _
  | x :: l, h => by
    rw [List.map_cons, List.map_cons, List.sum_cons, List.sum_cons]
    have := sum_le l fun y hy => h y (List.mem_cons_of_mem _ hy)
    have := h x List.mem_cons_self
    omega
theorem sum_add {α : Type} {f g : α → Nat} : ∀ (l : List α), (l.map fun x => f x + g x).sum = (l.map f).sum + (l.map g).sum
  | [] => rfl
  | x :: l => by
    rw [List.map_cons, List.map_cons, List.map_cons, List.sum_cons, List.sum_cons, List.sum_cons, sum_add l]
    omega
theorem sum_const {α : Type} {B : Nat} : ∀ (l : List α), (l.map fun _ => B).sum = l.length * B
  | [] => by simp
  | x :: l => by
    rw [List.map_cons, List.sum_cons, sum_const l, List.length_cons, Nat.add_mul, Nat.one_mul]
    omega
theorem sum_if {α : Type} {q : α → Bool} {B : Nat} : ∀ (l : List α), (l.map fun x => if q x then B else 0).sum = (l.filter q).length * B
  | [] => by simp
  | x :: l => by
    rw [List.map_cons, List.sum_cons, sum_if l]
    by_cases h : q x = true
    · rw [if_pos h, List.filter_cons_of_pos h, List.length_cons, Nat.add_mul, Nat.one_mul]
      omega
    · rw [if_neg h, List.filter_cons_of_neg h]
      omega
def sumW (D : Nat) (ss : List St) : Nat := (ss.map (wS D)).sum
theorem sumW_flat {α : Type} {D : Nat} {f : α → List St} : ∀ (l : List α), sumW D (l.flatMap f) = (l.map fun x => sumW D (f x)).sum
  | [] => rfl
  | x :: l => by
    rw [List.flatMap_cons, List.map_cons, List.sum_cons, ← sumW_flat l]
    unfold sumW
    rw [List.map_append, List.sum_append]
theorem outF_app {D k : Nat} : ∀ (a b : List St), outF D k (a ++ b) = outF D k a + outF D k b
  | [], b => by simp [outF]
  | s :: a, b => by
    show (if s.a = k then wS D s else 0) + outF D k (a ++ b) = (if s.a = k then wS D s else 0) + outF D k a + outF D k b
    rw [outF_app a b]
    omega
theorem outF_flat {α : Type} {D k : Nat} {f : α → List St} : ∀ (l : List α), outF D k (l.flatMap f) = (l.map fun x => outF D k (f x)).sum
  | [] => rfl
  | x :: l => by rw [List.flatMap_cons, List.map_cons, List.sum_cons, ← outF_flat l, outF_app]
theorem outF_le {D k : Nat} : ∀ (a : List St), outF D k a ≤ sumW D a
  | [] => Nat.le_refl _
  | s :: a => by
    have := outF_le (D := D) (k := k) a
    show (if s.a = k then wS D s else 0) + outF D k a ≤ sumW D (s :: a)
    have e : sumW D (s :: a) = wS D s + sumW D a := by unfold sumW; rw [List.map_cons, List.sum_cons]
    rw [e]
    split <;> omega
theorem outF_zero {D k : Nat} : ∀ (a : List St), (∀ s ∈ a, s.a ≠ k) → outF D k a = 0
  | [], _ => rfl
  | s :: a, h => by
    show (if s.a = k then wS D s else 0) + outF D k a = 0
    rw [if_neg (h s List.mem_cons_self), outF_zero a fun y hy => h y (List.mem_cons_of_mem _ hy)]
theorem mem_tops {L : List Int} {k : Nat} (h : k < L.length) : (k : Int) ∈ tops L ↔ L.getD k 0 = maxL L := by
  unfold tops
  constructor
  · intro hm
    obtain ⟨j, hj, e⟩ := List.mem_map.mp hm
    have : j = k := by omega
    subst this
    exact of_decide_eq_true (List.mem_filter.mp hj).2
  · intro e
    exact List.mem_map.mpr ⟨k, List.mem_filter.mpr ⟨by simpa using h, decide_eq_true e⟩, rfl⟩
theorem perP_sum {C : List Int} (hC : CntOk C) {ws : List Wt} {ev : Bool} {row : List Int} {p : Nat} (hp : p < C.length) : sumW (24 * C.length) (perP C ws ev row p) ≤ 24 := by
  have hl1 := hC.pos
  have hc := hC.cnt p hp
  have hlen := wFs_len (C := C) (ws := ws) (row := row) (p := p)
  unfold perP
  rw [sumW_flat]
  have h1 : ((List.range (C.getD p 0).toNat).map fun k => sumW (24 * C.length) (gK C ws ev row p k)).sum ≤ ((List.range (C.getD p 0).toNat).map fun k => 24 * C.length / (facF C ws ev row p k).1).sum := sum_le _ fun k _ => by
    unfold gK
    split
    · exact Nat.zero_le _
    · show sumW (24 * C.length) [mkSt C ws ev row p k] ≤ _
      unfold sumW
      rw [List.map_cons, List.map_nil, List.sum_cons, List.sum_nil, Nat.add_zero]
      exact Nat.le_refl _
  refine Nat.le_trans h1 ?_
  cases ev with
  | false =>
    have e : ∀ k, 24 * C.length / (facF C ws false row p k).1 = 24 / (C.getD p 0).toNat := fun k => by
      show 24 * C.length / (C.length * (C.getD p 0).toNat) = _
      rw [Nat.mul_comm 24]
      exact Nat.mul_div_mul_left _ _ (by omega)
    simp only [e]
    rw [sum_const, List.length_range]
    exact Nat.mul_div_le _ _
  | true =>
    have e : ∀ k ∈ List.range (C.getD p 0).toNat, 24 * C.length / (facF C ws true row p k).1 ≤ (if decide ((wFs C ws row p).getD k 0 = maxL (wFs C ws row p)) = true then 12 / (tops (wFs C ws row p)).length else 0) + 12 / (C.getD p 0).toNat := fun k hk => by
      have hk : k < (wFs C ws row p).length := by rw [hlen]; simpa using hk
      have f : facF C ws true row p k = if (k : Int) ∈ tops (wFs C ws row p) then (2 * C.length * (tops (wFs C ws row p)).length, 0) else (2 * C.length * (C.getD p 0).toNat, 1) := rfl
      have d : ∀ m, 24 * C.length / (2 * C.length * m) = 12 / m := fun m => by
        rw [show 24 * C.length = 2 * C.length * 12 by omega]
        exact Nat.mul_div_mul_left _ _ (by omega)
      rw [f]
      by_cases q : (k : Int) ∈ tops (wFs C ws row p)
      · rw [if_pos q, if_pos (decide_eq_true ((mem_tops hk).mp q))]
        show 24 * C.length / (2 * C.length * (tops (wFs C ws row p)).length) ≤ _
        rw [d]
        exact Nat.le_add_right _ _
      · rw [if_neg q]
        show 24 * C.length / (2 * C.length * (C.getD p 0).toNat) ≤ _
        rw [d]
        exact Nat.le_add_left _ _
    refine Nat.le_trans (sum_le _ e) ?_
    rw [sum_add, sum_const, sum_if, List.length_range]
    have t : ((List.range (C.getD p 0).toNat).filter fun k => decide ((wFs C ws row p).getD k 0 = maxL (wFs C ws row p))).length = (tops (wFs C ws row p)).length := by
      unfold tops
      rw [List.length_map, hlen]
    rw [t]
    have a := Nat.mul_div_le 12 (tops (wFs C ws row p)).length
    have b := Nat.mul_div_le 12 (C.getD p 0).toNat
    omega
theorem row_once : ∀ C ∈ countsT, ∀ k < 16, ((rowsC C).filter fun row => decide ((rowsC C).idxOf row = k)).length ≤ 1 := by decide +kernel
theorem out_all {C : List Int} (hCm : C ∈ countsT) {ws : List Wt} {ev : Bool} {k : Nat} (hk : k < (rowsC C).length) : outF (24 * C.length) k (allS C ws ev) ≤ 24 * C.length := by
  have hC := cnt_ok hCm
  unfold allS
  rw [outF_flat]
  have h1 : ((rowsC C).map fun row => outF (24 * C.length) k (perRow C ws ev row)).sum ≤ ((rowsC C).map fun row => if decide ((rowsC C).idxOf row = k) = true then 24 * C.length else 0).sum := sum_le _ fun row _ => by
    by_cases q : (rowsC C).idxOf row = k
    · rw [if_pos (decide_eq_true q)]
      refine Nat.le_trans (outF_le _) ?_
      unfold perRow
      rw [sumW_flat]
      refine Nat.le_trans (sum_le (g := fun _ => 24) _ fun p hp => perP_sum hC (by simpa using hp)) ?_
      rw [sum_const, List.length_range]
      omega
    · rw [if_neg (by simpa using q)]
      rw [outF_zero _ fun s hs => ?_]
      · exact Nat.le_refl _
      · unfold perRow at hs
        obtain ⟨p, hp, hs⟩ := List.mem_flatMap.mp hs
        unfold perP at hs
        obtain ⟨j, hj, hs⟩ := List.mem_flatMap.mp hs
        unfold gK at hs
        split at hs
        · cases hs
        · have : s = mkSt C ws ev row p j := by simpa using hs
          subst this
          exact q
  refine Nat.le_trans h1 ?_
  rw [sum_if]
  have := row_once C hCm k (by have := (rows_len C hCm).1; omega)
  exact Nat.le_trans (Nat.mul_le_mul_right _ this) (by omega)
theorem mok {C : List Int} (hCm : C ∈ countsT) {ws : List Wt} (hw : WsOk C ws 2048) {ev : Bool} : MOk (rowsC C).length (24 * C.length) (allS C ws ev) where
  st := fun s hs => (st_all hCm hw hs).1
  one := fun s hs => (st_all hCm hw hs).2
  len := by have := allS_len hCm (ws := ws) (ev := ev); omega
  dp := by have := (cnt_ok hCm).pos; have := (cnt_ok hCm).len; exact ⟨by omega, Nat.lt_of_le_of_lt (Nat.mul_le_mul_left 24 this) (by decide)⟩
  out := fun k hk => out_all hCm hk
  way := fun k hk => ways_all hCm hk
/-! ### names -/
def nmsL (C : List Int) : List PV.D := (List.range (rowsC C).length).map fun k : Nat => .str (("s" : Str) ++ ((toString (k : Int) : String) : Str))
section
variable {n : Nat}
theorem nms_ok {C : List Int} (hC : C ∈ countsT) {s0 s1 s3 s4 s5 : Option PV.D} : evE T (calN T 1000 n) [s0, s1, some (.lst ((rowsC C).map PV.iT)), s3, s4, s5] b5_c0 = .ok (.lst (nmsL C)) := by
  have h : C = [2, 2] ∨ C = [2, 2, 2] ∨ C = [3, 2] ∨ C = [2, 3] ∨ C = [3, 3] ∨ C = [2] ∨ C = [1, 2] ∨ C = [2, 2, 2, 2] ∨ C = [4, 2] ∨ C = [4, 4] ∨ C = [1, 1, 2] ∨ C = [2, 2, 3] := by
    simpa [countsT] using hC
  rcases h with rfl | rfl | rfl | rfl | rfl | rfl | rfl | rfl | rfl | rfl | rfl | rfl <;> kernel_rfl
theorem nms_frozen {C : List Int} (hC : C ∈ countsT) : calN T 1000 (n + 3) (.fn 20) [.lst (nmsL C)] = .ok (.tup (nmsL C)) := by
  have h : C = [2, 2] ∨ C = [2, 2, 2] ∨ C = [3, 2] ∨ C = [2, 3] ∨ C = [3, 3] ∨ C = [2] ∨ C = [1, 2] ∨ C = [2, 2, 2, 2] ∨ C = [4, 2] ∨ C = [4, 4] ∨ C = [1, 1, 2] ∨ C = [2, 2, 3] := by
    simpa [countsT] using hC
  rcases h with rfl | rfl | rfl | rfl | rfl | rfl | rfl | rfl | rfl | rfl | rfl | rfl <;> kernel_rfl
theorem nms_checked {C : List Int} (hC : C ∈ countsT) : calN T 1000 (n + 3) (.fn 18) [.tup (nmsL C)] = .ok (.tup (nmsL C)) := by
  have h : C = [2, 2] ∨ C = [2, 2, 2] ∨ C = [3, 2] ∨ C = [2, 3] ∨ C = [3, 3] ∨ C = [2] ∨ C = [1, 2] ∨ C = [2, 2, 2, 2] ∨ C = [4, 2] ∨ C = [4, 4] ∨ C = [1, 1, 2] ∨ C = [2, 2, 3] := by
    simpa [countsT] using hC
  rcases h with rfl | rfl | rfl | rfl | rfl | rfl | rfl | rfl | rfl | rfl | rfl | rfl <;> kernel_rfl
/-- the machine of a town -/
theorem town_machine_ok {C : List Int} (hCm : C ∈ countsT) {ws : List Wt} {sl : Str} {ev : Bool} (he : Ev sl ev) (hw : WsOk C ws 2048) :
    calN T 1000 (n + 11) (.fn 5) [twn C ws sl] = .ok (mach (.tup (nmsL C)) (rowsC C).length (allS C ws ev)) := by
  have hC := cnt_ok hCm
  have hwv : ∀ x ∈ ws, WtOk C x := fun x hx => (hw.val x hx).1
  have e1 := every_ok (n := n + 6) hCm (ws := ws) (sl := sl)
  have al := allS_len hCm (ws := ws) (ev := ev)
  obtain ⟨ρ', hl, ac, o3, hac, _, rfl⟩ := r_forI (call := calN T 1000 (n + 10)) (t := .one 3) (it := .seq (.var 2)) (b := b5_l0) (is := rowsC C)
    (ρ := [some (twn C ws sl), some (.lst []), some (.lst ((rowsC C).map PV.iT)), none, none, none]) PV.iT
    (I := fun ys ρ => ∃ (ac : List St) (o3 : Option PV.D), ac ++ ys.flatMap (perRow C ws ev) = allS C ws ev ∧ (∀ r ∈ ys, r ∈ rowsC C) ∧ ρ = [some (twn C ws sl), some (.lst (ac.map St.t)), some (.lst ((rowsC C).map PV.iT)), o3, none, none])
    (by simp -implicitDefEqProofs (disch := omega) only [PV.zR, List.set_cons_zero, List.set_cons_succ, Bool.true_and, Bool.and_true, Bool.false_and, Bool.and_false, Bool.true_or, Bool.or_true, Bool.false_or, Bool.or_false, Bool.not_true, Bool.not_false, decide_true, decide_false]) ⟨[], none, rfl, fun r hr => hr, rfl⟩ (by
    rintro row ys ρ ⟨ac, o3, hac, hrs, rfl⟩
    have ts := town_steps_ok (n := n + 4) hCm he (sl := sl) hwv (hrs row List.mem_cons_self)
    have hgk : ac ++ (row :: ys).flatMap (perRow C ws ev) = (ac ++ perRow C ws ev row) ++ ys.flatMap (perRow C ws ev) := by
      rw [List.flatMap_cons, List.append_assoc]
    rw [hgk] at hac
    have hz : (ac.map St.t).length + ((perRow C ws ev row).map St.t).length ≤ sizeLine := by
      have := congrArg List.length hac
      rw [List.length_append, List.length_append] at this
      rw [List.length_map, List.length_map, sizeLine_eq]
      omega
    have m1 : binD .add (.lst (ac.map St.t)) (.lst ((perRow C ws ev row).map St.t)) = .ok (.lst ((ac ++ perRow C ws ev row).map St.t)) := by
      rw [List.map_append]
      exact if_pos hz
    refine ⟨[some (twn C ws sl), some (.lst (ac.map St.t)), some (.lst ((rowsC C).map PV.iT)), some (PV.iT row), none, none], [some (twn C ws sl), some (.lst ((ac ++ perRow C ws ev row).map St.t)), some (.lst ((rowsC C).map PV.iT)), some (PV.iT row), none, none], rfl, ?_, ac ++ perRow C ws ev row, _, hac, fun r hr => hrs r (List.mem_cons_of_mem _ hr), rfl⟩
    unfold b5_l0
    generalize twn C ws sl = W at *
    generalize PV.iT row = Y at *
    simp -implicitDefEqProofs (disch := omega) only [PV.zR, List.set_cons_zero, List.set_cons_succ, Bool.true_and, Bool.and_true, Bool.false_and, Bool.and_false, Bool.true_or, Bool.or_true, Bool.false_or, Bool.or_false, Bool.not_true, Bool.not_false, decide_true, decide_false, ts, m1])
  have : ac = allS C ws ev := by simpa using hac
  subst this
  have mk := machine_ok (n := n + 1) (mok hCm hw (ev := ev)) (by have := (rows_len C hCm).1; omega) (nl := nmsL C) (nt := nmsL C) (by unfold nmsL; rw [List.length_map, List.length_range]) (nms_frozen (n := n + 5) hCm) (nms_checked (n := n + 5) hCm) (o5 := none)
  refine r_ret (ρ := [some (twn C ws sl), some (.lst ((allS C ws ev).map St.t)), some (.lst ((rowsC C).map PV.iT)), o3, none, none]) hF5 rfl ?_
  show exSs T (calN T 1000 (n + 10)) 1000 [some (twn C ws sl), none, none, none, none, none] b5 = _
  have hl' : exS T (calN T 1000 (n + 10)) 1000 [some (twn C ws sl), some (.lst []), some (.lst ((rowsC C).map PV.iT)), none, none, none] b5_f0 = _ := hl
  have nm := nms_ok (n := n + 10) hCm (s0 := some (twn C ws sl)) (s1 := some (.lst ((allS C ws ev).map St.t))) (s3 := o3) (s4 := none) (s5 := none)
  unfold b5
  simp -implicitDefEqProofs (disch := omega) only [PV.zR, List.set_cons_zero, List.set_cons_succ, Bool.true_and, Bool.and_true, Bool.false_and, Bool.and_false, Bool.true_or, Bool.or_true, Bool.false_or, Bool.or_false, Bool.not_true, Bool.not_false, decide_true, decide_false, e1, hl', nm, mk]
end
end LW
/-! The machine of a town, part 4: the law's own steps. -/
namespace LW
open PySem PySem.Spec PyProof.Rows L2 PV
theorem filter_max {L : List Int} {m : Int} : (L.filter fun x => decide (x = m)).length = ((List.range L.length).filter fun k => decide (L.getD k 0 = m)).length := by
  have e : L = (List.range L.length).map fun k => L.getD k 0 := by
    apply List.ext_getElem
    · simp
    · intro i h1 h2
      rw [List.getElem_map, List.getElem_range]
      simp [h1]
  rw [show (L.filter fun x => decide (x = m)).length = (((List.range L.length).map fun k => L.getD k 0).filter fun x => decide (x = m)).length by rw [← e], List.filter_map, List.length_map]
  rfl
section
variable {n : Nat}
theorem many_ok {C : List Int} {ws : List Wt} {sl : Str} {L : List Int} (hz : L.length ≤ 1000) {s1 s2 s3 s4 s7 s8 s9 s10 : Option PV.D} :
    evE T (calN T 1000 n) [some (drw C ws sl), s1, s2, s3, s4, some (PV.iL L), some (.int (maxL L)), s7, s8, s9, s10, none, none] b44_c0 = .ok (.lst ((L.filter fun x => decide (x = maxL L)).map D.int)) :=
  r_compI D.int D.int (fun x => decide (x = maxL L)) (by unfold PV.iL; simp -implicitDefEqProofs (disch := omega) only [PV.zR, List.set_cons_zero, List.set_cons_succ, Bool.true_and, Bool.and_true, Bool.false_and, Bool.and_false, Bool.true_or, Bool.or_true, Bool.false_or, Bool.or_false, Bool.not_true, Bool.not_false, decide_true, decide_false]) (by omega) fun x hx => ⟨[some (drw C ws sl), s1, s2, s3, s4, some (PV.iL L), some (.int (maxL L)), s7, s8, s9, s10, none, some (.int x)], rfl, by simp -implicitDefEqProofs (disch := omega) only [PV.zR, List.set_cons_zero, List.set_cons_succ, Bool.true_and, Bool.and_true, Bool.false_and, Bool.and_false, Bool.true_or, Bool.or_true, Bool.false_or, Bool.or_false, Bool.not_true, Bool.not_false, decide_true, decide_false], fun _ => by simp -implicitDefEqProofs (disch := omega) only [PV.zR, List.set_cons_zero, List.set_cons_succ, Bool.true_and, Bool.and_true, Bool.false_and, Bool.and_false, Bool.true_or, Bool.or_true, Bool.false_or, Bool.or_false, Bool.not_true, Bool.not_false, decide_true, decide_false]⟩
theorem lsteps_ok {C : List Int} (hCm : C ∈ countsT) {ws : List Wt} {sl : Str} {ev : Bool} (he : Ev sl ev) (hw : ∀ x ∈ ws, WtOk C x) :
    calN T 1000 (n + 6) (.fn 44) [drw C ws sl] = .ok (.lst ((allS C ws ev).map St.t)) := by
  have hC := cnt_ok hCm
  have hl4 := hC.len
  have hs := he.eq
  have al := allS_len hCm (ws := ws) (ev := ev)
  have d2 : subD (drw C ws sl) (.int 2) = .ok (.str sl) := rfl
  have a3 := lrows_ok (n := n + 3) hCm (ws := ws) (sl := sl)
  have inner : ∀ (row : List Int) (p : Nat) (acc : List St) (o5 o6 o7 o8 o9 o10 : Option PV.D), row ∈ rowsC C → p < C.length → acc.length + (C.getD p 0).toNat ≤ 1000 →
      ∃ o5' o6' o7' o8' o9' o10', exSs T (calN T 1000 (n + 5)) 1000 [some (drw C ws sl), some (.lst ((rowsC C).map PV.iT)), some (.lst (acc.map St.t)), some (PV.iT row), some (.int (p : Nat)), o5, o6, o7, o8, o9, o10, none, none] b44_l1 =
      .ok (.next, [some (drw C ws sl), some (.lst ((rowsC C).map PV.iT)), some (.lst ((acc ++ perP C ws ev row p).map St.t)), some (PV.iT row), some (.int (p : Nat)), o5', o6', o7', o8', o9', o10', none, none]) := by
    intro row p acc o5 o6 o7 o8 o9 o10 hrow hp hz
    have hr := rows_ok C hCm row hrow
    have hc := hC.cnt p hp
    have lw := lworths_ok (n := n + 2) (sl := sl) (row := row) (p := p) hC hw hr.1 (by omega)
    have hlen := wFs_len (C := C) (ws := ws) (row := row) (p := p)
    have hne : wFs C ws row p ≠ [] := by intro h; rw [h, List.length_nil] at hlen; omega
    have hm := k_maxL hne
    have mo := fun s1 s2 s3 s4 s7 s8 s9 s10 => many_ok (n := n + 5) (C := C) (ws := ws) (sl := sl) (L := wFs C ws row p) (by omega) (s1 := s1) (s2 := s2) (s3 := s3) (s4 := s4) (s7 := s7) (s8 := s8) (s9 := s9) (s10 := s10)
    have ml : biD .len [.lst (((wFs C ws row p).filter fun x => decide (x = maxL (wFs C ws row p))).map D.int)] = .ok (.int (((tops (wFs C ws row p)).length : Nat) : Int)) := by
      rw [r_lenL, List.length_map, filter_max]
      unfold tops
      rw [List.length_map]
    have ir := index_T hrow
    have rl : biD .len [PV.iT row] = .ok (.int ((C.length : Nat) : Int)) := by
      unfold PV.iT
      rw [r_lenT, List.length_map, hr.1]
    have Ll : biD .len [PV.iL (wFs C ws row p)] = .ok (.int (((C.getD p 0).toNat : Nat) : Int)) := by
      unfold PV.iL
      rw [r_lenL, List.length_map, hlen]
    have t5 := (holdsT (row := row)).at_ p (by omega) (by omega)
    rw [Int.toNat_natCast] at t5
    have tl := tops_len (L := wFs C ws row p)
    have m0 := mulN (a := C.length) (b := (C.getD p 0).toNat) (by omega) (by omega)
    have m1 := mulN2 (a := C.length) (by omega)
    have m2 := mulN (a := 2 * C.length) (b := (tops (wFs C ws row p)).length) (by omega) (by omega)
    have m3 := mulN (a := 2 * C.length) (b := (C.getD p 0).toNat) (by omega) (by omega)
    obtain ⟨ρ', hl, ac, o8', o9', o10', hac, _, rfl⟩ := r_forI (call := calN T 1000 (n + 5)) (t := .one 8) (it := .rng1 (.bi .len (.cons (.var 5) .nil))) (b := b44_l0) (is := List.range (C.getD p 0).toNat)
      (ρ := [some (drw C ws sl), some (.lst ((rowsC C).map PV.iT)), some (.lst (acc.map St.t)), some (PV.iT row), some (.int (p : Nat)), some (PV.iL (wFs C ws row p)), some (.int (maxL (wFs C ws row p))), some (.int (((tops (wFs C ws row p)).length : Nat) : Int)), o8, o9, o10, none, none]) (fun k : Nat => D.int (k : Int))
      (I := fun ys ρ => ∃ (ac : List St) (o8 o9 o10 : Option PV.D), ac ++ ys.flatMap (gK C ws ev row p) = acc ++ perP C ws ev row p ∧ (∀ k ∈ ys, k < (C.getD p 0).toNat) ∧ ρ = [some (drw C ws sl), some (.lst ((rowsC C).map PV.iT)), some (.lst (ac.map St.t)), some (PV.iT row), some (.int (p : Nat)), some (PV.iL (wFs C ws row p)), some (.int (maxL (wFs C ws row p))), some (.int (((tops (wFs C ws row p)).length : Nat) : Int)), o8, o9, o10, none, none])
      (by simp -implicitDefEqProofs (disch := omega) only [PV.zR, List.set_cons_zero, List.set_cons_succ, Bool.true_and, Bool.and_true, Bool.false_and, Bool.and_false, Bool.true_or, Bool.or_true, Bool.false_or, Bool.or_false, Bool.not_true, Bool.not_false, decide_true, decide_false, Ll, Int.toNat_natCast]) ⟨acc, o8, o9, o10, rfl, fun k hk => by simpa using hk, rfl⟩ (by
      rintro k ys ρ ⟨ac, o8, o9, o10, hac, hks, rfl⟩
      have hk := hks k List.mem_cons_self
      have hacl : ac.length < 1000000 := by
        have := congrArg List.length hac
        rw [List.length_append, List.length_append] at this
        have := perP_len (C := C) (ws := ws) (ev := ev) (row := row) (p := p)
        omega
      have hgk : ac ++ (k :: ys).flatMap (gK C ws ev row p) = (ac ++ gK C ws ev row p k) ++ ys.flatMap (gK C ws ev row p) := by
        rw [List.flatMap_cons, List.append_assoc]
      rw [hgk] at hac
      have w := lwith_ok (n := n + 3) (row := row) (p := p) (k := (k : Int)) (by omega) (by omega)
      have ig := index_T (rows_set C hCm row hrow p hp k hk)
      have t6 := (holdsL (row := wFs C ws row p)).at_ k (by omega) (by omega)
      rw [Int.toNat_natCast] at t6
      have mt := mem_tops (L := wFs C ws row p) (k := k) (by omega)
      by_cases q : (k : Int) = row.getD p 0
      · have e1 : gK C ws ev row p k = [] := if_pos q
        have e2 : decide ((k : Int) = row.getD p 0) = true := decide_eq_true q
        rw [e1, List.append_nil] at hac
        refine ⟨[some (drw C ws sl), some (.lst ((rowsC C).map PV.iT)), some (.lst (ac.map St.t)), some (PV.iT row), some (.int (p : Nat)), some (PV.iL (wFs C ws row p)), some (.int (maxL (wFs C ws row p))), some (.int (((tops (wFs C ws row p)).length : Nat) : Int)), some (.int (k : Int)), o9, o10, none, none], [some (drw C ws sl), some (.lst ((rowsC C).map PV.iT)), some (.lst (ac.map St.t)), some (PV.iT row), some (.int (p : Nat)), some (PV.iL (wFs C ws row p)), some (.int (maxL (wFs C ws row p))), some (.int (((tops (wFs C ws row p)).length : Nat) : Int)), some (.int (k : Int)), o9, o10, none, none], rfl, ?_, ac, _, _, _, hac, fun j hj => hks j (List.mem_cons_of_mem _ hj), rfl⟩
        unfold b44_l0
        generalize drw C ws sl = W at *
        generalize PV.iT row = Y at *
        simp -implicitDefEqProofs (disch := omega) only [PV.zR, List.set_cons_zero, List.set_cons_succ, Bool.true_and, Bool.and_true, Bool.false_and, Bool.and_false, Bool.true_or, Bool.or_true, Bool.false_or, Bool.or_false, Bool.not_true, Bool.not_false, decide_true, decide_false, t5, e2]
      · have e1 : gK C ws ev row p k = [mkSt C ws ev row p k] := if_neg q
        have e2 : decide ((k : Int) = row.getD p 0) = false := decide_eq_false q
        rw [e1] at hac
        refine ⟨[some (drw C ws sl), some (.lst ((rowsC C).map PV.iT)), some (.lst (ac.map St.t)), some (PV.iT row), some (.int (p : Nat)), some (PV.iL (wFs C ws row p)), some (.int (maxL (wFs C ws row p))), some (.int (((tops (wFs C ws row p)).length : Nat) : Int)), some (.int (k : Int)), o9, o10, none, none], [some (drw C ws sl), some (.lst ((rowsC C).map PV.iT)), some (.lst ((ac ++ [mkSt C ws ev row p k]).map St.t)), some (PV.iT row), some (.int (p : Nat)), some (PV.iL (wFs C ws row p)), some (.int (maxL (wFs C ws row p))), some (.int (((tops (wFs C ws row p)).length : Nat) : Int)), some (.int (k : Int)), some (.int (((rowsC C).idxOf (row.set p (k : Int)) : Nat) : Int)), some (mkSt C ws ev row p k).t, none, none], rfl, ?_, ac ++ [mkSt C ws ev row p k], _, _, _, hac, fun j hj => hks j (List.mem_cons_of_mem _ hj), rfl⟩
        have hz1 : (ac.map St.t).length < 1000000 := by rw [List.length_map]; exact hacl
        have e3 : (ac ++ [mkSt C ws ev row p k]).map St.t = ac.map St.t ++ [(mkSt C ws ev row p k).t] := by rw [List.map_append]; rfl
        have e4 : (mkSt C ws ev row p k).t = .tup [.int (((rowsC C).idxOf row : Nat) : Int), .int (((rowsC C).idxOf (row.set p (k : Int)) : Nat) : Int), .tup [.int 1, .int (((facF C ws ev row p k).1 : Nat) : Int)], .int (facF C ws ev row p k).2] := rfl
        rw [e3, e4]
        have fT : facF C ws true row p k = if (k : Int) ∈ tops (wFs C ws row p) then (2 * C.length * (tops (wFs C ws row p)).length, 0) else (2 * C.length * (C.getD p 0).toNat, 1) := rfl
        have fF : facF C ws false row p k = (C.length * (C.getD p 0).toNat, maxL (wFs C ws row p) - (wFs C ws row p).getD k 0) := rfl
        unfold b44_l0
        generalize drw C ws sl = W at *
        generalize PV.iT row = Y at *
        generalize ac.map St.t = A at *
        generalize PV.iT (row.set p (k : Int)) = Y2 at *
        generalize PV.iL (wFs C ws row p) = Z at *
        generalize (rowsC C).map PV.iT = R at *
        generalize wFs C ws row p = L at *
        cases ev with
        | true =>
          rw [fT]
          by_cases u : L.getD k 0 = maxL L
          · have e5 : decide (L.getD k 0 = maxL L) = true := decide_eq_true u
            rw [if_pos (mt.mpr u)]
            simp -implicitDefEqProofs (disch := omega) only [PV.zR, List.set_cons_zero, List.set_cons_succ, Bool.true_and, Bool.and_true, Bool.false_and, Bool.and_false, Bool.true_or, Bool.or_true, Bool.false_or, Bool.or_false, Bool.not_true, Bool.not_false, decide_true, decide_false, t5, t6, e2, w, ig, ir, d2, hs, e5, rl, Ll, m0, m1, m2, m3, z_appN hz1]
          · have e5 : decide (L.getD k 0 = maxL L) = false := decide_eq_false u
            rw [if_neg fun h => u (mt.mp h)]
            simp -implicitDefEqProofs (disch := omega) only [PV.zR, List.set_cons_zero, List.set_cons_succ, Bool.true_and, Bool.and_true, Bool.false_and, Bool.and_false, Bool.true_or, Bool.or_true, Bool.false_or, Bool.or_false, Bool.not_true, Bool.not_false, decide_true, decide_false, t5, t6, e2, w, ig, ir, d2, hs, e5, rl, Ll, m0, m1, m2, m3, z_appN hz1]
        | false =>
          rw [fF]
          simp -implicitDefEqProofs (disch := omega) only [PV.zR, List.set_cons_zero, List.set_cons_succ, Bool.true_and, Bool.and_true, Bool.false_and, Bool.and_false, Bool.true_or, Bool.or_true, Bool.false_or, Bool.or_false, Bool.not_true, Bool.not_false, decide_true, decide_false, t5, t6, e2, w, ig, ir, d2, hs, rl, Ll, m0, m1, m2, m3, z_appN hz1])
    have hac' : ac = acc ++ perP C ws ev row p := by simpa using hac
    subst hac'
    refine ⟨some (PV.iL (wFs C ws row p)), some (.int (maxL (wFs C ws row p))), some (.int (((tops (wFs C ws row p)).length : Nat) : Int)), o8', o9', o10', ?_⟩
    have hl' : exS T (calN T 1000 (n + 5)) 1000 [some (drw C ws sl), some (.lst ((rowsC C).map PV.iT)), some (.lst (acc.map St.t)), some (PV.iT row), some (.int (p : Nat)), some (PV.iL (wFs C ws row p)), some (.int (maxL (wFs C ws row p))), some (.int (((tops (wFs C ws row p)).length : Nat) : Int)), o8, o9, o10, none, none] b44_f0 = _ := hl
    unfold b44_l1
    simp -implicitDefEqProofs (disch := omega) only [PV.zR, List.set_cons_zero, List.set_cons_succ, Bool.true_and, Bool.and_true, Bool.false_and, Bool.and_false, Bool.true_or, Bool.or_true, Bool.false_or, Bool.or_false, Bool.not_true, Bool.not_false, decide_true, decide_false, lw, hm, mo, ml, hl']
  have middle : ∀ (row : List Int) (acc : List St) (o4 o5 o6 o7 o8 o9 o10 : Option PV.D), row ∈ rowsC C → acc.length + 16 ≤ 900 →
      ∃ o4' o5' o6' o7' o8' o9' o10', exS T (calN T 1000 (n + 5)) 1000 [some (drw C ws sl), some (.lst ((rowsC C).map PV.iT)), some (.lst (acc.map St.t)), some (PV.iT row), o4, o5, o6, o7, o8, o9, o10, none, none] b44_f1 =
      .ok (.next, [some (drw C ws sl), some (.lst ((rowsC C).map PV.iT)), some (.lst ((acc ++ perRow C ws ev row).map St.t)), some (PV.iT row), o4', o5', o6', o7', o8', o9', o10', none, none]) := by
    intro row acc o4 o5 o6 o7 o8 o9 o10 hrow hz
    have hr := rows_ok C hCm row hrow
    have rl : biD .len [PV.iT row] = .ok (.int ((C.length : Nat) : Int)) := by
      unfold PV.iT
      rw [r_lenT, List.length_map, hr.1]
    have pl := perRow_len hC (ws := ws) (ev := ev) (row := row)
    obtain ⟨ρ', hl, ac, o4', o5', o6', o7', o8', o9', o10', hac, _, rfl⟩ := r_forI (call := calN T 1000 (n + 5)) (t := .one 4) (it := .rng1 (.bi .len (.cons (.var 3) .nil))) (b := b44_l1) (is := List.range C.length)
      (ρ := [some (drw C ws sl), some (.lst ((rowsC C).map PV.iT)), some (.lst (acc.map St.t)), some (PV.iT row), o4, o5, o6, o7, o8, o9, o10, none, none]) (fun k : Nat => D.int (k : Int))
      (I := fun ys ρ => ∃ (ac : List St) (o4 o5 o6 o7 o8 o9 o10 : Option PV.D), ac ++ ys.flatMap (perP C ws ev row) = acc ++ perRow C ws ev row ∧ (∀ k ∈ ys, k < C.length) ∧ ρ = [some (drw C ws sl), some (.lst ((rowsC C).map PV.iT)), some (.lst (ac.map St.t)), some (PV.iT row), o4, o5, o6, o7, o8, o9, o10, none, none])
      (by simp -implicitDefEqProofs (disch := omega) only [PV.zR, List.set_cons_zero, List.set_cons_succ, Bool.true_and, Bool.and_true, Bool.false_and, Bool.and_false, Bool.true_or, Bool.or_true, Bool.false_or, Bool.or_false, Bool.not_true, Bool.not_false, decide_true, decide_false, rl, Int.toNat_natCast]) ⟨acc, o4, o5, o6, o7, o8, o9, o10, rfl, fun k hk => by simpa using hk, rfl⟩ (by
      rintro p ys ρ ⟨ac, o4, o5, o6, o7, o8, o9, o10, hac, hps, rfl⟩
      have hp := hps p List.mem_cons_self
      have hc := hC.cnt p hp
      have hacl : ac.length + (C.getD p 0).toNat ≤ 1000 := by
        have := congrArg List.length hac
        rw [List.length_append, List.length_append] at this
        omega
      obtain ⟨o5', o6', o7', o8', o9', o10', e⟩ := inner row p ac o5 o6 o7 o8 o9 o10 hrow hp hacl
      have hgk : ac ++ (p :: ys).flatMap (perP C ws ev row) = (ac ++ perP C ws ev row p) ++ ys.flatMap (perP C ws ev row) := by
        rw [List.flatMap_cons, List.append_assoc]
      rw [hgk] at hac
      exact ⟨[some (drw C ws sl), some (.lst ((rowsC C).map PV.iT)), some (.lst (ac.map St.t)), some (PV.iT row), some (.int (p : Nat)), o5, o6, o7, o8, o9, o10, none, none], [some (drw C ws sl), some (.lst ((rowsC C).map PV.iT)), some (.lst ((ac ++ perP C ws ev row p).map St.t)), some (PV.iT row), some (.int (p : Nat)), o5', o6', o7', o8', o9', o10', none, none], rfl, e, ac ++ perP C ws ev row p, _, _, _, _, _, _, _, hac, fun j hj => hps j (List.mem_cons_of_mem _ hj), rfl⟩)
    have hac' : ac = acc ++ perRow C ws ev row := by simpa using hac
    subst hac'
    exact ⟨o4', o5', o6', o7', o8', o9', o10', hl⟩
  obtain ⟨ρ', hl, ac, o3, o4, o5, o6, o7, o8, o9, o10, hac, _, rfl⟩ := r_forI (call := calN T 1000 (n + 5)) (t := .one 3) (it := .seq (.var 1)) (b := b44_l2) (is := rowsC C)
    (ρ := [some (drw C ws sl), some (.lst ((rowsC C).map PV.iT)), some (.lst []), none, none, none, none, none, none, none, none, none, none]) PV.iT
    (I := fun ys ρ => ∃ (ac : List St) (o3 o4 o5 o6 o7 o8 o9 o10 : Option PV.D), ac ++ ys.flatMap (perRow C ws ev) = allS C ws ev ∧ (∀ r ∈ ys, r ∈ rowsC C) ∧ ρ = [some (drw C ws sl), some (.lst ((rowsC C).map PV.iT)), some (.lst (ac.map St.t)), o3, o4, o5, o6, o7, o8, o9, o10, none, none])
    (by simp -implicitDefEqProofs (disch := omega) only [PV.zR, List.set_cons_zero, List.set_cons_succ, Bool.true_and, Bool.and_true, Bool.false_and, Bool.and_false, Bool.true_or, Bool.or_true, Bool.false_or, Bool.or_false, Bool.not_true, Bool.not_false, decide_true, decide_false]) ⟨[], none, none, none, none, none, none, none, none, rfl, fun r hr => hr, rfl⟩ (by
    rintro row ys ρ ⟨ac, o3, o4, o5, o6, o7, o8, o9, o10, hac, hrs, rfl⟩
    have hacl : ac.length + 16 ≤ 900 := by
      have := congrArg List.length hac
      rw [List.length_append] at this
      omega
    obtain ⟨o4', o5', o6', o7', o8', o9', o10', e⟩ := middle row ac o4 o5 o6 o7 o8 o9 o10 (hrs row List.mem_cons_self) hacl
    have hgk : ac ++ (row :: ys).flatMap (perRow C ws ev) = (ac ++ perRow C ws ev row) ++ ys.flatMap (perRow C ws ev) := by
      rw [List.flatMap_cons, List.append_assoc]
    rw [hgk] at hac
    refine ⟨[some (drw C ws sl), some (.lst ((rowsC C).map PV.iT)), some (.lst (ac.map St.t)), some (PV.iT row), o4, o5, o6, o7, o8, o9, o10, none, none], [some (drw C ws sl), some (.lst ((rowsC C).map PV.iT)), some (.lst ((ac ++ perRow C ws ev row).map St.t)), some (PV.iT row), o4', o5', o6', o7', o8', o9', o10', none, none], rfl, ?_, ac ++ perRow C ws ev row, _, _, _, _, _, _, _, _, hac, fun r hr => hrs r (List.mem_cons_of_mem _ hr), rfl⟩
    unfold b44_l2
    simp -implicitDefEqProofs (disch := omega) only [PV.zR, List.set_cons_zero, List.set_cons_succ, Bool.true_and, Bool.and_true, Bool.false_and, Bool.and_false, Bool.true_or, Bool.or_true, Bool.false_or, Bool.or_false, Bool.not_true, Bool.not_false, decide_true, decide_false, e])
  have hac' : ac = allS C ws ev := by simpa using hac
  subst hac'
  refine r_ret (ρ := [some (drw C ws sl), some (.lst ((rowsC C).map PV.iT)), some (.lst ((allS C ws ev).map St.t)), o3, o4, o5, o6, o7, o8, o9, o10, none, none]) hF44 rfl ?_
  show exSs T (calN T 1000 (n + 5)) 1000 [some (drw C ws sl), none, none, none, none, none, none, none, none, none, none, none, none] b44 = _
  have hl' : exS T (calN T 1000 (n + 5)) 1000 [some (drw C ws sl), some (.lst ((rowsC C).map PV.iT)), some (.lst []), none, none, none, none, none, none, none, none, none, none] b44_f2 = _ := hl
  unfold b44
  simp -implicitDefEqProofs (disch := omega) only [PV.zR, List.set_cons_zero, List.set_cons_succ, Bool.true_and, Bool.and_true, Bool.false_and, Bool.and_false, Bool.true_or, Bool.or_true, Bool.false_or, Bool.or_false, Bool.not_true, Bool.not_false, decide_true, decide_false, a3, hl']
end
end LW
/-! law_k83. -/
namespace LW
open PySem PySem.Spec PyProof.Rows L2 PV
def pSt (s : St) : PyData := .tuple [.int (s.a : Int), .int (s.b : Int), .tuple [.int (s.n : Int), .int (s.d : Int)], .int s.c]
theorem pd_st (ss : List St) : pdAll (ss.map St.t) = some (ss.map pSt) := by
  induction ss with
  | nil => rfl
  | cons s ss ih =>
    show (match (St.t s).pd, pdAll (ss.map St.t) with
      | some p, some ps => some (p :: ps)
      | _, _ => none) = _
    rw [ih]
    rfl
theorem lay_st (ss : List St) : PyData.canLayAll0 (ss.map pSt) = true := by
  induction ss with
  | nil => rfl
  | cons s ss ih => simp only [List.map_cons, PyData.canLayAll0, ih, pSt, PyData.canLay0, Bool.and_self]
theorem dep_st (ss : List St) : PyData.depthAll (ss.map pSt) ≤ 2 := by
  induction ss with
  | nil => exact Nat.zero_le _
  | cons s ss ih =>
    simp only [List.map_cons, PyData.depthAll, PyData.depth, pSt]
    omega
theorem sts_self (ss : List St) : cmpB .ne (.tup (ss.map St.t)) (.tup (ss.map St.t)) = .ok (.bl false) := by
  refine (eq_self (p := .tuple (ss.map pSt)) ?_ ?_).2
  · show (pdAll (ss.map St.t)).map PyData.tuple = _
    rw [pd_st]
    rfl
  · unfold SeqAt.shaped
    simp only [PyData.canLay0, PyData.depth, lay_st, Bool.true_and]
    have := dep_st ss
    exact decide_eq_true (by omega)
section
variable {n : Nat}
theorem nms_law {C : List Int} (hC : C ∈ countsT) {ws : List Wt} {sl : Str} {s0 s1 s2 s3 s5 s6 s7 : Option PV.D} : evE T (calN T 1000 (n + 3)) [s0, s1, s2, s3, some (drw C ws sl), s5, s6, s7, none] b0_c0 = .ok (.lst (nmsL C)) := by
  have h : C = [2, 2] ∨ C = [2, 2, 2] ∨ C = [3, 2] ∨ C = [2, 3] ∨ C = [3, 3] ∨ C = [2] ∨ C = [1, 2] ∨ C = [2, 2, 2, 2] ∨ C = [4, 2] ∨ C = [4, 4] ∨ C = [1, 1, 2] ∨ C = [2, 2, 3] := by
    simpa [countsT] using hC
  rcases h with rfl | rfl | rfl | rfl | rfl | rfl | rfl | rfl | rfl | rfl | rfl | rfl <;> kernel_rfl
theorem nms_self {C : List Int} (hC : C ∈ countsT) : cmpB .ne (.tup (nmsL C)) (.tup (nmsL C)) = .ok (.bl false) := by
  have h : C = [2, 2] ∨ C = [2, 2, 2] ∨ C = [3, 2] ∨ C = [2, 3] ∨ C = [3, 3] ∨ C = [2] ∨ C = [1, 2] ∨ C = [2, 2, 2, 2] ∨ C = [4, 2] ∨ C = [4, 4] ∨ C = [1, 1, 2] ∨ C = [2, 2, 3] := by
    simpa [countsT] using hC
  rcases h with rfl | rfl | rfl | rfl | rfl | rfl | rfl | rfl | rfl | rfl | rfl | rfl <;> kernel_rfl
theorem lratio_ok {a b : Nat} : calN T 1000 (n + 3) (.fn 49) [rto a b, rto a b] = .ok (.bl true) := by
  refine r_ret (ρ := [some (rto a b), some (rto a b)]) hF49 rfl ?_
  show exSs T (calN T 1000 (n + 2)) 1000 [some (rto a b), some (rto a b)] b49 = _
  unfold b49 rto
  have e1 : decide (((([D.int (a : Int), D.int (b : Int)] : List PV.D).length : Nat) : Int) = 2) = true := by simp
  simp -implicitDefEqProofs (disch := omega) only [PV.zR, List.set_cons_zero, List.set_cons_succ, Bool.true_and, Bool.and_true, Bool.false_and, Bool.and_false, Bool.true_or, Bool.or_true, Bool.false_or, Bool.or_false, Bool.not_true, Bool.not_false, decide_true, decide_false, e1, lwhole_ok]
theorem m2 {a b c d : PV.D} : attrD T 2 (.ins 0 [(0, a), (1, b), (2, c), (3, d)]) = .ok c := rfl
theorem law_turn {C : List Int} (hCm : C ∈ countsT) {ws : List Wt} {sl : Str} {sl0 : Str} (hs : sl = "even" ∨ sl = "loss") (hw : WsOk C ws 2048) {o0 o4 o5 o6 o7 : Option PV.D} :
    ∃ o4' o5' o6' o7', exSs T (calN T 1000 (n + 12)) 1000 [o0, some (drw C ws sl0), some (pplL C), some (.str sl), o4, o5, o6, o7, none] b0_l1 =
      .ok (.next, [o0, some (drw C ws sl0), some (pplL C), some (.str sl), o4', o5', o6', o7', none]) := by
  obtain ⟨ev, he⟩ := ev_of hs
  have hwv : ∀ x ∈ ws, WtOk C x := fun x hx => (hw.val x hx).1
  have al := allS_len hCm (ws := ws) (ev := ev)
  have a1 := make_ok (n := n + 4) hCm hw hs (cus_frozen2 (n := n + 6) hCm)
  have a2 := town_machine_ok (n := n + 1) hCm he hw
  have a3 := lsteps_ok (n := n + 6) hCm he hwv
  have a4 := fun s0 s1 s2 s3 s5 s6 s7 => nms_law (n := n + 9) hCm (ws := ws) (sl := sl) (s0 := s0) (s1 := s1) (s2 := s2) (s3 := s3) (s5 := s5) (s6 := s6) (s7 := s7)
  have a5 := nms_self hCm
  have a6 := sts_self (allS C ws ev)
  have a7 : cmpB .ne (rto 1 1) (.tup [.int 1, .int 1]) = .ok (.bl false) := by
    have := kb_neT [1, 1] [1, 1]
    rw [decide_eq_true rfl] at this
    exact this
  have d0 : subD (drw C ws sl0) (.int 0) = .ok (cusL C) := rfl
  have d1 : subD (drw C ws sl0) (.int 1) = .ok (.lst (ws.map Wt.l)) := rfl
  have e0 : (.lst [cusL C, .lst (ws.map Wt.l), .str sl] : PV.D) = drw C ws sl := rfl
  have q0 : attrD T 0 (mach (.tup (nmsL C)) (rowsC C).length (allS C ws ev)) = .ok (.tup (nmsL C)) := rfl
  have q1 : attrD T 1 (mach (.tup (nmsL C)) (rowsC C).length (allS C ws ev)) = .ok (.tup ((allS C ws ev).map St.t)) := rfl
  have q2 : attrD T 2 (mach (.tup (nmsL C)) (rowsC C).length (allS C ws ev)) = .ok (rto 1 1) := rfl
  obtain ⟨ρ', hl, o7', rfl⟩ := r_forR (T := T) (call := calN T 1000 (n + 12)) (wf := 1000) (t := .one 7) (it := .rng1 (.bi .len (.cons (.var 6) .nil))) (b := b0_l0) (m := (allS C ws ev).length)
    (ρ := [o0, some (drw C ws sl0), some (pplL C), some (.str sl), some (drw C ws sl), some (mach (.tup (nmsL C)) (rowsC C).length (allS C ws ev)), some (.lst ((allS C ws ev).map St.t)), o7, none])
    (I := fun _ ρ => ∃ o7, ρ = [o0, some (drw C ws sl0), some (pplL C), some (.str sl), some (drw C ws sl), some (mach (.tup (nmsL C)) (rowsC C).length (allS C ws ev)), some (.lst ((allS C ws ev).map St.t)), o7, none]) (by simp -implicitDefEqProofs (disch := omega) only [PV.zR, List.set_cons_zero, List.set_cons_succ, Bool.true_and, Bool.and_true, Bool.false_and, Bool.and_false, Bool.true_or, Bool.or_true, Bool.false_or, Bool.or_false, Bool.not_true, Bool.not_false, decide_true, decide_false, List.length_map, Int.toNat_natCast]) ⟨o7, rfl⟩ (by
    rintro k ρ hk ⟨o7, rfl⟩
    refine ⟨[o0, some (drw C ws sl0), some (pplL C), some (.str sl), some (drw C ws sl), some (mach (.tup (nmsL C)) (rowsC C).length (allS C ws ev)), some (.lst ((allS C ws ev).map St.t)), some (.int (k : Nat)), none], [o0, some (drw C ws sl0), some (pplL C), some (.str sl), some (drw C ws sl), some (mach (.tup (nmsL C)) (rowsC C).length (allS C ws ev)), some (.lst ((allS C ws ev).map St.t)), some (.int (k : Nat)), none], rfl, ?_, _, rfl⟩
    have s1 := r_mapT (g := St.t) hk
    have s2 := r_mapL (g := St.t) hk
    have s3 : subD ((allS C ws ev)[k]).t (.int 2) = .ok (rto ((allS C ws ev)[k]).n ((allS C ws ev)[k]).d) := r_t2
    have s4 : subD ((allS C ws ev)[k]).t (.int 3) = .ok (.int ((allS C ws ev)[k]).c) := r_t3
    have lr := lratio_ok (n := n + 9) (a := ((allS C ws ev)[k]).n) (b := ((allS C ws ev)[k]).d)
    unfold b0_l0
    generalize ((allS C ws ev)[k]).t = Z at *
    generalize rto ((allS C ws ev)[k]).n ((allS C ws ev)[k]).d = Y at *
    generalize mach (.tup (nmsL C)) (rowsC C).length (allS C ws ev) = M at *
    simp -implicitDefEqProofs (disch := omega) only [PV.zR, List.set_cons_zero, List.set_cons_succ, Bool.true_and, Bool.and_true, Bool.false_and, Bool.and_false, Bool.true_or, Bool.or_true, Bool.false_or, Bool.or_false, Bool.not_true, Bool.not_false, decide_true, decide_false, q1, s1, s2, s3, s4, lr, lwhole_ok])
  refine ⟨some (drw C ws sl), some (mach (.tup (nmsL C)) (rowsC C).length (allS C ws ev)), some (.lst ((allS C ws ev).map St.t)), o7', ?_⟩
  have hl' : exS T (calN T 1000 (n + 12)) 1000 [o0, some (drw C ws sl0), some (pplL C), some (.str sl), some (drw C ws sl), some (mach (.tup (nmsL C)) (rowsC C).length (allS C ws ev)), some (.lst ((allS C ws ev).map St.t)), o7, none] b0_f0 = _ := hl
  unfold b0_l1
  generalize mach (.tup (nmsL C)) (rowsC C).length (allS C ws ev) = M at *
  simp -implicitDefEqProofs (disch := omega) only [PV.zR, List.set_cons_zero, List.set_cons_succ, Bool.true_and, Bool.and_true, Bool.false_and, Bool.and_false, Bool.true_or, Bool.or_true, Bool.false_or, Bool.or_false, Bool.not_true, Bool.not_false, decide_true, decide_false, d0, d1, e0, List.cons_append, List.nil_append, a1, a2, a3, a4, a5, a6, a7, q0, q1, q2, hl']
theorem k83_law (ns : List Int) : calN T 1000 (n + 13) (.fn 0) [.scr ns] = .ok (.bl true) := by
  obtain ⟨C, ws, sl, hC, hw, hs, hT⟩ := town_ok (T := T) (wf := 1000) (n := n + 9) (jT := 1) (iC := 3) (iD := 2) hF1 hF3 hF2 ns (k := 0) (by decide) (by decide) false
  obtain ⟨ev, he⟩ := ev_of hs
  have a1 := people_ok (n := n + 10) hC (ws := ws) (sl := sl)
  have hT' : calN T 1000 (n + 12) (.fn 1) [.scr ns, .int 0, .bl false] = .ok (drw C ws sl) := hT
  have hit : ∃ sl2 : Str, (sl2 = "even" ∨ sl2 = "loss") ∧ evIt T (calN T 1000 (n + 12)) [some (.scr ns), some (drw C ws sl), some (pplL C), none, none, none, none, none, none] (.seq (.lst (.cons (.sub (.var 1) (.lit (.int 2))) (.cons (.sub (.fzl (.lst (.cons (.lit (.str "even")) (.cons (.lit (.str "loss")) .nil)))) (.bi .int (.cons (.cmp .eq (.sub (.var 1) (.lit (.int 2))) (.lit (.str "even"))) .nil))) .nil)))) = .ok ([sl, sl2].map D.str) := by
    have d2 : subD (drw C ws sl) (.int 2) = .ok (.str sl) := rfl
    have hse := he.eq
    cases ev with
    | true =>
      refine ⟨"loss", .inr rfl, ?_⟩
      have i1 : biD .int [.bl true] = .ok (.int 1) := rfl
      generalize drw C ws sl = W at *
      simp -implicitDefEqProofs (disch := omega) only [PV.zR, List.set_cons_zero, List.set_cons_succ, Bool.true_and, Bool.and_true, Bool.false_and, Bool.and_false, Bool.true_or, Bool.or_true, Bool.false_or, Bool.or_false, Bool.not_true, Bool.not_false, decide_true, decide_false, d2, hse, i1]
      rfl
    | false =>
      refine ⟨"even", .inl rfl, ?_⟩
      have i1 : biD .int [.bl false] = .ok (.int 0) := rfl
      generalize drw C ws sl = W at *
      simp -implicitDefEqProofs (disch := omega) only [PV.zR, List.set_cons_zero, List.set_cons_succ, Bool.true_and, Bool.and_true, Bool.false_and, Bool.and_false, Bool.true_or, Bool.or_true, Bool.false_or, Bool.or_false, Bool.not_true, Bool.not_false, decide_true, decide_false, d2, hse, i1]
      rfl
  obtain ⟨sl2, hs2, hit⟩ := hit
  obtain ⟨ρ', hl, o3, o4, o5, o6, o7, rfl⟩ := r_for (T := T) (call := calN T 1000 (n + 12)) (wf := 1000) (t := .one 3) (b := b0_l1) D.str
    (fun (_ : Unit) ρ => ∃ o3 o4 o5 o6 o7, ρ = [some (.scr ns), some (drw C ws sl), some (pplL C), o3, o4, o5, o6, o7, none]) (fun _ _ => ()) (is := [sl, sl2]) (s := ()) hit ⟨none, none, none, none, none, rfl⟩ (by
    rintro _ s ρ hm ⟨o3, o4, o5, o6, o7, rfl⟩
    have hs' : s = "even" ∨ s = "loss" := by
      simp only [List.mem_cons, List.not_mem_nil, or_false] at hm
      rcases hm with rfl | rfl
      · exact hs
      · exact hs2
    obtain ⟨q4, q5, q6, q7, e⟩ := law_turn (n := n) hC (sl0 := sl) hs' hw (o0 := some (.scr ns)) (o4 := o4) (o5 := o5) (o6 := o6) (o7 := o7)
    exact ⟨[some (.scr ns), some (drw C ws sl), some (pplL C), some (.str s), o4, o5, o6, o7, none], _, rfl, e, _, _, _, _, _, rfl⟩)
  refine r_ret (ρ := [some (.scr ns), some (drw C ws sl), some (pplL C), o3, o4, o5, o6, o7, none]) hF0 rfl ?_
  show exSs T (calN T 1000 (n + 12)) 1000 [some (.scr ns), none, none, none, none, none, none, none, none] b0 = _
  have hl' : exS T (calN T 1000 (n + 12)) 1000 [some (.scr ns), some (drw C ws sl), some (pplL C), none, none, none, none, none, none] b0_f1 = _ := hl
  unfold b0
  generalize drw C ws sl = W at *
  simp -implicitDefEqProofs (disch := omega) only [PV.zR, List.set_cons_zero, List.set_cons_succ, Bool.true_and, Bool.and_true, Bool.false_and, Bool.and_false, Bool.true_or, Bool.or_true, Bool.false_or, Bool.or_false, Bool.not_true, Bool.not_false, decide_true, decide_false, hT', a1, hl']
end
end LW
theorem PySem.Challenge.cw_rareslips_k83_town_machines_holds : PySem.Challenge.rw_rareslips_k83_town_machines.Holds := by
  exact LX.holds_of (n := 50) ⟨rfl, by decide, by decide⟩ fun ns _ => LW.k83_law (n := 37) ns
