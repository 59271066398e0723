import PyProof.Rows.All

import Wide.All

import OpenK.KWalk

import OpenK.KCall

import KE.IntTextText

import PyProof.Conv_int

import Open.Line

import Wide.FinOn

import PySem.Challenge.RW_sx_r042_1o

set_option Elab.async false

set_option genInjectivity false
set_option genSizeOf false
namespace Mine
open PySem

set_option genInjectivity true in
/-- what a piece of the program comes to: a datum, a ValueError (fresh: raised in this very frame), or no word -/
inductive R (α : Type) where
  | ok (a : α)
  | exc (fresh : Bool)
  | stuck

noncomputable def R.bind {α β : Type} : R α → (α → R β) → R β
  | .ok a, f => f a
  | .exc b, _ => .exc b
  | .stuck, _ => .stuck

@[simp] theorem R.bind_ok {α β : Type} (a : α) (f : α → R β) : (R.ok a).bind f = f a := rfl
@[simp] theorem R.bind_exc {α β : Type} (b : Bool) (f : α → R β) : (R.exc b : R α).bind f = .exc b := rfl
@[simp] theorem R.bind_stuck {α β : Type} (f : α → R β) : (R.stuck : R α).bind f = .stuck := rfl

noncomputable def R.ofOpt {α : Type} : Option α → R α
  | some a => .ok a
  | none => .stuck
@[simp] theorem R.ofOpt_some {α : Type} (a : α) : R.ofOpt (some a) = .ok a := rfl
@[simp] theorem R.ofOpt_none {α : Type} : R.ofOpt (none : Option α) = .stuck := rfl

/-- a guard: the datum where the condition holds -/
noncomputable def R.when {α : Type} (c : Bool) (a : α) : R α := bif c then .ok a else .stuck
@[simp] theorem R.when_true {α : Type} (a : α) : R.when true a = .ok a := rfl
@[simp] theorem R.when_false {α : Type} (a : α) : R.when false a = .stuck := rfl

inductive BOp where | add | sub | mul | div | mod
inductive COp where | lt | le | gt | ge | eq | ne | isIn | notIn
inductive Ty where | int | str | tuple | bool
inductive B1 where | len | str | int | abs | ord
inductive B2 where | min | max

inductive PE where
  | loc (i : Nat)
  | cst (d : PyData)
  | bin (op : BOp) (a b : PE)
  | neg (a : PE)
  | not (a : PE)
  | and (a b : PE)
  | or (a b : PE)
  | ite (t a b : PE)
  | tup (es : List PE)
  | lst (es : List PE)
  | cmp (op : COp) (a b : PE)
  | chain (o₁ o₂ : COp) (a b c : PE)
  | isNone (a : PE)
  | isNotNone (a : PE)
  | typeIs (a : PE) (t : Ty)
  | idx (a i : PE)
  | sliceTo (a hi : PE)
  | sliceFrom (a lo : PE)
  | slice (a lo hi : PE)
  | call (f : Nat) (args : List PE)
  | b1 (f : B1) (a : PE)
  | b2 (f : B2) (a b : PE)
  | join (sep a : PE)
  | rstrip (a c : PE)
  | replace (a b c : PE)
  | dget (ks vs : List PyData) (k d : PE)
  | all (elt it : PE)
  | anyZip (elt it₁ it₂ : PE)

inductive PS where
  | ret (e : PE)
  | asg (x : Nat) (e : PE)
  | asgT (xs : List Nat) (e : PE)
  | ite (t : PE) (b o : List PS)
  | whl (t : PE) (b : List PS)
  | forRange (x : Nat) (lo hi : PE) (b : List PS)
  | forTup (xs : List Nat) (e : PE) (b : List PS)
  | forZip (x y : Nat) (e₁ e₂ : PE) (b : List PS)
  | raise
  | tryAsg (x : Nat) (e : PE) (y : Nat) (d : PE)

/-- a place in a sequence, Python's way -/
noncomputable def idxAt (i : Int) (n : Nat) : Option Nat :=
  if 0 ≤ i then (if i < (n : Int) then some i.toNat else none) else (if 0 ≤ i + n then some (i + n).toNat else none)
/-- a bound of a slice, Python's way -/
noncomputable def bound (i : Int) (n : Nat) : Nat := if i < 0 then (i + n).toNat else min i.toNat n
noncomputable def cut {α : Type} (l : List α) (lo hi : Nat) : List α := (l.take hi).drop lo

noncomputable abbrev sl (x : Str) : List Nat := x.cps.toList
noncomputable abbrev mkS (l : List Nat) : Str := ⟨l.toArray⟩
noncomputable abbrev dS (l : List Nat) : PyData := .str ⟨l.toArray⟩

noncomputable def limit : Nat := 16777216

noncomputable def smallI (a : Int) : Bool := decide (-4611686018427387904 < a) && decide (a < 4611686018427387904)

noncomputable def binop : BOp → PyData → PyData → R PyData
  | .add, .int a, .int b => .ok (.int (a + b))
  | .sub, .int a, .int b => .ok (.int (a - b))
  | .mul, .int a, .int b => .when (smallI a || smallI b) (.int (a * b))
  | .div, .int a, .int b => .when (decide (0 < b) && decide (b < 1073741824)) (.int (a / b))
  | .mod, .int a, .int b => .when (decide (0 < b)) (.int (a % b))
  | .add, .str a, .str b => .when (decide ((sl a).length + (sl b).length ≤ limit)) (dS (sl a ++ sl b))
  | .mul, .str a, .int n => .when (decide ((sl a).length ≤ 16) && decide (-1000 ≤ n) && decide (n ≤ 1000)) (dS (List.replicate n.toNat (sl a)).flatten)
  | .add, .tuple a, .tuple b => .when (decide (a.length + b.length ≤ 1000)) (.tuple (a ++ b))
  | .mul, .tuple a, .int n => .when (decide (1 ≤ a.length) && decide (a.length ≤ 16) && decide (2 ≤ n) && decide (n ≤ 1000)) (.tuple (List.replicate n.toNat a).flatten)
  | _, _, _ => .stuck

/-- == of two flat tuples' items, ints and None -/
noncomputable def feq : PyData → PyData → Option Bool
  | .int a, .int b => some (decide (a = b))
  | .none, .none => some true
  | .none, .int _ => some false
  | .int _, .none => some false
  | _, _ => none
noncomputable def flat : PyData → Bool
  | .int _ => true
  | .none => true
  | _ => false
@[simp] noncomputable def feqs : List PyData → List PyData → Bool
  | [], [] => true
  | a :: r, b :: q => (match feq a b with | some c => c | none => false) && feqs r q
  | _, _ => false

/-- == of plain data; none: a kind that is not served -/
noncomputable def deq : PyData → PyData → Option Bool
  | .int a, .int b => some (decide (a = b))
  | .str a, .str b => some (decide (a = b))
  | .bool a, .bool b => some (decide (a = b))
  | .none, .none => some true
  | .none, .int _ => some false
  | .int _, .none => some false
  | .str x, .tuple l => bif (sl x).all (fun c => decide (c < 128)) && l.all flat then some false else none
  | .tuple l, .str x => bif (sl x).all (fun c => decide (c < 128)) && l.all flat then some false else none
  | .tuple a, .tuple b => bif a.all flat && b.all flat && decide (a.length ≤ 100) && decide (b.length ≤ 100) then some (feqs a b) else none
  | _, _ => none

/-- < of two int tuples of one length -/
@[simp] noncomputable def tlt : List PyData → List PyData → Option Bool
  | [], [] => some false
  | .int a :: r, .int b :: q => bif decide (a = b) then tlt r q else some (decide (a < b))
  | _, _ => none

/-- y in x, of texts -/
noncomputable def subAt (y : List Nat) : List Nat → Bool
  | [] => y.isEmpty
  | c :: r => y.isPrefixOf (c :: r) || subAt y r

/-- membership in a tuple -/
@[simp] noncomputable def memb (d : PyData) : List PyData → Option Bool
  | [] => some false
  | e :: r => (deq d e).bind fun c => (memb d r).map fun b => c || b

noncomputable def cmpop : COp → PyData → PyData → R PyData
  | .eq, a, b => (R.ofOpt (deq a b)).bind fun c => .ok (.bool c)
  | .ne, a, b => (R.ofOpt (deq a b)).bind fun c => .ok (.bool !c)
  | .lt, .int a, .int b => .ok (.bool (decide (a < b)))
  | .le, .int a, .int b => .ok (.bool (decide (a ≤ b)))
  | .gt, .int a, .int b => .ok (.bool (decide (b < a)))
  | .ge, .int a, .int b => .ok (.bool (decide (b ≤ a)))
  | .lt, .tuple a, .tuple b => (R.ofOpt (tlt a b)).bind fun c => .ok (.bool c)
  | .gt, .tuple a, .tuple b => (R.ofOpt (tlt b a)).bind fun c => .ok (.bool c)
  | .isIn, .str y, .str x => .ok (.bool (subAt (sl y) (sl x)))
  | .notIn, .str y, .str x => .ok (.bool !(subAt (sl y) (sl x)))
  | .isIn, .int i, .tuple x => (R.ofOpt (memb (.int i) x)).bind fun c => .ok (.bool c)
  | .notIn, .int i, .tuple x => (R.ofOpt (memb (.int i) x)).bind fun c => .ok (.bool !c)
  | .isIn, .tuple t, .tuple x => (R.ofOpt (memb (.tuple t) x)).bind fun c => .when (!x.isEmpty) (.bool c)
  | .notIn, .tuple t, .tuple x => (R.ofOpt (memb (.tuple t) x)).bind fun c => .when (!x.isEmpty) (.bool !c)
  | _, _, _ => .stuck

noncomputable def truthy : PyData → R Bool
  | .bool b => .ok b
  | _ => .stuck

noncomputable def typeIs : PyData → Ty → Bool
  | .int _, .int => true
  | .str _, .str => true
  | .tuple _, .tuple => true
  | .bool _, .bool => true
  | _, _ => false

noncomputable def index : PyData → PyData → R PyData
  | .tuple l, .int i => (R.ofOpt (idxAt i l.length)).bind fun k => R.ofOpt l[k]?
  | .list l, .int i => (R.ofOpt (bif decide (0 ≤ i) then idxAt i l.length else none)).bind fun k => R.ofOpt l[k]?
  | .str x, .int i => (R.ofOpt (idxAt i (sl x).length)).bind fun k => (R.ofOpt (sl x)[k]?).bind fun c => .ok (dS [c])
  | _, _ => .stuck

noncomputable def sliceBy : PyData → (Nat → Nat × Nat) → R PyData
  | .str x, f => .ok (dS (cut (sl x) (f (sl x).length).1 (f (sl x).length).2))
  | .tuple l, f => .ok (.tuple (cut l (f l.length).1 (f l.length).2))
  | _, _ => .stuck

noncomputable def digit (c : Nat) : Bool := decide (48 ≤ c) && decide (c ≤ 57)
noncomputable def digitsVal (l : List Nat) : Int := l.foldl (fun (a : Int) (c : Nat) => a * 10 + ((c : Int) - 48)) 0

/-- an int's text -/
noncomputable def itoa (i : Int) : List Nat := (Str.ofString (toString i)).cps.toList
@[simp] theorem sl_mk (a : Array Nat) : sl ⟨a⟩ = a.toList := rfl

noncomputable def app1 : B1 → PyData → R PyData
  | .len, .str x => .ok (.int (sl x).length)
  | .len, .tuple l => .ok (.int l.length)
  | .len, .list l => .ok (.int l.length)
  | .str, .int i => .when (smallI i) (dS (itoa i))
  | .int, .str x => .when (decide (1 ≤ (sl x).length) && decide ((sl x).length ≤ 18) && (sl x).all digit) (.int (digitsVal (sl x)))
  | .abs, .int i => .ok (.int (if i < 0 then -i else i))
  | .ord, .str x => match sl x with
    | [c] => .ok (.int c)
    | _ => .stuck
  | _, _ => .stuck

noncomputable def app2 : B2 → PyData → PyData → R PyData
  | .min, .int a, .int b => .ok (.int (if b < a then b else a))
  | .max, .int a, .int b => .ok (.int (if a < b then b else a))
  | _, _, _ => .stuck

@[simp] noncomputable def strsOf : List PyData → Option (List (List Nat))
  | [] => some []
  | .str x :: r => (strsOf r).map fun q => sl x :: q
  | _ :: _ => none
noncomputable def joinL (sep : List Nat) : List (List Nat) → List Nat
  | [] => []
  | [x] => x
  | x :: y :: r => x ++ sep ++ joinL sep (y :: r)

noncomputable def itemsOf : PyData → Option (List PyData)
  | .tuple l => some l
  | .list l => some l
  | _ => none

noncomputable def joinD : PyData → PyData → R PyData
  | .str s, .tuple l => (R.ofOpt (strsOf l)).bind fun q => .when (decide ((joinL (sl s) q).length + (sl s).length ≤ limit) && decide (1 ≤ q.length) && decide (q.length ≤ 100)) (dS (joinL (sl s) q))
  | .str s, .list l => (R.ofOpt (strsOf l)).bind fun q => .when (decide ((joinL (sl s) q).length + (sl s).length ≤ limit) && decide (1 ≤ q.length) && decide (q.length ≤ 100)) (dS (joinL (sl s) q))
  | _, _ => .stuck

noncomputable def rstripL (cs : List Nat) (x : List Nat) : List Nat := (x.reverse.dropWhile fun c => cs.contains c).reverse
noncomputable def rstripD : PyData → PyData → R PyData
  | .str x, .str c => .ok (dS (rstripL (sl c) (sl x)))
  | _, _ => .stuck

noncomputable def replaceD : PyData → PyData → PyData → R PyData
  | .str x, .str y, .str z => bif decide (sl x = sl y) && decide (1 ≤ (sl y).length) then .ok (.str z)
      else (.when (!(subAt (sl y) (sl x)) && decide (1 ≤ (sl y).length)) (.str x))
  | _, _, _ => .stuck

/-- {k: v, ..}.get(key, default), the keys None or ints -/
@[simp] noncomputable def dgetD : List PyData → List PyData → PyData → PyData → R PyData
  | [], _, _, d => .ok d
  | _, [], _, d => .ok d
  | k :: ks, v :: vs, x, d => match feq k x with
    | some true => .ok v
    | some false => dgetD ks vs x d
    | none => .stuck

noncomputable def seqOf : PyData → Option (List PyData)
  | .tuple l => some l
  | .list l => some l
  | .str x => some ((sl x).map fun c => dS [c])
  | _ => none

noncomputable abbrev Env' := List (Option PyData)
noncomputable abbrev Calls := Nat → List PyData → R PyData

noncomputable def getL (ρ : Env') (i : Nat) : R PyData := match ρ[i]? with
  | some (some d) => .ok d
  | _ => .stuck

/-- all over what an item comes to -/
@[simp] noncomputable def allR : List (R PyData) → R PyData
  | [] => .ok (.bool true)
  | x :: r => match x with
    | .ok (.bool true) => allR r
    | .ok (.bool false) => .ok (.bool false)
    | _ => .stuck
@[simp] noncomputable def anyR : List (R PyData) → R PyData
  | [] => .ok (.bool false)
  | x :: r => match x with
    | .ok (.bool false) => anyR r
    | .ok (.bool true) => .ok (.bool true)
    | _ => .stuck

mutual
@[simp] noncomputable def ev (C : Calls) : PE → Env' → R PyData
  | .loc i, ρ => getL ρ i
  | .cst d, _ => .ok d
  | .bin op a b, ρ => (ev C a ρ).bind fun x => (ev C b ρ).bind fun y => binop op x y
  | .neg a, ρ => (ev C a ρ).bind fun x => match x with
    | .int i => .ok (.int (-i))
    | _ => .stuck
  | .not a, ρ => (ev C a ρ).bind fun x => (truthy x).bind fun t => .ok (.bool !t)
  | .and a b, ρ => (ev C a ρ).bind fun x => (truthy x).bind fun t => match t with
    | true => ev C b ρ
    | false => .ok x
  | .or a b, ρ => (ev C a ρ).bind fun x => (truthy x).bind fun t => match t with
    | true => .ok x
    | false => ev C b ρ
  | .ite t a b, ρ => (ev C t ρ).bind fun x => (truthy x).bind fun t => match t with
    | true => ev C a ρ
    | false => ev C b ρ
  | .tup es, ρ => (evs C es ρ).bind fun l => .ok (.tuple l)
  | .lst es, ρ => (evs C es ρ).bind fun l => .ok (.list l)
  | .cmp op a b, ρ => (ev C a ρ).bind fun x => (ev C b ρ).bind fun y => cmpop op x y
  | .chain o₁ o₂ a b c, ρ => (ev C a ρ).bind fun x => (ev C b ρ).bind fun y => (cmpop o₁ x y).bind fun z => (truthy z).bind fun t => match t with
    | true => (ev C c ρ).bind fun u => cmpop o₂ y u
    | false => .ok z
  | .isNone a, ρ => (ev C a ρ).bind fun x => .ok (.bool (match x with | .none => true | _ => false))
  | .isNotNone a, ρ => (ev C a ρ).bind fun x => .ok (.bool (match x with | .none => false | _ => true))
  | .typeIs a t, ρ => (ev C a ρ).bind fun x => .ok (.bool (typeIs x t))
  | .idx a i, ρ => (ev C a ρ).bind fun x => (ev C i ρ).bind fun y => index x y
  | .sliceTo a hi, ρ => (ev C a ρ).bind fun x => (ev C hi ρ).bind fun y => match y with
    | .int j => sliceBy x fun n => (0, bound j n)
    | _ => .stuck
  | .sliceFrom a lo, ρ => (ev C a ρ).bind fun x => (ev C lo ρ).bind fun y => match y with
    | .int j => sliceBy x fun n => (bound j n, n)
    | _ => .stuck
  | .slice a lo hi, ρ => (ev C a ρ).bind fun x => (ev C lo ρ).bind fun y => (ev C hi ρ).bind fun z => match y, z with
    | .int j, .int k => sliceBy x fun n => (bound j n, bound k n)
    | _, _ => .stuck
  | .call f args, ρ => (evs C args ρ).bind fun l => C f l
  | .b1 f a, ρ => (ev C a ρ).bind fun x => app1 f x
  | .b2 f a b, ρ => (ev C a ρ).bind fun x => (ev C b ρ).bind fun y => app2 f x y
  | .join s a, ρ => (ev C s ρ).bind fun x => (ev C a ρ).bind fun y => joinD x y
  | .rstrip a c, ρ => (ev C a ρ).bind fun x => (ev C c ρ).bind fun y => rstripD x y
  | .replace a b c, ρ => (ev C a ρ).bind fun x => (ev C b ρ).bind fun y => (ev C c ρ).bind fun z => replaceD x y z
  | .dget ks vs k d, ρ => (ev C k ρ).bind fun x => (ev C d ρ).bind fun y => dgetD ks vs x y
  | .all elt it, ρ => (ev C it ρ).bind fun x => (R.ofOpt (seqOf x)).bind fun l => allR (l.map fun d => ev C elt [some d])
  | .anyZip elt a b, ρ => (ev C a ρ).bind fun x => (ev C b ρ).bind fun y => (R.ofOpt (itemsOf x)).bind fun l => (R.ofOpt (itemsOf y)).bind fun q =>
      anyR ((l.zip q).map fun p => ev C elt [some p.1, some p.2])
@[simp] noncomputable def evs (C : Calls) : List PE → Env' → R (List PyData)
  | [], _ => .ok []
  | e :: r, ρ => (ev C e ρ).bind fun x => (evs C r ρ).bind fun l => .ok (x :: l)
end

set_option genInjectivity true in
inductive Fl where
  | next (ρ : Env')
  | ret (d : PyData)

/-- several names at once -/
@[simp] noncomputable def putAll : List Nat → List PyData → Env' → Option Env'
  | [], [], ρ => some ρ
  | x :: xs, d :: ds, ρ => putAll xs ds (ρ.set x (some d))
  | _, _, _ => none

/-- a while, at most so many turns -/
noncomputable def loopW (t : Env' → R PyData) (b : Env' → R Fl) : Nat → Env' → R Fl
  | 0, _ => .stuck
  | n + 1, ρ => (t ρ).bind fun x => (truthy x).bind fun c => match c with
    | true => (b ρ).bind fun f => match f with
      | .next ρ' => loopW t b n ρ'
      | .ret d => .ok (.ret d)
    | false => .ok (.next ρ)
/-- a for over items -/
noncomputable def loopF (set : PyData → Env' → Option Env') (b : Env' → R Fl) : List PyData → Env' → R Fl
  | [], ρ => .ok (.next ρ)
  | d :: r, ρ => (R.ofOpt (set d ρ)).bind fun ρ₁ => (b ρ₁).bind fun f => match f with
    | .next ρ' => loopF set b r ρ'
    | .ret d => .ok (.ret d)

noncomputable def rangeL (lo hi : Int) : List PyData := (List.range (hi - lo).toNat).map fun (i : Nat) => .int (lo + (i : Int))

/-- no raise leaves a loop -/
noncomputable def noExc {α : Type} : R α → R α
  | .exc _ => .stuck
  | x => x

mutual
noncomputable def exec (C : Calls) (N : Nat) : PS → Env' → R Fl
  | .ret e, ρ => (ev C e ρ).bind fun d => .ok (.ret d)
  | .asg x e, ρ => (ev C e ρ).bind fun d => .ok (.next (ρ.set x (some d)))
  | .asgT xs e, ρ => (ev C e ρ).bind fun d => match d with
    | .tuple l => (R.ofOpt (putAll xs l ρ)).bind fun ρ' => .ok (.next ρ')
    | _ => .stuck
  | .ite t b o, ρ => (ev C t ρ).bind fun x => (truthy x).bind fun c => match c with
    | true => execs C N b ρ
    | false => execs C N o ρ
  | .whl t b, ρ => noExc (loopW (fun ρ => ev C t ρ) (fun ρ => execs C N b ρ) N ρ)
  | .forRange x lo hi b, ρ => (ev C lo ρ).bind fun u => (ev C hi ρ).bind fun v => match u, v with
    | .int i, .int j => noExc (loopF (fun d ρ => some (ρ.set x (some d))) (fun ρ => execs C N b ρ) (rangeL i j) ρ)
    | _, _ => .stuck
  | .forTup xs e b, ρ => (ev C e ρ).bind fun u => match u with
    | .tuple l => noExc (loopF (fun d ρ => match d with | .tuple q => putAll xs q ρ | _ => none) (fun ρ => execs C N b ρ) l ρ)
    | _ => .stuck
  | .forZip x y e₁ e₂ b, ρ => (ev C e₁ ρ).bind fun u => (ev C e₂ ρ).bind fun v => match u, v with
    | .str s, .tuple q => noExc (loopF (fun d ρ => match d with | .tuple [a, c] => some ((ρ.set x (some a)).set y (some c)) | _ => none) (fun ρ => execs C N b ρ) ((((sl s).map fun c => dS [c]).zip q).map fun p => .tuple [p.1, p.2]) ρ)
    | _, _ => .stuck
  | .raise, _ => .exc true
  | .tryAsg x e y d, ρ => match ev C e ρ with
    | .ok v => .ok (.next (ρ.set x (some v)))
    | .exc false => (match d with
      | .cst v => .ok (.next (ρ.set y (some v)))
      | .tup [] => .ok (.next (ρ.set y (some (.tuple []))))
      | _ => .stuck)
    | .exc true => .stuck
    | .stuck => .stuck
noncomputable def execs (C : Calls) (N : Nat) : List PS → Env' → R Fl
  | [], ρ => .ok (.next ρ)
  | s :: r, ρ => (exec C N s ρ).bind fun f => match f with
    | .next ρ' => execs C N r ρ'
    | .ret d => .ok (.ret d)
end

structure Fn where
  np : Nat
  nl : Nat
  body : List PS

@[simp] noncomputable def start (f : Fn) (args : List PyData) : Env' := args.map some ++ List.replicate (f.nl - f.np) none

/-- what the caller gets -/
noncomputable def fin : R Fl → R PyData
  | .ok (.ret d) => .ok d
  | .ok (.next _) => .ok .none
  | .exc _ => .exc false
  | .stuck => .stuck
@[simp] theorem fin_ret (d : PyData) : fin (.ok (.ret d)) = .ok d := rfl
@[simp] theorem fin_next (ρ : Env') : fin (.ok (.next ρ)) = .ok .none := rfl
@[simp] theorem fin_exc (b : Bool) : fin (.exc b) = .exc false := rfl

/-- a call of a def, at most so many frames deep, at most N turns a while -/
noncomputable def run (T : List Fn) (N : Nat) : Nat → Nat → List PyData → R PyData
  | 0, _, _ => .stuck
  | n + 1, k, args => match T[k]? with
    | none => .stuck
    | some f => bif args.length == f.np then fin (execs (run T N n) N f.body (start f args)) else .stuck

theorem run_at {T : List Fn} {N n k : Nat} {args : List PyData} {f : Fn} (h : T[k]? = some f) (hl : (args.length == f.np) = true) :
    run T N (n + 1) k args = fin (execs (run T N n) N f.body (start f args)) := by
  rw [run, h]; simp only [hl, cond_true]


section
variable {a b i j : Int} {x y z : Str} {l q : List PyData} {d e : PyData} {p r : Bool}
@[simp] theorem binop_1 : binop .add (.int a) (.int b) = .ok (.int (a + b)) := rfl
@[simp] theorem binop_2 : binop .sub (.int a) (.int b) = .ok (.int (a - b)) := rfl
@[simp] theorem binop_3 : binop .mul (.int a) (.int b) = .when (smallI a || smallI b) (.int (a * b)) := rfl
@[simp] theorem binop_4 : binop .div (.int a) (.int b) = .when (decide (0 < b) && decide (b < 1073741824)) (.int (a / b)) := rfl
@[simp] theorem binop_5 : binop .mod (.int a) (.int b) = .when (decide (0 < b)) (.int (a % b)) := rfl
@[simp] theorem binop_6 : binop .add (.str x) (.str y) = .when (decide ((sl x).length + (sl y).length ≤ limit)) (dS (sl x ++ sl y)) := rfl
@[simp] theorem binop_7 : binop .mul (.str x) (.int a) = .when (decide ((sl x).length ≤ 16) && decide (-1000 ≤ a) && decide (a ≤ 1000)) (dS (List.replicate a.toNat (sl x)).flatten) := rfl
@[simp] theorem binop_8 : binop .add (.tuple l) (.tuple q) = .when (decide (l.length + q.length ≤ 1000)) (.tuple (l ++ q)) := rfl
@[simp] theorem binop_9 : binop .mul (.tuple l) (.int a) = .when (decide (1 ≤ l.length) && decide (l.length ≤ 16) && decide (2 ≤ a) && decide (a ≤ 1000)) (.tuple (List.replicate a.toNat l).flatten) := rfl
@[simp] theorem feq_1 : feq (.int a) (.int b) = some (decide (a = b)) := rfl
@[simp] theorem feq_2 : feq .none .none = some true := rfl
@[simp] theorem feq_3 : feq .none (.int b) = some false := rfl
@[simp] theorem feq_4 : feq (.int b) .none = some false := rfl
@[simp] theorem flat_1 : flat (.int a) = true := rfl
@[simp] theorem flat_2 : flat .none = true := rfl
@[simp] theorem deq_1 : deq (.int a) (.int b) = some (decide (a = b)) := rfl
@[simp] theorem deq_2 : deq (.str x) (.str y) = some (decide (x = y)) := rfl
@[simp] theorem deq_3 : deq (.bool p) (.bool r) = some (decide (p = r)) := rfl
@[simp] theorem deq_4 : deq .none .none = some true := rfl
@[simp] theorem deq_5 : deq .none (.int a) = some false := rfl
@[simp] theorem deq_6 : deq (.int a) .none = some false := rfl
@[simp] theorem deq_9 : deq (.str x) (.tuple l) = bif (sl x).all (fun c => decide (c < 128)) && l.all flat then some false else none := rfl
@[simp] theorem deq_10 : deq (.tuple l) (.str x) = bif (sl x).all (fun c => decide (c < 128)) && l.all flat then some false else none := rfl
@[simp] theorem deq_11 : deq (.tuple l) (.tuple q) = bif l.all flat && q.all flat && decide (l.length ≤ 100) && decide (q.length ≤ 100) then some (feqs l q) else none := rfl
@[simp] theorem cmpop_1 : cmpop .eq d e = (R.ofOpt (deq d e)).bind fun c => .ok (.bool c) := by cases d <;> cases e <;> rfl
@[simp] theorem cmpop_2 : cmpop .ne d e = (R.ofOpt (deq d e)).bind fun c => .ok (.bool !c) := by cases d <;> cases e <;> rfl
@[simp] theorem cmpop_3 : cmpop .lt (.int a) (.int b) = .ok (.bool (decide (a < b))) := rfl
@[simp] theorem cmpop_4 : cmpop .le (.int a) (.int b) = .ok (.bool (decide (a ≤ b))) := rfl
@[simp] theorem cmpop_5 : cmpop .gt (.int a) (.int b) = .ok (.bool (decide (b < a))) := rfl
@[simp] theorem cmpop_6 : cmpop .ge (.int a) (.int b) = .ok (.bool (decide (b ≤ a))) := rfl
@[simp] theorem cmpop_7 : cmpop .lt (.tuple l) (.tuple q) = (R.ofOpt (tlt l q)).bind fun c => .ok (.bool c) := rfl
@[simp] theorem cmpop_8 : cmpop .gt (.tuple l) (.tuple q) = (R.ofOpt (tlt q l)).bind fun c => .ok (.bool c) := rfl
@[simp] theorem cmpop_9 : cmpop .isIn (.str y) (.str x) = .ok (.bool (subAt (sl y) (sl x))) := rfl
@[simp] theorem cmpop_10 : cmpop .notIn (.str y) (.str x) = .ok (.bool !(subAt (sl y) (sl x))) := rfl
@[simp] theorem cmpop_11 : cmpop .isIn (.int a) (.tuple l) = (R.ofOpt (memb (.int a) l)).bind fun c => .ok (.bool c) := rfl
@[simp] theorem cmpop_12 : cmpop .notIn (.int a) (.tuple l) = (R.ofOpt (memb (.int a) l)).bind fun c => .ok (.bool !c) := rfl
@[simp] theorem cmpop_13 : cmpop .isIn (.tuple q) (.tuple l) = (R.ofOpt (memb (.tuple q) l)).bind fun c => .when (!l.isEmpty) (.bool c) := rfl
@[simp] theorem cmpop_14 : cmpop .notIn (.tuple q) (.tuple l) = (R.ofOpt (memb (.tuple q) l)).bind fun c => .when (!l.isEmpty) (.bool !c) := rfl
@[simp] theorem truthy_1 : truthy (.bool p) = .ok p := rfl
@[simp] theorem typeIs_1 : typeIs (.int a) .int = true := rfl
@[simp] theorem typeIs_2 : typeIs (.str x) .str = true := rfl
@[simp] theorem typeIs_3 : typeIs (.tuple l) .tuple = true := rfl
@[simp] theorem typeIs_4 : typeIs (.bool p) .bool = true := rfl
@[simp] theorem typeIs_5 : typeIs (.str x) .int = false := rfl
@[simp] theorem typeIs_6 : typeIs .none .int = false := rfl
@[simp] theorem typeIs_7 : typeIs .none .str = false := rfl
@[simp] theorem typeIs_8 : typeIs (.int a) .str = false := rfl
@[simp] theorem index_1 : index (.tuple l) (.int i) = (R.ofOpt (idxAt i l.length)).bind fun k => R.ofOpt l[k]? := rfl
@[simp] theorem index_2 : index (.list l) (.int i) = (R.ofOpt (bif decide (0 ≤ i) then idxAt i l.length else none)).bind fun k => R.ofOpt l[k]? := rfl
@[simp] theorem index_3 : index (.str x) (.int i) = (R.ofOpt (idxAt i (sl x).length)).bind fun k => (R.ofOpt (sl x)[k]?).bind fun c => .ok (dS [c]) := rfl
@[simp] theorem sliceBy_1 {f : Nat → Nat × Nat} : sliceBy (.str x) f = .ok (dS (cut (sl x) (f (sl x).length).1 (f (sl x).length).2)) := rfl
@[simp] theorem sliceBy_2 {f : Nat → Nat × Nat} : sliceBy (.tuple l) f = .ok (.tuple (cut l (f l.length).1 (f l.length).2)) := rfl
@[simp] theorem app1_1 : app1 .len (.str x) = .ok (.int (sl x).length) := rfl
@[simp] theorem app1_2 : app1 .len (.tuple l) = .ok (.int l.length) := rfl
@[simp] theorem app1_3 : app1 .len (.list l) = .ok (.int l.length) := rfl
@[simp] theorem app1_4 : app1 .str (.int i) = .when (smallI i) (dS (itoa i)) := rfl
@[simp] theorem app1_5 : app1 .int (.str x) = .when (decide (1 ≤ (sl x).length) && decide ((sl x).length ≤ 18) && (sl x).all digit) (.int (digitsVal (sl x))) := rfl
@[simp] theorem app1_6 : app1 .abs (.int i) = .ok (.int (if i < 0 then -i else i)) := rfl
@[simp] theorem app1_7 {c : Nat} : app1 .ord (dS [c]) = .ok (.int c) := rfl
@[simp] theorem app2_1 : app2 .min (.int a) (.int b) = .ok (.int (if b < a then b else a)) := rfl
@[simp] theorem app2_2 : app2 .max (.int a) (.int b) = .ok (.int (if a < b then b else a)) := rfl
@[simp] theorem itemsOf_1 : itemsOf (.tuple l) = some l := rfl
@[simp] theorem itemsOf_2 : itemsOf (.list l) = some l := rfl
@[simp] theorem joinD_1 : joinD (.str x) (.tuple l) = (R.ofOpt (strsOf l)).bind fun q => .when (decide ((joinL (sl x) q).length + (sl x).length ≤ limit) && decide (1 ≤ q.length) && decide (q.length ≤ 100)) (dS (joinL (sl x) q)) := rfl
@[simp] theorem joinD_2 : joinD (.str x) (.list l) = (R.ofOpt (strsOf l)).bind fun q => .when (decide ((joinL (sl x) q).length + (sl x).length ≤ limit) && decide (1 ≤ q.length) && decide (q.length ≤ 100)) (dS (joinL (sl x) q)) := rfl
@[simp] theorem rstripD_1 : rstripD (.str x) (.str y) = .ok (dS (rstripL (sl y) (sl x))) := rfl
@[simp] theorem seqOf_1 : seqOf (.tuple l) = some l := rfl
@[simp] theorem seqOf_2 : seqOf (.list l) = some l := rfl
@[simp] theorem seqOf_3 : seqOf (.str x) = some ((sl x).map fun c => dS [c]) := rfl
@[simp] theorem getL_0 {ρ : Env'} : getL (some d :: ρ) 0 = .ok d := rfl
@[simp] theorem getL_s {ρ : Env'} {o : Option PyData} {n : Nat} : getL (o :: ρ) (n + 1) = getL ρ n := rfl
end

theorem execs_nil {C : Calls} {N : Nat} {ρ : Env'} : execs C N [] ρ = .ok (.next ρ) := rfl
theorem execs_step {C : Calls} {N : Nat} {s : PS} {r : List PS} {ρ ρ' : Env'} (h : exec C N s ρ = .ok (.next ρ')) : execs C N (s :: r) ρ = execs C N r ρ' := by
  rw [execs, h]; rfl
theorem execs_ret {C : Calls} {N : Nat} {s : PS} {r : List PS} {ρ : Env'} {d : PyData} (h : exec C N s ρ = .ok (.ret d)) : execs C N (s :: r) ρ = .ok (.ret d) := by
  rw [execs, h]; rfl
theorem execs_exc {C : Calls} {N : Nat} {s : PS} {r : List PS} {ρ : Env'} {b : Bool} (h : exec C N s ρ = .exc b) : execs C N (s :: r) ρ = .exc b := by
  rw [execs, h]; rfl
theorem exec_if_true {C : Calls} {N : Nat} {t : PE} {b o : List PS} {ρ : Env'} (h : ev C t ρ = .ok (.bool true)) : exec C N (.ite t b o) ρ = execs C N b ρ := by
  rw [exec, h]; rfl
theorem exec_if_false {C : Calls} {N : Nat} {t : PE} {b o : List PS} {ρ : Env'} (h : ev C t ρ = .ok (.bool false)) : exec C N (.ite t b o) ρ = execs C N o ρ := by
  rw [exec, h]; rfl
/-- an if that goes on, or not: its test decided -/
theorem execs_if {C : Calls} {N : Nat} {t : PE} {b o r : List PS} {ρ : Env'} {c : Bool} (h : ev C t ρ = .ok (.bool c)) :
    execs C N (.ite t b o :: r) ρ = bif c then execs C N (b ++ r) ρ else execs C N (o ++ r) ρ := by
  have app : ∀ (b : List PS) (ρ : Env'), execs C N (b ++ r) ρ = (execs C N b ρ).bind fun f => match f with
      | .next ρ' => execs C N r ρ'
      | .ret d => .ok (.ret d) := by
    intro b
    induction b with
    | nil => intro ρ; rfl
    | cons s b ih =>
      intro ρ
      rw [List.cons_append, execs, execs]
      cases exec C N s ρ with
      | ok f => cases f with
        | next ρ' => simp only [R.bind_ok]; exact ih ρ'
        | ret d => rfl
      | exc b => rfl
      | stuck => rfl
  rw [execs]
  cases c with
  | true => rw [exec_if_true h, cond_true, app]
  | false => rw [exec_if_false h, cond_false, app]
section
variable {C : Calls} {ρ : Env'} {e f g : PE} {a b c : Int} {P Q : Prop} [Decidable P] [Decidable Q]
theorem ev_chainLe (h1 : ev C e ρ = .ok (.int a)) (h2 : ev C f ρ = .ok (.int b)) (h3 : ev C g ρ = .ok (.int c)) : ev C (.chain .le .le e f g) ρ = .ok (.bool (decide (a ≤ b ∧ b ≤ c))) := by
  rw [ev, h1, h2, R.bind_ok, R.bind_ok]
  by_cases q : a ≤ b <;> simp [q, h3]
theorem ev_chainLt (h1 : ev C e ρ = .ok (.int a)) (h2 : ev C f ρ = .ok (.int b)) (h3 : ev C g ρ = .ok (.int c)) : ev C (.chain .le .lt e f g) ρ = .ok (.bool (decide (a ≤ b ∧ b < c))) := by
  rw [ev, h1, h2, R.bind_ok, R.bind_ok]
  by_cases q : a ≤ b <;> simp [q, h3]
theorem ev_not (h : ev C e ρ = .ok (.bool (decide P))) : ev C (.not e) ρ = .ok (.bool (decide (¬ P))) := by
  rw [ev, h]; simp
theorem ev_and (h1 : ev C e ρ = .ok (.bool (decide P))) (h2 : P → ev C f ρ = .ok (.bool (decide Q))) : ev C (.and e f) ρ = .ok (.bool (decide (P ∧ Q))) := by
  rw [ev, h1, R.bind_ok]
  by_cases q : P
  · simp [q, h2 q]
  · simp [q]
theorem ev_or (h1 : ev C e ρ = .ok (.bool (decide P))) (h2 : ¬ P → ev C f ρ = .ok (.bool (decide Q))) : ev C (.or e f) ρ = .ok (.bool (decide (P ∨ Q))) := by
  rw [ev, h1, R.bind_ok]
  by_cases q : P
  · simp [q]
  · simp [q, h2 q]
end
theorem execs_ifP {C : Calls} {N : Nat} {t : PE} {b o r : List PS} {ρ : Env'} {c : Prop} [Decidable c] (hc : c) (h : ev C t ρ = .ok (.bool (decide c))) :
    execs C N (.ite t b o :: r) ρ = execs C N (b ++ r) ρ := by rw [execs_if h, decide_eq_true hc]; rfl
theorem execs_ifN {C : Calls} {N : Nat} {t : PE} {b o r : List PS} {ρ : Env'} {c : Prop} [Decidable c] (hc : ¬ c) (h : ev C t ρ = .ok (.bool (decide c))) :
    execs C N (.ite t b o :: r) ρ = execs C N (o ++ r) ρ := by rw [execs_if h, decide_eq_false hc]; rfl
theorem loopW_true {t : Env' → R PyData} {b : Env' → R Fl} {n : Nat} {ρ ρ' : Env'} (h1 : t ρ = .ok (.bool true)) (h2 : b ρ = .ok (.next ρ')) : loopW t b (n + 1) ρ = loopW t b n ρ' := by
  rw [loopW, h1]; simp [h2]
theorem loopW_false {t : Env' → R PyData} {b : Env' → R Fl} {n : Nat} {ρ : Env'} (h1 : t ρ = .ok (.bool false)) : loopW t b (n + 1) ρ = .ok (.next ρ) := by
  rw [loopW, h1]; simp
theorem loopW_ret {t : Env' → R PyData} {b : Env' → R Fl} {n : Nat} {ρ : Env'} {d : PyData} (h1 : t ρ = .ok (.bool true)) (h2 : b ρ = .ok (.ret d)) : loopW t b (n + 1) ρ = .ok (.ret d) := by
  rw [loopW, h1]; simp [h2]

end Mine

namespace Mine
open PySem
/-- 0 _is_long(year);  -/
noncomputable def p_is_long : Fn := ⟨1, 1, [
  (.ret (.and (.cmp .eq (.bin .mod (.loc 0) (.cst (.int 4))) (.cst (.int 0))) (.or (.cmp .ne (.bin .mod (.loc 0) (.cst (.int 100))) (.cst (.int 0))) (.cmp .eq (.bin .mod (.loc 0) (.cst (.int 400))) (.cst (.int 0))))))]⟩
/-- 1 _days_ahead_of_year(year);  -/
noncomputable def p_days_ahead_of_year : Fn := ⟨1, 1, [
  (.ret (.bin .add (.bin .sub (.bin .add (.bin .mul (.cst (.int 365)) (.loc 0)) (.bin .div (.bin .add (.loc 0) (.cst (.int 3))) (.cst (.int 4)))) (.bin .div (.bin .add (.loc 0) (.cst (.int 99))) (.cst (.int 100)))) (.bin .div (.bin .add (.loc 0) (.cst (.int 399))) (.cst (.int 400)))))]⟩
/-- 2 _days_ahead_of_month(year, month);  -/
noncomputable def p_days_ahead_of_month : Fn := ⟨2, 2, [
  (.ite (.and (.cmp .gt (.loc 1) (.cst (.int 2))) (.call 0 [(.loc 0)])) [(.ret (.bin .add (.idx (.cst (.list [(.int 0), (.int 31), (.int 59), (.int 90), (.int 120), (.int 151), (.int 181), (.int 212), (.int 243), (.int 273), (.int 304), (.int 334)])) (.bin .sub (.loc 1) (.cst (.int 1)))) (.cst (.int 1))))] []),
  (.ret (.idx (.cst (.list [(.int 0), (.int 31), (.int 59), (.int 90), (.int 120), (.int 151), (.int 181), (.int 212), (.int 243), (.int 273), (.int 304), (.int 334)])) (.bin .sub (.loc 1) (.cst (.int 1)))))]⟩
/-- 3 days_from_civil(year, month, day);  -/
noncomputable def p_days_from_civil : Fn := ⟨3, 3, [
  (.ret (.bin .sub (.bin .add (.bin .add (.call 1 [(.loc 0)]) (.call 2 [(.loc 0), (.loc 1)])) (.loc 2)) (.cst (.int 1))))]⟩
/-- 4 civil_from_days(days); year, rest, month -/
noncomputable def p_civil_from_days : Fn := ⟨1, 4, [
  (.asg 1 (.bin .div (.bin .mul (.loc 0) (.cst (.int 400))) (.cst (.int 146097)))),
  (.ite (.cmp .gt (.call 1 [(.loc 1)]) (.loc 0)) [(.asg 1 (.bin .sub (.loc 1) (.cst (.int 1))))] [(.ite (.cmp .le (.call 1 [(.bin .add (.loc 1) (.cst (.int 1)))]) (.loc 0)) [(.asg 1 (.bin .add (.loc 1) (.cst (.int 1))))] [])]),
  (.asg 2 (.bin .sub (.loc 0) (.call 1 [(.loc 1)]))),
  (.asg 3 (.cst (.int 12))),
  (.whl (.cmp .gt (.call 2 [(.loc 1), (.loc 3)]) (.loc 2)) [(.asg 3 (.bin .sub (.loc 3) (.cst (.int 1))))]),
  (.ret (.tup [(.loc 1), (.loc 3), (.bin .add (.bin .sub (.loc 2) (.call 2 [(.loc 1), (.loc 3)])) (.cst (.int 1)))]))]⟩
/-- 5 _instant(stamp); offset, days, t -/
noncomputable def p_instant : Fn := ⟨1, 4, [
  (.asg 1 (.idx (.loc 0) (.cst (.int 7)))),
  (.ite (.isNone (.loc 1)) [(.asg 1 (.cst (.int 0)))] []),
  (.asg 2 (.call 3 [(.idx (.loc 0) (.cst (.int 0))), (.idx (.loc 0) (.cst (.int 1))), (.idx (.loc 0) (.cst (.int 2)))])),
  (.asg 3 (.bin .sub (.bin .add (.bin .mul (.bin .add (.bin .mul (.loc 2) (.cst (.int 24))) (.idx (.loc 0) (.cst (.int 3)))) (.cst (.int 60))) (.idx (.loc 0) (.cst (.int 4)))) (.loc 1))),
  (.ret (.tup [(.bin .div (.loc 3) (.cst (.int 1440))), (.bin .add (.bin .mul (.bin .mod (.loc 3) (.cst (.int 1440))) (.cst (.int 60))) (.idx (.loc 0) (.cst (.int 5)))), (.idx (.loc 0) (.cst (.int 6)))]))]⟩
/-- 6 _is_leap(year);  -/
noncomputable def p_is_leap : Fn := ⟨1, 1, [
  (.ite (.cmp .ne (.bin .mod (.loc 0) (.cst (.int 4))) (.cst (.int 0))) [(.ret (.cst (.bool false)))] []),
  (.ite (.cmp .ne (.bin .mod (.loc 0) (.cst (.int 100))) (.cst (.int 0))) [(.ret (.cst (.bool true)))] []),
  (.ret (.cmp .eq (.bin .mod (.loc 0) (.cst (.int 400))) (.cst (.int 0))))]⟩
/-- 7 _month_length(year, month); lengths -/
noncomputable def p_month_length : Fn := ⟨2, 3, [
  (.asg 2 (.lst [(.cst (.int 31)), (.cst (.int 28)), (.cst (.int 31)), (.cst (.int 30)), (.cst (.int 31)), (.cst (.int 30)), (.cst (.int 31)), (.cst (.int 31)), (.cst (.int 30)), (.cst (.int 31)), (.cst (.int 30)), (.cst (.int 31))])),
  (.ite (.and (.cmp .eq (.loc 1) (.cst (.int 2))) (.call 6 [(.loc 0)])) [(.ret (.cst (.int 29)))] []),
  (.ret (.idx (.loc 2) (.bin .sub (.loc 1) (.cst (.int 1)))))]⟩
/-- 8 is_valid(stamp); y, mo, d, h, mi, se, ns, off, inst, day, sec, date -/
noncomputable def p_is_valid : Fn := ⟨1, 13, [
  (.asgT [1, 2, 3, 4, 5, 6, 7, 8] (.loc 0)),
  (.ite (.not (.chain .le .le (.cst (.int 0)) (.loc 1) (.cst (.int 9999)))) [(.ret (.cst (.bool false)))] []),
  (.ite (.not (.chain .le .le (.cst (.int 1)) (.loc 2) (.cst (.int 12)))) [(.ret (.cst (.bool false)))] []),
  (.ite (.not (.chain .le .le (.cst (.int 1)) (.loc 3) (.call 7 [(.loc 1), (.loc 2)]))) [(.ret (.cst (.bool false)))] []),
  (.ite (.not (.chain .le .le (.cst (.int 0)) (.loc 4) (.cst (.int 23)))) [(.ret (.cst (.bool false)))] []),
  (.ite (.not (.chain .le .le (.cst (.int 0)) (.loc 5) (.cst (.int 59)))) [(.ret (.cst (.bool false)))] []),
  (.ite (.not (.chain .le .le (.cst (.int 0)) (.loc 7) (.cst (.int 999999999)))) [(.ret (.cst (.bool false)))] []),
  (.ite (.isNotNone (.loc 8)) [(.ite (.not (.chain .le .le (.neg (.cst (.int 1439))) (.loc 8) (.cst (.int 1439)))) [(.ret (.cst (.bool false)))] [])] []),
  (.ite (.chain .le .le (.cst (.int 0)) (.loc 6) (.cst (.int 59))) [(.ret (.cst (.bool true)))] []),
  (.ite (.cmp .ne (.loc 6) (.cst (.int 60))) [(.ret (.cst (.bool false)))] []),
  (.asg 9 (.call 5 [(.tup [(.loc 1), (.loc 2), (.loc 3), (.loc 4), (.loc 5), (.cst (.int 59)), (.loc 7), (.loc 8)])])),
  (.asg 10 (.idx (.loc 9) (.cst (.int 0)))),
  (.asg 11 (.idx (.loc 9) (.cst (.int 1)))),
  (.ite (.cmp .ne (.loc 11) (.cst (.int 86399))) [(.ret (.cst (.bool false)))] []),
  (.ite (.not (.chain .le .lt (.cst (.int 0)) (.loc 10) (.cst (.int 3652425)))) [(.ret (.cst (.bool false)))] []),
  (.asg 12 (.call 4 [(.loc 10)])),
  (.ite (.and (.cmp .eq (.idx (.loc 12) (.cst (.int 1))) (.cst (.int 6))) (.cmp .eq (.idx (.loc 12) (.cst (.int 2))) (.cst (.int 30)))) [(.ret (.cst (.bool true)))] []),
  (.ite (.and (.cmp .eq (.idx (.loc 12) (.cst (.int 1))) (.cst (.int 12))) (.cmp .eq (.idx (.loc 12) (.cst (.int 2))) (.cst (.int 31)))) [(.ret (.cst (.bool true)))] []),
  (.ret (.cst (.bool false)))]⟩
/-- 9 _digits(text, start, end); value, k, c -/
noncomputable def p_digits : Fn := ⟨3, 6, [
  (.asg 3 (.cst (.int 0))),
  (.asg 4 (.loc 1)),
  (.whl (.cmp .lt (.loc 4) (.loc 2)) [(.asg 5 (.idx (.loc 0) (.loc 4))), (.ite (.cmp .notIn (.loc 5) (.cst (.str (PySem.Str.mk #[48, 49, 50, 51, 52, 53, 54, 55, 56, 57])))) [(.ret (.neg (.cst (.int 1))))] []), (.asg 3 (.bin .add (.bin .mul (.loc 3) (.cst (.int 10))) (.bin .sub (.b1 .ord (.loc 5)) (.cst (.int 48))))), (.asg 4 (.bin .add (.loc 4) (.cst (.int 1))))]),
  (.ret (.loc 3))]⟩
/-- 10 parse(text); n, year, month, day, hour, minute, second, pos, nanos, j, count, k, c, offset, oh, om, stamp -/
noncomputable def p_parse : Fn := ⟨1, 18, [
  (.asg 1 (.b1 .len (.loc 0))),
  (.ite (.cmp .lt (.loc 1) (.cst (.int 20))) [.raise] []),
  (.asg 2 (.call 9 [(.loc 0), (.cst (.int 0)), (.cst (.int 4))])),
  (.asg 3 (.call 9 [(.loc 0), (.cst (.int 5)), (.cst (.int 7))])),
  (.asg 4 (.call 9 [(.loc 0), (.cst (.int 8)), (.cst (.int 10))])),
  (.asg 5 (.call 9 [(.loc 0), (.cst (.int 11)), (.cst (.int 13))])),
  (.asg 6 (.call 9 [(.loc 0), (.cst (.int 14)), (.cst (.int 16))])),
  (.asg 7 (.call 9 [(.loc 0), (.cst (.int 17)), (.cst (.int 19))])),
  (.ite (.or (.cmp .lt (.loc 2) (.cst (.int 0))) (.or (.cmp .lt (.loc 3) (.cst (.int 0))) (.cmp .lt (.loc 4) (.cst (.int 0))))) [.raise] []),
  (.ite (.or (.cmp .lt (.loc 5) (.cst (.int 0))) (.or (.cmp .lt (.loc 6) (.cst (.int 0))) (.cmp .lt (.loc 7) (.cst (.int 0))))) [.raise] []),
  (.ite (.or (.cmp .ne (.idx (.loc 0) (.cst (.int 4))) (.cst (.str (PySem.Str.mk #[45])))) (.cmp .ne (.idx (.loc 0) (.cst (.int 7))) (.cst (.str (PySem.Str.mk #[45]))))) [.raise] []),
  (.ite (.and (.cmp .ne (.idx (.loc 0) (.cst (.int 10))) (.cst (.str (PySem.Str.mk #[84])))) (.cmp .ne (.idx (.loc 0) (.cst (.int 10))) (.cst (.str (PySem.Str.mk #[116]))))) [.raise] []),
  (.ite (.or (.cmp .ne (.idx (.loc 0) (.cst (.int 13))) (.cst (.str (PySem.Str.mk #[58])))) (.cmp .ne (.idx (.loc 0) (.cst (.int 16))) (.cst (.str (PySem.Str.mk #[58]))))) [.raise] []),
  (.asg 8 (.cst (.int 19))),
  (.asg 9 (.cst (.int 0))),
  (.ite (.cmp .eq (.idx (.loc 0) (.loc 8)) (.cst (.str (PySem.Str.mk #[46])))) [(.asg 10 (.bin .add (.loc 8) (.cst (.int 1)))), (.whl (.and (.cmp .lt (.loc 10) (.loc 1)) (.cmp .isIn (.idx (.loc 0) (.loc 10)) (.cst (.str (PySem.Str.mk #[48, 49, 50, 51, 52, 53, 54, 55, 56, 57]))))) [(.asg 10 (.bin .add (.loc 10) (.cst (.int 1))))]), (.asg 11 (.bin .sub (.bin .sub (.loc 10) (.loc 8)) (.cst (.int 1)))), (.ite (.or (.cmp .lt (.loc 11) (.cst (.int 1))) (.cmp .gt (.loc 11) (.cst (.int 9)))) [.raise] []), (.asg 9 (.call 9 [(.loc 0), (.bin .add (.loc 8) (.cst (.int 1))), (.loc 10)])), (.asg 12 (.loc 11)), (.whl (.cmp .lt (.loc 12) (.cst (.int 9))) [(.asg 9 (.bin .mul (.loc 9) (.cst (.int 10)))), (.asg 12 (.bin .add (.loc 12) (.cst (.int 1))))]), (.asg 8 (.loc 10))] []),
  (.ite (.cmp .ge (.loc 8) (.loc 1)) [.raise] []),
  (.asg 13 (.idx (.loc 0) (.loc 8))),
  (.ite (.or (.cmp .eq (.loc 13) (.cst (.str (PySem.Str.mk #[90])))) (.cmp .eq (.loc 13) (.cst (.str (PySem.Str.mk #[122]))))) [(.ite (.cmp .ne (.bin .add (.loc 8) (.cst (.int 1))) (.loc 1)) [.raise] []), (.asg 14 (.cst (.int 0)))] [(.ite (.or (.cmp .eq (.loc 13) (.cst (.str (PySem.Str.mk #[43])))) (.cmp .eq (.loc 13) (.cst (.str (PySem.Str.mk #[45]))))) [(.ite (.cmp .ne (.bin .add (.loc 8) (.cst (.int 6))) (.loc 1)) [.raise] []), (.asg 15 (.call 9 [(.loc 0), (.bin .add (.loc 8) (.cst (.int 1))), (.bin .add (.loc 8) (.cst (.int 3)))])), (.asg 16 (.call 9 [(.loc 0), (.bin .add (.loc 8) (.cst (.int 4))), (.bin .add (.loc 8) (.cst (.int 6)))])), (.ite (.or (.cmp .lt (.loc 15) (.cst (.int 0))) (.or (.cmp .lt (.loc 16) (.cst (.int 0))) (.cmp .ne (.idx (.loc 0) (.bin .add (.loc 8) (.cst (.int 3)))) (.cst (.str (PySem.Str.mk #[58])))))) [.raise] []), (.ite (.or (.cmp .gt (.loc 15) (.cst (.int 23))) (.cmp .gt (.loc 16) (.cst (.int 59)))) [.raise] []), (.asg 14 (.bin .add (.bin .mul (.loc 15) (.cst (.int 60))) (.loc 16))), (.ite (.cmp .eq (.loc 13) (.cst (.str (PySem.Str.mk #[45])))) [(.asg 14 (.neg (.loc 14))), (.ite (.cmp .eq (.loc 14) (.cst (.int 0))) [(.asg 14 (.cst .none))] [])] [])] [.raise])]),
  (.asg 17 (.tup [(.loc 2), (.loc 3), (.loc 4), (.loc 5), (.loc 6), (.loc 7), (.loc 9), (.loc 14)])),
  (.ite (.not (.call 8 [(.loc 17)])) [.raise] []),
  (.ret (.loc 17))]⟩
/-- 11 _pad(value, width); s -/
noncomputable def p_pad : Fn := ⟨2, 3, [
  (.asg 2 (.b1 .str (.loc 0))),
  (.whl (.cmp .lt (.b1 .len (.loc 2)) (.loc 1)) [(.asg 2 (.bin .add (.cst (.str (PySem.Str.mk #[48]))) (.loc 2)))]),
  (.ret (.loc 2))]⟩
/-- 12 format_stamp(stamp); text, nanos, frac, end, offset, sign, size -/
noncomputable def p_format_stamp : Fn := ⟨1, 8, [
  (.ite (.not (.call 8 [(.loc 0)])) [.raise] []),
  (.asg 1 (.bin .add (.bin .add (.bin .add (.bin .add (.call 11 [(.idx (.loc 0) (.cst (.int 0))), (.cst (.int 4))]) (.cst (.str (PySem.Str.mk #[45])))) (.call 11 [(.idx (.loc 0) (.cst (.int 1))), (.cst (.int 2))])) (.cst (.str (PySem.Str.mk #[45])))) (.call 11 [(.idx (.loc 0) (.cst (.int 2))), (.cst (.int 2))]))),
  (.asg 1 (.bin .add (.bin .add (.bin .add (.bin .add (.bin .add (.bin .add (.loc 1) (.cst (.str (PySem.Str.mk #[84])))) (.call 11 [(.idx (.loc 0) (.cst (.int 3))), (.cst (.int 2))])) (.cst (.str (PySem.Str.mk #[58])))) (.call 11 [(.idx (.loc 0) (.cst (.int 4))), (.cst (.int 2))])) (.cst (.str (PySem.Str.mk #[58])))) (.call 11 [(.idx (.loc 0) (.cst (.int 5))), (.cst (.int 2))]))),
  (.asg 2 (.idx (.loc 0) (.cst (.int 6)))),
  (.ite (.cmp .ne (.loc 2) (.cst (.int 0))) [(.asg 3 (.call 11 [(.loc 2), (.cst (.int 9))])), (.asg 4 (.b1 .len (.loc 3))), (.whl (.and (.cmp .gt (.loc 4) (.cst (.int 0))) (.cmp .eq (.idx (.loc 3) (.bin .sub (.loc 4) (.cst (.int 1)))) (.cst (.str (PySem.Str.mk #[48]))))) [(.asg 4 (.bin .sub (.loc 4) (.cst (.int 1))))]), (.asg 1 (.bin .add (.bin .add (.loc 1) (.cst (.str (PySem.Str.mk #[46])))) (.slice (.loc 3) (.cst (.int 0)) (.loc 4))))] []),
  (.asg 5 (.idx (.loc 0) (.cst (.int 7)))),
  (.ite (.isNone (.loc 5)) [(.ret (.bin .add (.loc 1) (.cst (.str (PySem.Str.mk #[45, 48, 48, 58, 48, 48])))))] []),
  (.ite (.cmp .eq (.loc 5) (.cst (.int 0))) [(.ret (.bin .add (.loc 1) (.cst (.str (PySem.Str.mk #[90])))))] []),
  (.ite (.cmp .lt (.loc 5) (.cst (.int 0))) [(.asg 6 (.cst (.str (PySem.Str.mk #[45])))), (.asg 7 (.neg (.loc 5)))] [(.asg 6 (.cst (.str (PySem.Str.mk #[43])))), (.asg 7 (.loc 5))]),
  (.ret (.bin .add (.bin .add (.bin .add (.bin .add (.loc 1) (.loc 6)) (.call 11 [(.bin .div (.loc 7) (.cst (.int 60))), (.cst (.int 2))])) (.cst (.str (PySem.Str.mk #[58])))) (.call 11 [(.bin .mod (.loc 7) (.cst (.int 60))), (.cst (.int 2))])))]⟩
/-- 13 to_instant(stamp);  -/
noncomputable def p_to_instant : Fn := ⟨1, 1, [
  (.ret (.call 5 [(.loc 0)]))]⟩
/-- 14 from_instant(instant, offset); d, s, n, minute_of_day, shift, t, second, date, rest, result -/
noncomputable def p_from_instant : Fn := ⟨2, 12, [
  (.asgT [2, 3, 4] (.loc 0)),
  (.ite (.cmp .ne (.loc 3) (.cst (.int 86400))) [(.asg 5 (.bin .div (.loc 3) (.cst (.int 60))))] [(.asg 5 (.cst (.int 1439)))]),
  (.asg 6 (.loc 1)),
  (.ite (.isNone (.loc 6)) [(.asg 6 (.cst (.int 0)))] []),
  (.asg 7 (.bin .add (.bin .add (.bin .mul (.loc 2) (.cst (.int 1440))) (.loc 5)) (.loc 6))),
  (.ite (.not (.chain .le .lt (.cst (.int 0)) (.loc 7) (.bin .mul (.cst (.int 3652425)) (.cst (.int 1440))))) [.raise] []),
  (.ite (.not (.chain .le .le (.cst (.int 0)) (.loc 3) (.cst (.int 86400)))) [.raise] []),
  (.ite (.cmp .eq (.loc 3) (.cst (.int 86400))) [(.asg 8 (.cst (.int 60)))] [(.asg 8 (.bin .mod (.loc 3) (.cst (.int 60))))]),
  (.asg 9 (.call 4 [(.bin .div (.loc 7) (.cst (.int 1440)))])),
  (.asg 10 (.bin .mod (.loc 7) (.cst (.int 1440)))),
  (.asg 11 (.tup [(.idx (.loc 9) (.cst (.int 0))), (.idx (.loc 9) (.cst (.int 1))), (.idx (.loc 9) (.cst (.int 2))), (.bin .div (.loc 10) (.cst (.int 60))), (.bin .mod (.loc 10) (.cst (.int 60))), (.loc 8), (.loc 4), (.loc 1)])),
  (.ite (.not (.call 8 [(.loc 11)])) [.raise] []),
  (.ret (.loc 11))]⟩
/-- 15 compare(a, b); x, y -/
noncomputable def p_compare : Fn := ⟨2, 4, [
  (.asg 2 (.call 5 [(.loc 0)])),
  (.asg 3 (.call 5 [(.loc 1)])),
  (.ite (.cmp .lt (.loc 2) (.loc 3)) [(.ret (.neg (.cst (.int 1))))] []),
  (.ite (.cmp .gt (.loc 2) (.loc 3)) [(.ret (.cst (.int 1)))] []),
  (.ret (.cst (.int 0)))]⟩
noncomputable def p_T : List Fn := [p_is_long, p_days_ahead_of_year, p_days_ahead_of_month, p_days_from_civil, p_civil_from_days, p_instant, p_is_leap, p_month_length, p_is_valid, p_digits, p_parse, p_pad, p_format_stamp, p_to_instant, p_from_instant]
end Mine

namespace Mine
open PySem
/-- the table begins with the project's defs -/
structure IsT (T : List Fn) : Prop where
  at_ : ∀ (k : Nat) (f : Fn), p_T[k]? = some f → T[k]? = some f

noncomputable def leapB (y : Int) : Bool := decide (y % 4 = 0 ∧ (y % 100 ≠ 0 ∨ y % 400 = 0))

theorem run_is_leap {T : List Fn} (hT : IsT T) {N n : Nat} (hn : 1 ≤ n) (y : Int) : run T N n 6 [.int y] = .ok (.bool (leapB y)) := by
  obtain ⟨m, rfl⟩ := Nat.exists_eq_add_of_le' hn
  rw [run_at (hT.at_ 6 p_is_leap rfl) rfl]
  first | rfl | simp [execs, exec, p_is_leap, leapB]
  by_cases h1 : y % 4 = 0 <;> (first | rfl | simp [h1])
  by_cases h2 : y % 100 = 0 <;> (first | rfl | simp [h2])
theorem run_is_long {T : List Fn} (hT : IsT T) {N n : Nat} (hn : 1 ≤ n) (y : Int) : run T N n 0 [.int y] = .ok (.bool (leapB y)) := by
  obtain ⟨m, rfl⟩ := Nat.exists_eq_add_of_le' hn
  rw [run_at (hT.at_ 0 p_is_long rfl) rfl]
  first | rfl | simp [execs, exec, p_is_long, leapB]
  by_cases h1 : y % 4 = 0 <;> (first | rfl | simp [h1])
  by_cases h2 : y % 100 = 0 <;> (first | rfl | simp [h2])

noncomputable def dY (y : Int) : Int := 365 * y + (y + 3) / 4 - (y + 99) / 100 + (y + 399) / 400
theorem run_dY {T : List Fn} (hT : IsT T) {N n : Nat} (hn : 1 ≤ n) (y : Int) : run T N n 1 [.int y] = .ok (.int (dY y)) := by
  obtain ⟨m, rfl⟩ := Nat.exists_eq_add_of_le' hn
  rw [run_at (hT.at_ 1 p_days_ahead_of_year rfl) rfl]
  first | rfl | simp [execs, exec, p_days_ahead_of_year, dY, smallI]

/-- the days of a common year ahead of a month -/
noncomputable def aheadC (m : Int) : Int := if m ≤ 1 then 0 else if m = 2 then 31 else if m = 3 then 59 else if m = 4 then 90 else if m = 5 then 120 else if m = 6 then 151 else if m = 7 then 181 else if m = 8 then 212
  else if m = 9 then 243 else if m = 10 then 273 else if m = 11 then 304 else 334
noncomputable def dM (y m : Int) : Int := aheadC m + if 2 < m ∧ leapB y = true then 1 else 0

theorem twelve {m : Int} (h1 : 1 ≤ m) (h2 : m ≤ 12) : m = 1 ∨ m = 2 ∨ m = 3 ∨ m = 4 ∨ m = 5 ∨ m = 6 ∨ m = 7 ∨ m = 8 ∨ m = 9 ∨ m = 10 ∨ m = 11 ∨ m = 12 := by first | assumption | rfl | exact Nat.le_add_left _ _ | decide | lia

theorem run_dM {T : List Fn} (hT : IsT T) {N n : Nat} (hn : 2 ≤ n) (y m : Int) (h1 : 1 ≤ m) (h2 : m ≤ 12) : run T N n 2 [.int y, .int m] = .ok (.int (dM y m)) := by
  obtain ⟨k, rfl⟩ := Nat.exists_eq_add_of_le' hn
  rw [run_at (hT.at_ 2 p_days_ahead_of_month rfl) rfl]
  have hl : ev (run T N (k + 1)) (.call 0 [(.loc 0)]) [some (.int y), some (.int m)] = .ok (.bool (leapB y)) := run_is_long hT (Nat.le_add_left 1 k) y
  have key : ∀ b, ev (run T N (k + 1)) (.call 0 [(.loc 0)]) [some (.int y), some (.int m)] = .ok (.bool b) →
      fin (execs (run T N (k + 1)) N p_days_ahead_of_month.body [some (.int y), some (.int m)]) = .ok (.int (aheadC m + if 2 < m ∧ b = true then 1 else 0)) := by
    intro b hb
    unfold p_days_ahead_of_month
    rw [execs_if (c := decide (2 < m) && b)]
    · rcases twelve h1 h2 with h | h | h | h | h | h | h | h | h | h | h | h <;> subst h <;> cases b <;> rfl
    · change ((cmpop .gt (.int m) (.int 2)).bind _) = _
      rw [cmpop_5]
      cases decide (2 < m)
      · rfl
      · exact hb
  exact key _ hl

noncomputable def dFC (y m d : Int) : Int := dY y + dM y m + d - 1
theorem run_dFC {T : List Fn} (hT : IsT T) {N n : Nat} (hn : 3 ≤ n) (y m d : Int) (h1 : 1 ≤ m) (h2 : m ≤ 12) : run T N n 3 [.int y, .int m, .int d] = .ok (.int (dFC y m d)) := by
  obtain ⟨k, rfl⟩ := Nat.exists_eq_add_of_le' hn
  rw [run_at (hT.at_ 3 p_days_from_civil rfl) rfl]
  first | rfl | simp [execs, exec, p_days_from_civil, run_dY hT, run_dM hT, h1, h2, dFC]

noncomputable def mLen (y m : Int) : Int := if m = 2 then (if leapB y = true then 29 else 28) else if m = 4 ∨ m = 6 ∨ m = 9 ∨ m = 11 then 30 else 31
theorem run_mLen {T : List Fn} (hT : IsT T) {N n : Nat} (hn : 2 ≤ n) (y m : Int) (h1 : 1 ≤ m) (h2 : m ≤ 12) : run T N n 7 [.int y, .int m] = .ok (.int (mLen y m)) := by
  obtain ⟨k, rfl⟩ := Nat.exists_eq_add_of_le' hn
  rw [run_at (hT.at_ 7 p_month_length rfl) rfl]
  unfold mLen
  have hl : run T N (k + 1) 6 [.int y] = .ok (.bool (leapB y)) := run_is_leap hT (Nat.le_add_left 1 k) y
  generalize leapB y = b at hl
  unfold p_month_length
  rw [execs_step rfl, execs_if (c := decide (m = 2) && b)]
  · rcases twelve h1 h2 with h | h | h | h | h | h | h | h | h | h | h | h <;> subst h <;> cases b <;> rfl
  · change ((cmpop .eq (.int m) (.int 2)).bind _) = _
    rw [show cmpop .eq (.int m) (.int 2) = .ok (.bool (decide (m = 2))) from rfl]
    cases decide (m = 2)
    · rfl
    · exact hl

end Mine

namespace Mine
open PySem

theorem leapB_iff (y : Int) : leapB y = true ↔ (y % 4 = 0 ∧ (y % 100 ≠ 0 ∨ y % 400 = 0)) := by first | rfl | simp [leapB]
theorem up4 (y : Int) : (y + 1 + 3) / 4 = (y + 3) / 4 + if y % 4 = 0 then 1 else 0 := by split <;> lia
theorem up100 (y : Int) : (y + 1 + 99) / 100 = (y + 99) / 100 + if y % 100 = 0 then 1 else 0 := by split <;> lia
theorem up400 (y : Int) : (y + 1 + 399) / 400 = (y + 399) / 400 + if y % 400 = 0 then 1 else 0 := by split <;> lia
theorem of100 {y : Int} (h : y % 100 = 0) : y % 4 = 0 := by first | assumption | rfl | exact Nat.le_add_left _ _ | decide | lia
theorem of400 {y : Int} (h : y % 400 = 0) : y % 100 = 0 := by first | assumption | rfl | exact Nat.le_add_left _ _ | decide | lia
theorem addUp (y a b c i j k : Int) : 365 * (y + 1) + (a + i) - (b + j) + (c + k) = 365 * y + a - b + c + 365 + (i - j + k) := by first | assumption | rfl | exact Nat.le_add_left _ _ | decide | lia
theorem dY_succ (y : Int) : dY (y + 1) = dY y + 365 + if leapB y = true then 1 else 0 := by
  unfold dY
  rw [up4, up100, up400, addUp]
  refine congrArg _ ?_
  by_cases h4 : y % 4 = 0
  · by_cases h1 : y % 100 = 0
    · by_cases h0 : y % 400 = 0
      · rw [if_pos h4, if_pos h1, if_pos h0, if_pos ((leapB_iff y).mpr ⟨h4, .inr h0⟩)]; rfl
      · rw [if_pos h4, if_pos h1, if_neg h0, if_neg fun q => ((leapB_iff y).mp q).2.elim (fun z => z h1) h0]; rfl
    · rw [if_pos h4, if_neg h1, if_neg fun q => h1 (of400 q), if_pos ((leapB_iff y).mpr ⟨h4, .inl h1⟩)]; rfl
  · rw [if_neg h4, if_neg fun q => h4 (of100 q), if_neg fun q => h4 (of100 (of400 q)), if_neg fun q => h4 ((leapB_iff y).mp q).1]; rfl
theorem dY_up (y : Int) : dY y + 365 ≤ dY (y + 1) := by rw [dY_succ]; split <;> lia
theorem dY_far (a : Int) : ∀ n : Nat, dY a + 365 ≤ dY (a + 1 + n)
  | 0 => by rw [Int.natCast_zero, Int.add_zero]; exact dY_up a
  | n + 1 => by
    have h1 := dY_far a n
    have h2 := dY_up (a + 1 + n)
    rw [Int.natCast_succ, ← Int.add_assoc]
    lia
theorem dY_lt {a b : Int} (h : a < b) : dY a + 365 ≤ dY b := by
  have := dY_far a (b - a - 1).toNat
  rwa [show a + 1 + (((b - a - 1).toNat : Nat) : Int) = b by lia] at this
theorem dY_mono {a b : Int} (h : a ≤ b) : dY a ≤ dY b := by
  rcases Int.lt_or_eq_of_le h with q | q
  · have := dY_lt q; lia
  · rw [q]; exact Int.le_refl _

/-- the last month at or below m that begins at or ahead of a day of the year -/
noncomputable def cM (y rest : Int) : Nat → Int
  | 0 => 1
  | m + 1 => if dM y (m + 1) ≤ rest then m + 1 else cM y rest m

theorem dM_one (y : Int) : dM y 1 = 0 := by first | rfl | simp [dM, aheadC]

theorem cM_spec (y rest : Int) (h0 : 0 ≤ rest) : ∀ m : Nat, 1 ≤ m → 1 ≤ cM y rest m ∧ cM y rest m ≤ m ∧ dM y (cM y rest m) ≤ rest ∧ (∀ k : Int, cM y rest m < k → k ≤ m → rest < dM y k) := by
  intro m
  induction m with
  | zero => intro h; lia
  | succ m ih =>
    intro _
    rw [cM]
    split
    · rename_i h
      exact ⟨by omega, by simp, h, fun k h1 h2 => absurd h1 (by rw [show ((m + 1 : Nat) : Int) = m + 1 from rfl] at h2; omega)⟩
    · rename_i h
      by_cases hm : m = 0
      · subst hm; simp [dM_one] at h; lia
      · obtain ⟨a, b, c, d⟩ := ih (by first | assumption | rfl | exact Nat.le_add_left _ _ | decide | lia)
        refine ⟨a, by first | assumption | rfl | exact Nat.le_add_left _ _ | decide | lia, c, fun k h1 h2 => ?_⟩
        by_cases hk : k ≤ m
        · exact d k h1 hk
        · have : k = m + 1 := by push_cast at h2; lia
          subst this; lia

theorem loop_month {T : List Fn} (hT : IsT T) {N n : Nat} (hn : 2 ≤ n) (days y rest : Int) (h0 : 0 ≤ rest) : ∀ (m k : Nat), 1 ≤ m → m ≤ 12 →
    loopW (fun ρ => ev (run T N n) (.cmp .gt (.call 2 [(.loc 1), (.loc 3)]) (.loc 2)) ρ) (fun ρ => execs (run T N n) N [(.asg 3 (.bin .sub (.loc 3) (.cst (.int 1))))] ρ) (k + m)
      [some (.int days), some (.int y), some (.int rest), some (.int m)] = .ok (.next [some (.int days), some (.int y), some (.int rest), some (.int (cM y rest m))]) := by
  intro m
  induction m with
  | zero => intro k h; lia
  | succ m ih =>
    intro k _ h2
    rw [cM]
    by_cases h : dM y (m + 1) ≤ rest
    · rw [if_pos h, ← Nat.add_assoc, loopW_false]
      · first | rfl | simp
      · simp [run_dM hT hn y (m + 1) (by first | assumption | rfl | exact Nat.le_add_left _ _ | decide | lia) (by first | assumption | rfl | exact Nat.le_add_left _ _ | decide | lia)]; lia
    · rw [if_neg h, ← Nat.add_assoc]
      by_cases hm : m = 0
      · subst hm; simp [dM_one] at h; lia
      · rw [loopW_true (ρ' := [some (.int days), some (.int y), some (.int rest), some (.int m)]), ih k (by first | assumption | rfl | exact Nat.le_add_left _ _ | decide | lia) (by first | assumption | rfl | exact Nat.le_add_left _ _ | decide | lia)]
        · simp [run_dM hT hn y (m + 1) (by first | assumption | rfl | exact Nat.le_add_left _ _ | decide | lia) (by first | assumption | rfl | exact Nat.le_add_left _ _ | decide | lia)]; lia
        · first | rfl | simp [execs, exec]

noncomputable def cY0 (days : Int) : Int := days * 400 / 146097
noncomputable def cY (days : Int) : Int := if dY (cY0 days) > days then cY0 days - 1 else if dY (cY0 days + 1) ≤ days then cY0 days + 1 else cY0 days
noncomputable def cR (days : Int) : Int := days - dY (cY days)

theorem cY_spec (days : Int) : dY (cY days) ≤ days ∧ days < dY (cY days + 1) := by
  unfold cY cY0
  generalize h : days * 400 / 146097 = y
  have h1 : dY (y - 1) ≤ days := by unfold dY; lia
  have h2 : days < dY (y + 2) := by unfold dY; lia
  split
  · exact ⟨h1, by rw [show y - 1 + 1 = y by first | assumption | rfl | exact Nat.le_add_left _ _ | decide | lia]; lia⟩
  · split
    · exact ⟨by assumption, by rw [show y + 1 + 1 = y + 2 by first | assumption | rfl | exact Nat.le_add_left _ _ | decide | lia]; exact h2⟩
    · lia

noncomputable def cMo (days : Int) : Int := cM (cY days) (cR days) 12
noncomputable def cD (days : Int) : Int := cR days - dM (cY days) (cMo days) + 1

theorem cR_nonneg (days : Int) : 0 ≤ cR days := by have := (cY_spec days).1; unfold cR; lia

theorem run_cFD {T : List Fn} (hT : IsT T) {N n : Nat} (hn : 3 ≤ n) (hN : 12 ≤ N) (days : Int) :
    run T N n 4 [.int days] = .ok (.tuple [.int (cY days), .int (cMo days), .int (cD days)]) := by
  obtain ⟨k, rfl⟩ := Nat.exists_eq_add_of_le' hn
  obtain ⟨q, rfl⟩ : ∃ q, N = q + 12 := ⟨N - 12, by first | assumption | rfl | exact Nat.le_add_left _ _ | decide | lia⟩
  rw [run_at (hT.at_ 4 p_civil_from_days rfl) rfl]
  have hl := loop_month (N := q + 12) hT (n := k + 2) (by first | assumption | rfl | exact Nat.le_add_left _ _ | decide | lia) days (cY days) (cR days) (cR_nonneg days) 12 q (by first | assumption | rfl | exact Nat.le_add_left _ _ | decide | lia) (by first | assumption | rfl | exact Nat.le_add_left _ _ | decide | lia)
  have hm := cM_spec (cY days) (cR days) (cR_nonneg days) 12 (by first | assumption | rfl | exact Nat.le_add_left _ _ | decide | lia)
  have hd := run_dM (N := q + 12) hT (n := k + 2) (by first | assumption | rfl | exact Nat.le_add_left _ _ | decide | lia) (cY days) (cMo days) hm.1 hm.2.1
  have key : ∀ (y : Int), y = cY days → fin (execs (run T (q + 12) (k + 2)) (q + 12) [(.asg 2 (.bin .sub (.loc 0) (.call 1 [(.loc 1)]))),
      (.asg 3 (.cst (.int 12))),
      (.whl (.cmp .gt (.call 2 [(.loc 1), (.loc 3)]) (.loc 2)) [(.asg 3 (.bin .sub (.loc 3) (.cst (.int 1))))]),
      (.ret (.tup [(.loc 1), (.loc 3), (.bin .add (.bin .sub (.loc 2) (.call 2 [(.loc 1), (.loc 3)])) (.cst (.int 1)))]))]
      [some (.int days), some (.int y), none, none]) = .ok (.tuple [.int (cY days), .int (cMo days), .int (cD days)]) := by
    intro y hy
    subst hy
    rw [execs_step (ρ' := [some (.int days), some (.int (cY days)), some (.int (cR days)), none]) (by first | rfl | simp [exec, run_dY hT, cR])]
    rw [execs_step (ρ' := [some (.int days), some (.int (cY days)), some (.int (cR days)), some (.int 12)]) (by first | rfl | simp [exec])]
    rw [execs_step (by rw [exec]; rw [show ((12 : Int) = ((12 : Nat) : Int)) from rfl, hl]; rfl)]
    rw [show cM (cY days) (cR days) 12 = cMo days from rfl]
    first | rfl | simp [execs, exec, hd, cD]
  simp only [p_civil_from_days, start, List.map_cons, List.map_nil, Nat.reduceSub, List.replicate_succ, List.replicate_zero, List.cons_append, List.nil_append]
  rw [execs_step (ρ' := [some (.int days), some (.int (cY0 days)), none, none]) (by first | rfl | simp [exec, smallI, cY0])]
  rw [execs_if (c := decide (days < dY (cY0 days))) (by first | rfl | simp [run_dY hT])]
  by_cases h1 : days < dY (cY0 days)
  · simp only [h1, decide_true, cond_true, List.cons_append, List.nil_append]
    rw [execs_step (ρ' := [some (.int days), some (.int (cY0 days - 1)), none, none]) (by first | rfl | simp [exec])]
    exact key _ (by unfold cY; rw [if_pos h1])
  · simp only [h1, decide_false, cond_false, List.cons_append, List.nil_append]
    rw [execs_if (c := decide (dY (cY0 days + 1) ≤ days)) (by first | rfl | simp [run_dY hT])]
    by_cases h2 : dY (cY0 days + 1) ≤ days
    · simp only [h2, decide_true, cond_true, List.cons_append, List.nil_append]
      rw [execs_step (ρ' := [some (.int days), some (.int (cY0 days + 1)), none, none]) (by first | rfl | simp [exec])]
      exact key _ (by unfold cY; rw [if_neg h1, if_pos h2])
    · simp only [h2, decide_false, cond_false, List.cons_append, List.nil_append]
      exact key _ (by unfold cY; rw [if_neg h1, if_neg h2])
end Mine

set_option genInjectivity false
set_option genSizeOf false
namespace Mine
open PySem

structure St where
  y : Int
  mo : Int
  d : Int
  h : Int
  mi : Int
  se : Int
  ns : Int
  off : Option Int

noncomputable def offD : Option Int → PyData
  | none => .none
  | some i => .int i
@[simp] theorem offD_none : offD none = .none := rfl
@[simp] theorem offD_some (i : Int) : offD (some i) = .int i := rfl
noncomputable def shift (o : Option Int) : Int := o.getD 0
@[simp] theorem shift_none : shift none = 0 := rfl
@[simp] theorem shift_some (i : Int) : shift (some i) = i := rfl
noncomputable abbrev St.D (s : St) : PyData := .tuple [.int s.y, .int s.mo, .int s.d, .int s.h, .int s.mi, .int s.se, .int s.ns, offD s.off]

/-- minutes since the first day, in UTC -/
noncomputable def St.t (s : St) : Int := (dFC s.y s.mo s.d * 24 + s.h) * 60 + s.mi - shift s.off

theorem run_instant {T : List Fn} (hT : IsT T) {N n : Nat} (hn : 4 ≤ n) (s : St) (h1 : 1 ≤ s.mo) (h2 : s.mo ≤ 12) :
    run T N n 5 [s.D] = .ok (.tuple [.int (s.t / 1440), .int (s.t % 1440 * 60 + s.se), .int s.ns]) := by
  obtain ⟨k, rfl⟩ := Nat.exists_eq_add_of_le' hn
  rw [run_at (hT.at_ 5 p_instant rfl) rfl]
  cases ho : s.off with
  | none => simp [p_instant, execs, exec, idxAt, ho, run_dFC hT, h1, h2, St.t, smallI]
  | some o => simp [p_instant, execs, exec, idxAt, ho, run_dFC hT, h1, h2, St.t, smallI]

/-- a leap second's minute: the last of June or December, UTC -/
noncomputable def leapAt (t : Int) : Prop := t % 1440 = 1439 ∧ (0 ≤ t / 1440 ∧ t / 1440 < 3652425) ∧ ((cMo (t / 1440) = 6 ∧ cD (t / 1440) = 30) ∨ (cMo (t / 1440) = 12 ∧ cD (t / 1440) = 31))
noncomputable instance (t : Int) : Decidable (leapAt t) := by unfold leapAt; infer_instance

noncomputable def St.plain (s : St) : Prop := (0 ≤ s.y ∧ s.y ≤ 9999) ∧ (1 ≤ s.mo ∧ s.mo ≤ 12) ∧ (1 ≤ s.d ∧ s.d ≤ mLen s.y s.mo) ∧ (0 ≤ s.h ∧ s.h ≤ 23) ∧ (0 ≤ s.mi ∧ s.mi ≤ 59) ∧ (0 ≤ s.ns ∧ s.ns ≤ 999999999) ∧ (-1439 ≤ shift s.off ∧ shift s.off ≤ 1439)
noncomputable instance (s : St) : Decidable s.plain := by unfold St.plain; infer_instance
noncomputable def St.valid (s : St) : Prop := s.plain ∧ ((0 ≤ s.se ∧ s.se ≤ 59) ∨ (s.se = 60 ∧ leapAt s.t))
noncomputable instance (s : St) : Decidable s.valid := by unfold St.valid; infer_instance

theorem run_is_valid {T : List Fn} (hT : IsT T) {N n : Nat} (hn : 5 ≤ n) (hN : 12 ≤ N) (s : St) : run T N n 8 [s.D] = .ok (.bool (decide s.valid)) := by
  obtain ⟨k, rfl⟩ := Nat.exists_eq_add_of_le' hn
  rw [run_at (hT.at_ 8 p_is_valid rfl) rfl]
  obtain ⟨y, mo, d, h, mi, se, ns, off⟩ := s
  simp only [p_is_valid, start, List.map_cons, List.map_nil, Nat.reduceSub, List.replicate_succ, List.replicate_zero, List.cons_append, List.nil_append]
  rw [execs_step (ρ' := [some (St.D ⟨y, mo, d, h, mi, se, ns, off⟩), some (.int y), some (.int mo), some (.int d), some (.int h), some (.int mi), some (.int se), some (.int ns), some (offD off), none, none, none, none]) (by first | rfl | simp [exec])]
  have no : ∀ {x : R PyData}, ¬ St.valid ⟨y, mo, d, h, mi, se, ns, off⟩ → x = .ok (.bool false) → x = .ok (.bool (decide (St.valid ⟨y, mo, d, h, mi, se, ns, off⟩))) := by
    intro x h1 h2; rw [h2, decide_eq_false h1]
  by_cases a1 : 0 ≤ y ∧ y ≤ 9999
  case neg => rw [execs_ifP (c := ¬ (0 ≤ y ∧ y ≤ 9999)) a1 (ev_not (ev_chainLe (by first | rfl | simp) (by first | rfl | simp) (by first | rfl | simp)))]; exact no (fun v => a1 v.1.1) (by first | rfl | simp [execs, exec])
  rw [execs_ifN (c := ¬ (0 ≤ y ∧ y ≤ 9999)) (fun q => q a1) (ev_not (ev_chainLe (by first | rfl | simp) (by first | rfl | simp) (by first | rfl | simp))), List.nil_append]
  by_cases a2 : 1 ≤ mo ∧ mo ≤ 12
  case neg => rw [execs_ifP (c := ¬ (1 ≤ mo ∧ mo ≤ 12)) a2 (ev_not (ev_chainLe (by first | rfl | simp) (by first | rfl | simp) (by first | rfl | simp)))]; exact no (fun v => a2 v.1.2.1) (by first | rfl | simp [execs, exec])
  rw [execs_ifN (c := ¬ (1 ≤ mo ∧ mo ≤ 12)) (fun q => q a2) (ev_not (ev_chainLe (by first | rfl | simp) (by first | rfl | simp) (by first | rfl | simp))), List.nil_append]
  by_cases a3 : 1 ≤ d ∧ d ≤ mLen y mo
  case neg => rw [execs_ifP (c := ¬ (1 ≤ d ∧ d ≤ mLen y mo)) a3 (ev_not (ev_chainLe (by first | rfl | simp) (by first | rfl | simp) (by first | rfl | simp [run_mLen hT, a2.1, a2.2])))]; exact no (fun v => a3 v.1.2.2.1) (by first | rfl | simp [execs, exec])
  rw [execs_ifN (c := ¬ (1 ≤ d ∧ d ≤ mLen y mo)) (fun q => q a3) (ev_not (ev_chainLe (by first | rfl | simp) (by first | rfl | simp) (by first | rfl | simp [run_mLen hT, a2.1, a2.2]))), List.nil_append]
  by_cases a4 : 0 ≤ h ∧ h ≤ 23
  case neg => rw [execs_ifP (c := ¬ (0 ≤ h ∧ h ≤ 23)) a4 (ev_not (ev_chainLe (by first | rfl | simp) (by first | rfl | simp) (by first | rfl | simp)))]; exact no (fun v => a4 v.1.2.2.2.1) (by first | rfl | simp [execs, exec])
  rw [execs_ifN (c := ¬ (0 ≤ h ∧ h ≤ 23)) (fun q => q a4) (ev_not (ev_chainLe (by first | rfl | simp) (by first | rfl | simp) (by first | rfl | simp))), List.nil_append]
  by_cases a5 : 0 ≤ mi ∧ mi ≤ 59
  case neg => rw [execs_ifP (c := ¬ (0 ≤ mi ∧ mi ≤ 59)) a5 (ev_not (ev_chainLe (by first | rfl | simp) (by first | rfl | simp) (by first | rfl | simp)))]; exact no (fun v => a5 v.1.2.2.2.2.1) (by first | rfl | simp [execs, exec])
  rw [execs_ifN (c := ¬ (0 ≤ mi ∧ mi ≤ 59)) (fun q => q a5) (ev_not (ev_chainLe (by first | rfl | simp) (by first | rfl | simp) (by first | rfl | simp))), List.nil_append]
  by_cases a6 : 0 ≤ ns ∧ ns ≤ 999999999
  case neg => rw [execs_ifP (c := ¬ (0 ≤ ns ∧ ns ≤ 999999999)) a6 (ev_not (ev_chainLe (by first | rfl | simp) (by first | rfl | simp) (by first | rfl | simp)))]; exact no (fun v => a6 v.1.2.2.2.2.2.1) (by first | rfl | simp [execs, exec])
  rw [execs_ifN (c := ¬ (0 ≤ ns ∧ ns ≤ 999999999)) (fun q => q a6) (ev_not (ev_chainLe (by first | rfl | simp) (by first | rfl | simp) (by first | rfl | simp))), List.nil_append]
  by_cases a7 : -1439 ≤ shift off ∧ shift off ≤ 1439
  case neg =>
    refine no (fun v => a7 v.1.2.2.2.2.2.2) ?_
    cases off with
    | none => exact absurd (by first | rfl | simp) a7
    | some o =>
      simp only [shift_some] at a7
      rw [execs_if (c := true) (by first | rfl | simp)]
      simp only [cond_true, List.cons_append, List.nil_append]
      rw [execs_if (c := true) (by by_cases q : -1439 ≤ o <;> simp [q]; lia)]
      first | rfl | simp [execs, exec]
  have pl : St.plain ⟨y, mo, d, h, mi, se, ns, off⟩ := ⟨a1, a2, a3, a4, a5, a6, a7⟩
  have e7 : ∀ r, execs (run T N (k + 4)) N (.ite (.isNotNone (.loc 8)) [(.ite (.not (.chain .le .le (.neg (.cst (.int 1439))) (.loc 8) (.cst (.int 1439)))) [(.ret (.cst (.bool false)))] [])] [] :: r)
      [some (St.D ⟨y, mo, d, h, mi, se, ns, off⟩), some (.int y), some (.int mo), some (.int d), some (.int h), some (.int mi), some (.int se), some (.int ns), some (offD off), none, none, none, none] =
      execs (run T N (k + 4)) N r [some (St.D ⟨y, mo, d, h, mi, se, ns, off⟩), some (.int y), some (.int mo), some (.int d), some (.int h), some (.int mi), some (.int se), some (.int ns), some (offD off), none, none, none, none] := by
    intro r
    cases off with
    | none => rw [execs_if (c := false) (by first | rfl | simp)]; rfl
    | some o =>
      simp only [shift_some] at a7
      rw [execs_if (c := true) (by first | rfl | simp)]
      simp only [cond_true, List.cons_append, List.nil_append]
      rw [execs_if (c := false) (by first | rfl | simp [a7])]
      rfl
  rw [e7]
  by_cases a8 : 0 ≤ se ∧ se ≤ 59
  · have v : St.valid ⟨y, mo, d, h, mi, se, ns, off⟩ := ⟨pl, .inl a8⟩
    rw [execs_ifP (c := 0 ≤ se ∧ se ≤ 59) a8 (ev_chainLe (by first | rfl | simp) (by first | rfl | simp) (by first | rfl | simp)), decide_eq_true v]
    first | rfl | simp [execs, exec]
  rw [execs_ifN (c := 0 ≤ se ∧ se ≤ 59) a8 (ev_chainLe (by first | rfl | simp) (by first | rfl | simp) (by first | rfl | simp)), List.nil_append]
  by_cases a9 : se = 60
  case neg => rw [execs_ifP (c := se ≠ 60) a9 (by first | rfl | simp)]; exact no (fun v => v.2.elim a8 fun q => a9 q.1) (by first | rfl | simp [execs, exec])
  rw [execs_ifN (c := se ≠ 60) (fun q => q a9) (by first | rfl | simp), List.nil_append]
  subst a9
  have hi := run_instant (N := N) hT (n := k + 4) (by first | assumption | rfl | exact Nat.le_add_left _ _ | decide | lia) ⟨y, mo, d, h, mi, 59, ns, off⟩ a2.1 a2.2
  have et : St.t ⟨y, mo, d, h, mi, 59, ns, off⟩ = St.t ⟨y, mo, d, h, mi, 60, ns, off⟩ := rfl
  rw [et] at hi
  generalize ht : St.t ⟨y, mo, d, h, mi, 60, ns, off⟩ = t at hi
  rw [execs_step (ρ' := [some (St.D ⟨y, mo, d, h, mi, 60, ns, off⟩), some (.int y), some (.int mo), some (.int d), some (.int h), some (.int mi), some (.int 60), some (.int ns), some (offD off), some (.tuple [.int (t / 1440), .int (t % 1440 * 60 + 59), .int ns]), none, none, none]) (by first | rfl | simp [exec, hi])]
  rw [execs_step (ρ' := [some (St.D ⟨y, mo, d, h, mi, 60, ns, off⟩), some (.int y), some (.int mo), some (.int d), some (.int h), some (.int mi), some (.int 60), some (.int ns), some (offD off), some (.tuple [.int (t / 1440), .int (t % 1440 * 60 + 59), .int ns]), some (.int (t / 1440)), none, none]) (by first | rfl | simp [exec, idxAt])]
  rw [execs_step (ρ' := [some (St.D ⟨y, mo, d, h, mi, 60, ns, off⟩), some (.int y), some (.int mo), some (.int d), some (.int h), some (.int mi), some (.int 60), some (.int ns), some (offD off), some (.tuple [.int (t / 1440), .int (t % 1440 * 60 + 59), .int ns]), some (.int (t / 1440)), some (.int (t % 1440 * 60 + 59)), none]) (by first | rfl | simp [exec, idxAt])]
  have hv : St.valid ⟨y, mo, d, h, mi, 60, ns, off⟩ ↔ leapAt t := by
    rw [← ht]
    exact ⟨fun v => v.2.elim (fun q => absurd q.2 (show ¬ ((60 : Int) ≤ 59) by decide)) fun q => q.2, fun v => ⟨pl, .inr ⟨rfl, v⟩⟩⟩
  have dv : decide (St.valid ⟨y, mo, d, h, mi, 60, ns, off⟩) = decide (leapAt t) := by simp only [hv]
  rw [dv]
  by_cases b1 : t % 1440 = 1439
  case neg =>
    rw [execs_ifP (c := t % 1440 * 60 + 59 ≠ 86399) (by first | assumption | rfl | exact Nat.le_add_left _ _ | decide | lia) (by first | rfl | simp), decide_eq_false fun v => b1 v.1]
    first | rfl | simp [execs, exec]
  rw [execs_ifN (c := t % 1440 * 60 + 59 ≠ 86399) (by first | assumption | rfl | exact Nat.le_add_left _ _ | decide | lia) (by first | rfl | simp), List.nil_append]
  by_cases b2 : 0 ≤ t / 1440 ∧ t / 1440 < 3652425
  case neg =>
    rw [execs_ifP (c := ¬ (0 ≤ t / 1440 ∧ t / 1440 < 3652425)) b2 (ev_not (ev_chainLt (by first | rfl | simp) (by first | rfl | simp) (by first | rfl | simp))), decide_eq_false fun v => b2 v.2.1]
    first | rfl | simp [execs, exec]
  rw [execs_ifN (c := ¬ (0 ≤ t / 1440 ∧ t / 1440 < 3652425)) (fun q => q b2) (ev_not (ev_chainLt (by first | rfl | simp) (by first | rfl | simp) (by first | rfl | simp))), List.nil_append]
  rw [execs_step (ρ' := [some (St.D ⟨y, mo, d, h, mi, 60, ns, off⟩), some (.int y), some (.int mo), some (.int d), some (.int h), some (.int mi), some (.int 60), some (.int ns), some (offD off), some (.tuple [.int (t / 1440), .int (t % 1440 * 60 + 59), .int ns]), some (.int (t / 1440)), some (.int (t % 1440 * 60 + 59)),
    some (.tuple [.int (cY (t / 1440)), .int (cMo (t / 1440)), .int (cD (t / 1440))])]) (by first | rfl | simp [exec, run_cFD hT, hN])]
  by_cases b3 : cMo (t / 1440) = 6 ∧ cD (t / 1440) = 30
  · rw [execs_ifP (c := cMo (t / 1440) = 6 ∧ cD (t / 1440) = 30) b3 (ev_and (by first | rfl | simp [idxAt]) fun _ => by first | rfl | simp [idxAt]), decide_eq_true (show leapAt t from ⟨b1, b2, .inl b3⟩)]
    first | rfl | simp [execs, exec]
  rw [execs_ifN (c := cMo (t / 1440) = 6 ∧ cD (t / 1440) = 30) b3 (ev_and (by first | rfl | simp [idxAt]) fun _ => by first | rfl | simp [idxAt]), List.nil_append]
  by_cases b4 : cMo (t / 1440) = 12 ∧ cD (t / 1440) = 31
  · rw [execs_ifP (c := cMo (t / 1440) = 12 ∧ cD (t / 1440) = 31) b4 (ev_and (by first | rfl | simp [idxAt]) fun _ => by first | rfl | simp [idxAt]), decide_eq_true (show leapAt t from ⟨b1, b2, .inr b4⟩)]
    first | rfl | simp [execs, exec]
  rw [execs_ifN (c := cMo (t / 1440) = 12 ∧ cD (t / 1440) = 31) b4 (ev_and (by first | rfl | simp [idxAt]) fun _ => by first | rfl | simp [idxAt]), List.nil_append, decide_eq_false fun v => v.2.2.elim b3 b4]
  first | rfl | simp [execs, exec]
end Mine

namespace Mine
open PySem

theorem itoa_nat (n : Nat) : itoa (n : Int) = (Nat.toDigits 10 n).map Char.toNat := by
  unfold itoa
  rw [Str.ofString_eq_toList]
  show List.map Char.toNat (toString n).toList = _
  rw [Nat.toString_eq_ofList_toDigits]
  first | rfl | simp
theorem digitChar_toNat {n : Nat} (h : n < 10) : n.digitChar.toNat = 48 + n := by
  have : n = 0 ∨ n = 1 ∨ n = 2 ∨ n = 3 ∨ n = 4 ∨ n = 5 ∨ n = 6 ∨ n = 7 ∨ n = 8 ∨ n = 9 := by first | assumption | rfl | exact Nat.le_add_left _ _ | decide | lia
  rcases this with h | h | h | h | h | h | h | h | h | h <;> subst h <;> rfl
theorem itoa_lt {n : Nat} (h : n < 10) : itoa (n : Int) = [48 + n] := by
  rw [itoa_nat, Nat.toDigits_of_lt_base h]
  first | rfl | simp [digitChar_toNat h]
theorem itoa_ge {n : Nat} (h : 10 ≤ n) : itoa (n : Int) = itoa ((n / 10 : Nat) : Int) ++ [48 + n % 10] := by
  rw [itoa_nat, itoa_nat, Nat.toDigits_of_base_le (by first | assumption | rfl | exact Nat.le_add_left _ _ | decide | lia) h]
  first | rfl | simp [digitChar_toNat (show n % 10 < 10 by first | assumption | rfl | exact Nat.le_add_left _ _ | decide | lia)]
theorem itoa_neg (n : Nat) : itoa (Int.negSucc n) = 45 :: itoa ((n + 1 : Nat) : Int) := by
  unfold itoa
  rw [Str.ofString_eq_toList, Str.ofString_eq_toList]
  show List.map Char.toNat ("-" ++ toString (n + 1)).toList = 45 :: List.map Char.toNat (toString (n + 1)).toList
  first | rfl | simp

/-- the last w decimal digits -/
noncomputable def dig : Nat → Nat → List Nat
  | 0, _ => []
  | w + 1, v => dig w (v / 10) ++ [48 + v % 10]
theorem dig_length (w : Nat) : ∀ v, (dig w v).length = w := by
  induction w with
  | zero => intro v; rfl
  | succ w ih => intro v; first | rfl | simp [dig, ih]
theorem dig_zero (w : Nat) : dig w 0 = List.replicate w 48 := by
  induction w with
  | zero => rfl
  | succ w ih => rw [dig, Nat.zero_div, ih, List.replicate_succ']

noncomputable def padL (i : Int) (w : Nat) : List Nat := List.replicate (w - (itoa i).length) 48 ++ itoa i

theorem padL_dig (w : Nat) : ∀ v : Nat, v < 10 ^ (w + 1) → padL (v : Int) (w + 1) = dig (w + 1) v := by
  induction w with
  | zero =>
    intro v h
    have h' : v < 10 := by simpa using h
    first | rfl | simp [padL, itoa_lt h', dig, Nat.mod_eq_of_lt h']
  | succ w ih =>
    intro v h
    by_cases h' : v < 10
    · rw [padL, itoa_lt h', dig, Nat.div_eq_of_lt h', dig_zero, Nat.mod_eq_of_lt h']; first | rfl | simp
    · have := ih (v / 10) (by rw [Nat.pow_succ] at h; lia)
      rw [dig, ← this, padL, padL, itoa_ge (by first | assumption | rfl | exact Nat.le_add_left _ _ | decide | lia)]
      first | rfl | simp

theorem run_pad {T : List Fn} (hT : IsT T) {N n : Nat} (hn : 1 ≤ n) (hN : 10 ≤ N) (v : Int) (w : Nat) (hv : smallI v = true) (hw : w ≤ 9) (hl : (itoa v).length ≤ 100) :
    run T N n 11 [.int v, .int w] = .ok (dS (padL v w)) := by
  obtain ⟨k, rfl⟩ := Nat.exists_eq_add_of_le' hn
  obtain ⟨M, rfl⟩ : ∃ M, N = M + 10 := ⟨N - 10, by first | assumption | rfl | exact Nat.le_add_left _ _ | decide | lia⟩
  rw [run_at (hT.at_ 11 p_pad rfl) rfl]
  simp only [p_pad, start, List.map_cons, List.map_nil, Nat.reduceSub, List.replicate_succ, List.replicate_zero, List.cons_append, List.nil_append]
  rw [execs_step (ρ' := [some (.int v), some (.int w), some (dS (itoa v))]) (by first | rfl | simp [exec, hv])]
  have loop : ∀ (j m : Nat) (x : List Nat), x.length + j = w ∨ (j = 0 ∧ w ≤ x.length) → x.length ≤ 100 →
      loopW (fun ρ => ev (run T (M + 10) k) (.cmp .lt (.b1 .len (.loc 2)) (.loc 1)) ρ) (fun ρ => execs (run T (M + 10) k) (M + 10) [(.asg 2 (.bin .add (.cst (.str (PySem.Str.mk #[48]))) (.loc 2)))] ρ) (m + j + 1)
        [some (.int v), some (.int w), some (dS x)] = .ok (.next [some (.int v), some (.int w), some (dS (List.replicate j 48 ++ x))]) := by
    intro j
    induction j with
    | zero =>
      intro m x h1 h2
      rw [loopW_false]
      · first | rfl | simp
      · simp; lia
    | succ j ih =>
      intro m x h1 h2
      rw [loopW_true (ρ' := [some (.int v), some (.int w), some (dS (48 :: x))]), show m + (j + 1) = (m + j) + 1 by first | assumption | rfl | exact Nat.le_add_left _ _ | decide | lia, ih m (48 :: x) (by simp; lia) (by simp; lia)]
      · rw [List.replicate_succ', List.append_assoc]; rfl
      · simp; lia
      · simp [execs, exec, limit]; rw [show decide (1 + x.length ≤ 16777216) = true by simp; lia]; first | rfl | simp
  rw [execs_step (ρ' := [some (.int v), some (.int w), some (dS (padL v w))])]
  · first | rfl | simp [execs, exec]
  · rw [exec]
    have := loop (w - (itoa v).length) (M + 9 - (w - (itoa v).length)) (itoa v) (by first | assumption | rfl | exact Nat.le_add_left _ _ | decide | lia) hl
    rw [show M + 9 - (w - (itoa v).length) + (w - (itoa v).length) + 1 = M + 10 by first | assumption | rfl | exact Nat.le_add_left _ _ | decide | lia] at this
    rw [this]; rfl

/-- the digits' number, or -1 -/
noncomputable def digV (l : List Nat) : Int := if l.all digit = true then digitsVal l else -1

theorem subAt_one (c : Nat) : ∀ l : List Nat, subAt [c] l = l.contains c
  | [] => rfl
  | d :: l => by
    rw [subAt, subAt_one c l, List.contains_cons]
    show ((c == d) && true || l.contains c) = _
    rw [Bool.and_true]
theorem digit_iff (c : Nat) : subAt [c] [48, 49, 50, 51, 52, 53, 54, 55, 56, 57] = digit c := by
  rw [subAt_one]
  by_cases h : c < 58
  · exact (by decide : ∀ c, c < 58 → [48, 49, 50, 51, 52, 53, 54, 55, 56, 57].contains c = digit c) c h
  · have h1 : [48, 49, 50, 51, 52, 53, 54, 55, 56, 57].contains c = false := by
      rw [Bool.eq_false_iff]
      intro q
      exact h (of_decide_eq_true (List.all_eq_true.mp (by decide : [48, 49, 50, 51, 52, 53, 54, 55, 56, 57].all (fun d => decide (d < 58)) = true) c (List.contains_iff_mem.mp q)))
    rw [h1]
    unfold digit
    rw [decide_eq_false (p := c ≤ 57) (fun q => h (Nat.lt_succ_of_le q)), Bool.and_false]

theorem digitsVal_snoc (l : List Nat) (c : Nat) : digitsVal (l ++ [c]) = digitsVal l * 10 + ((c : Int) - 48) := by first | rfl | simp [digitsVal, List.foldl_append]

theorem run_digits {T : List Fn} (hT : IsT T) {N n : Nat} (hn : 1 ≤ n) (t : List Nat) (a b : Nat) (hab : a ≤ b) (hb : b ≤ t.length) (hN : b - a + 1 ≤ N) :
    run T N n 9 [dS t, .int a, .int b] = .ok (.int (digV (cut t a b))) := by
  obtain ⟨k, rfl⟩ := Nat.exists_eq_add_of_le' hn
  rw [run_at (hT.at_ 9 p_digits rfl) rfl]
  simp only [p_digits, start, List.map_cons, List.map_nil, Nat.reduceSub, List.replicate_succ, List.replicate_zero, List.cons_append, List.nil_append]
  rw [execs_step (ρ' := [some (dS t), some (.int a), some (.int b), some (.int 0), none, none]) (by first | rfl | simp [exec])]
  rw [execs_step (ρ' := [some (dS t), some (.int a), some (.int b), some (.int 0), some (.int a), none]) (by first | rfl | simp [exec])]
  have hcut : cut t a b = cut t a a ++ cut t a b := by first | rfl | simp [cut, List.drop_take]
  have loop : ∀ (m k' j : Nat) (c : Option PyData), a ≤ j → j + m = b → (cut t a j).all digit = true →
      loopW (fun ρ => ev (run T N k) (.cmp .lt (.loc 4) (.loc 2)) ρ)
        (fun ρ => execs (run T N k) N [(.asg 5 (.idx (.loc 0) (.loc 4))), (.ite (.cmp .notIn (.loc 5) (.cst (.str (PySem.Str.mk #[48, 49, 50, 51, 52, 53, 54, 55, 56, 57])))) [(.ret (.neg (.cst (.int 1))))] []),
          (.asg 3 (.bin .add (.bin .mul (.loc 3) (.cst (.int 10))) (.bin .sub (.b1 .ord (.loc 5)) (.cst (.int 48))))), (.asg 4 (.bin .add (.loc 4) (.cst (.int 1))))] ρ) (k' + m + 1)
        [some (dS t), some (.int a), some (.int b), some (.int (digitsVal (cut t a j))), some (.int j), c] =
      (if (cut t a b).all digit = true then .ok (.next [some (dS t), some (.int a), some (.int b), some (.int (digitsVal (cut t a b))), some (.int b), if m = 0 then c else (t[b - 1]?).map fun x => dS [x]]) else .ok (.ret (.int (-1)))) := by
    intro m
    induction m with
    | zero =>
      intro k' j c h1 h2 h3
      obtain rfl : j = b := by first | assumption | rfl | exact Nat.le_add_left _ _ | decide | lia
      rw [loopW_false (by first | rfl | simp)]
      first | rfl | simp [h3]
    | succ m ih =>
      intro k' j c h1 h2 h3
      have hj : j < t.length := by first | assumption | rfl | exact Nat.le_add_left _ _ | decide | lia
      have hs : cut t a (j + 1) = cut t a j ++ [t[j]] := by
        unfold cut
        rw [List.take_succ_eq_append_getElem hj, List.drop_append_of_le_length (by simp; lia)]
      have hx : ∀ ρ5, exec (run T N k) N (.asg 5 (.idx (.loc 0) (.loc 4))) [some (dS t), some (.int a), some (.int b), some (.int (digitsVal (cut t a j))), some (.int j), ρ5] = .ok (.next [some (dS t), some (.int a), some (.int b), some (.int (digitsVal (cut t a j))), some (.int j), some (dS [t[j]])]) := by
        intro ρ5
        first | rfl | simp [exec, idxAt, hj]
      by_cases hd : digit t[j] = true
      · rw [loopW_true (ρ' := [some (dS t), some (.int a), some (.int b), some (.int (digitsVal (cut t a (j + 1)))), some (.int ((j + 1 : Nat) : Int)), some (dS [t[j]])])]
        · rw [show k' + (m + 1) = k' + m + 1 by first | assumption | rfl | exact Nat.le_add_left _ _ | decide | lia, ih k' (j + 1) _ (by first | assumption | rfl | exact Nat.le_add_left _ _ | decide | lia) (by first | assumption | rfl | exact Nat.le_add_left _ _ | decide | lia) (by rw [hs]; simp at h3 ⊢; exact ⟨h3, hd⟩)]
          by_cases q : m = 0
          · subst q; obtain rfl : j + 1 = b := by first | assumption | rfl | exact Nat.le_add_left _ _ | decide | lia
            first | rfl | simp [hj]
          · first | rfl | simp [q]
        · simp; lia
        · rw [execs_step (hx _)]
          rw [execs_ifN (c := digit t[j] = false) (by first | rfl | simp [hd]) (by first | rfl | simp [digit_iff]), List.nil_append]
          first | rfl | simp [execs, exec, hs, digitsVal_snoc, smallI]
      · have hall : ¬ (cut t a b).all digit = true := by
          intro q
          have : t[j] ∈ cut t a b := by
            unfold cut
            rw [List.mem_iff_getElem?]
            refine ⟨j - a, ?_⟩
            rw [List.getElem?_drop, List.getElem?_take, if_pos (by first | assumption | rfl | exact Nat.le_add_left _ _ | decide | lia), show a + (j - a) = j by first | assumption | rfl | exact Nat.le_add_left _ _ | decide | lia]
            first | rfl | simp [hj]
          exact hd (List.all_eq_true.mp q _ this)
        rw [if_neg hall, loopW_ret]
        · simp; lia
        · rw [execs_step (hx _)]
          rw [execs_ifP (c := digit t[j] = false) (by simpa using hd) (by first | rfl | simp [digit_iff])]
          first | rfl | simp [execs, exec]
  have h0 : cut t a a = [] := by first | rfl | simp [cut]
  have := loop (b - a) (N - 1 - (b - a)) a none (by first | assumption | rfl | exact Nat.le_add_left _ _ | decide | lia) (by first | assumption | rfl | exact Nat.le_add_left _ _ | decide | lia) (by rw [h0]; rfl)
  rw [show N - 1 - (b - a) + (b - a) + 1 = N by first | assumption | rfl | exact Nat.le_add_left _ _ | decide | lia, h0] at this
  rw [show digitsVal [] = 0 from rfl] at this
  unfold digV
  by_cases hall : (cut t a b).all digit = true
  · rw [if_pos hall]
    rw [if_pos hall] at this
    rw [execs_step (by rw [exec, this]; rfl)]
    first | rfl | simp [execs, exec]
  · rw [if_neg hall]
    rw [if_neg hall] at this
    rw [execs_ret (by rw [exec, this]; rfl)]
    rfl
end Mine

namespace Mine
open PySem

noncomputable def zoneM : List Nat → Option (Option Int)
  | [] => none
  | c :: q =>
    if c = 90 ∨ c = 122 then (if q = [] then some (some 0) else none)
    else if c = 43 ∨ c = 45 then
      match q with
      | [a1, a2, m, b1, b2] =>
        if digV [a1, a2] < 0 ∨ digV [b1, b2] < 0 ∨ m ≠ 58 then none
        else if digV [a1, a2] > 23 ∨ digV [b1, b2] > 59 then none
        else if c = 45 then (if -(digV [a1, a2] * 60 + digV [b1, b2]) = 0 then some none else some (some (-(digV [a1, a2] * 60 + digV [b1, b2]))))
        else some (some (digV [a1, a2] * 60 + digV [b1, b2]))
      | _ => none
    else none

noncomputable def fracM : List Nat → Option (Int × List Nat)
  | [] => some (0, [])
  | c :: r => if c = 46 then
      (if (r.takeWhile digit).length < 1 ∨ (r.takeWhile digit).length > 9 then none
        else some (digitsVal (r.takeWhile digit) * 10 ^ (9 - (r.takeWhile digit).length), r.dropWhile digit))
    else some (0, c :: r)

noncomputable def tailM (y mo d h mi se ns : Int) (z : List Nat) : Option St :=
  match zoneM z with
  | none => none
  | some off => if (St.mk y mo d h mi se ns off).valid then some ⟨y, mo, d, h, mi, se, ns, off⟩ else none

noncomputable def parse20 (y1 y2 y3 y4 a m1 m2 b d1 d2 x h1 h2 e i1 i2 f s1 s2 c : Nat) (r : List Nat) : Option St :=
  if digV [y1, y2, y3, y4] < 0 ∨ digV [m1, m2] < 0 ∨ digV [d1, d2] < 0 then none
  else if digV [h1, h2] < 0 ∨ digV [i1, i2] < 0 ∨ digV [s1, s2] < 0 then none
  else if a ≠ 45 ∨ b ≠ 45 then none
  else if x ≠ 84 ∧ x ≠ 116 then none
  else if e ≠ 58 ∨ f ≠ 58 then none
  else match fracM (c :: r) with
    | none => none
    | some (ns, z) => tailM (digV [y1, y2, y3, y4]) (digV [m1, m2]) (digV [d1, d2]) (digV [h1, h2]) (digV [i1, i2]) (digV [s1, s2]) ns z
noncomputable def need (f : Nat → List Nat → Option St) : List Nat → Option St
  | [] => none
  | c :: r => f c r
theorem need_short {f : Nat → List Nat → Option St} {n : Nat} {t : List Nat} (h : t.length < n + 1) (hf : ∀ c r, r.length < n → f c r = none) : need f t = none := by
  cases t with
  | nil => rfl
  | cons c r => exact hf c r (Nat.lt_of_succ_lt_succ h)
theorem uncons {n : Nat} {t : List Nat} {P : List Nat → Prop} (h : n + 1 ≤ t.length) (k : ∀ c r, n ≤ r.length → P (c :: r)) : P t := by
  cases t with
  | nil => exact absurd h (Nat.not_succ_le_zero n)
  | cons c r => exact k c r (Nat.le_of_succ_le_succ h)
noncomputable def parseM (t : List Nat) : Option St :=
  need (fun y1 t => need (fun y2 t => need (fun y3 t => need (fun y4 t => need (fun a t => need (fun m1 t => need (fun m2 t => need (fun b t => need (fun d1 t => need (fun d2 t => need (fun x t => need (fun h1 t => need (fun h2 t => need (fun e t => need (fun i1 t => need (fun i2 t => need (fun f t => need (fun s1 t => need (fun s2 t => need (fun c r => parse20 y1 y2 y3 y4 a m1 m2 b d1 d2 x h1 h2 e i1 i2 f s1 s2 c r) t) t) t) t) t) t) t) t) t) t) t) t) t) t) t) t) t) t) t) t
theorem parseM_short {t : List Nat} (h : t.length < 20) : parseM t = none :=
  need_short h fun _ _ h => need_short h fun _ _ h => need_short h fun _ _ h => need_short h fun _ _ h => need_short h fun _ _ h => need_short h fun _ _ h => need_short h fun _ _ h => need_short h fun _ _ h => need_short h fun _ _ h => need_short h fun _ _ h => need_short h fun _ _ h => need_short h fun _ _ h => need_short h fun _ _ h => need_short h fun _ _ h => need_short h fun _ _ h => need_short h fun _ _ h => need_short h fun _ _ h => need_short h fun _ _ h => need_short h fun _ _ h => need_short h fun _ _ h => absurd h (Nat.not_lt_zero _)
@[elab_as_elim] theorem twenty {t : List Nat} {P : List Nat → Prop} (h : ¬ t.length < 20) (k : ∀ y1 y2 y3 y4 a m1 m2 b d1 d2 x h1 h2 e i1 i2 f s1 s2 c r, P (y1 :: y2 :: y3 :: y4 :: a :: m1 :: m2 :: b :: d1 :: d2 :: x :: h1 :: h2 :: e :: i1 :: i2 :: f :: s1 :: s2 :: c :: r)) : P t :=
  uncons (P := fun t => P (t)) (Nat.le_of_not_lt h) fun y1 t0 k0 => uncons (P := fun t => P (y1 :: t)) k0 fun y2 t1 k1 => uncons (P := fun t => P (y1 :: y2 :: t)) k1 fun y3 t2 k2 => uncons (P := fun t => P (y1 :: y2 :: y3 :: t)) k2 fun y4 t3 k3 => uncons (P := fun t => P (y1 :: y2 :: y3 :: y4 :: t)) k3 fun a t4 k4 => uncons (P := fun t => P (y1 :: y2 :: y3 :: y4 :: a :: t)) k4 fun m1 t5 k5 => uncons (P := fun t => P (y1 :: y2 :: y3 :: y4 :: a :: m1 :: t)) k5 fun m2 t6 k6 => uncons (P := fun t => P (y1 :: y2 :: y3 :: y4 :: a :: m1 :: m2 :: t)) k6 fun b t7 k7 => uncons (P := fun t => P (y1 :: y2 :: y3 :: y4 :: a :: m1 :: m2 :: b :: t)) k7 fun d1 t8 k8 => uncons (P := fun t => P (y1 :: y2 :: y3 :: y4 :: a :: m1 :: m2 :: b :: d1 :: t)) k8 fun d2 t9 k9 => uncons (P := fun t => P (y1 :: y2 :: y3 :: y4 :: a :: m1 :: m2 :: b :: d1 :: d2 :: t)) k9 fun x t10 k10 => uncons (P := fun t => P (y1 :: y2 :: y3 :: y4 :: a :: m1 :: m2 :: b :: d1 :: d2 :: x :: t)) k10 fun h1 t11 k11 => uncons (P := fun t => P (y1 :: y2 :: y3 :: y4 :: a :: m1 :: m2 :: b :: d1 :: d2 :: x :: h1 :: t)) k11 fun h2 t12 k12 => uncons (P := fun t => P (y1 :: y2 :: y3 :: y4 :: a :: m1 :: m2 :: b :: d1 :: d2 :: x :: h1 :: h2 :: t)) k12 fun e t13 k13 => uncons (P := fun t => P (y1 :: y2 :: y3 :: y4 :: a :: m1 :: m2 :: b :: d1 :: d2 :: x :: h1 :: h2 :: e :: t)) k13 fun i1 t14 k14 => uncons (P := fun t => P (y1 :: y2 :: y3 :: y4 :: a :: m1 :: m2 :: b :: d1 :: d2 :: x :: h1 :: h2 :: e :: i1 :: t)) k14 fun i2 t15 k15 => uncons (P := fun t => P (y1 :: y2 :: y3 :: y4 :: a :: m1 :: m2 :: b :: d1 :: d2 :: x :: h1 :: h2 :: e :: i1 :: i2 :: t)) k15 fun f t16 k16 => uncons (P := fun t => P (y1 :: y2 :: y3 :: y4 :: a :: m1 :: m2 :: b :: d1 :: d2 :: x :: h1 :: h2 :: e :: i1 :: i2 :: f :: t)) k16 fun s1 t17 k17 => uncons (P := fun t => P (y1 :: y2 :: y3 :: y4 :: a :: m1 :: m2 :: b :: d1 :: d2 :: x :: h1 :: h2 :: e :: i1 :: i2 :: f :: s1 :: t)) k17 fun s2 t18 k18 => uncons (P := fun t => P (y1 :: y2 :: y3 :: y4 :: a :: m1 :: m2 :: b :: d1 :: d2 :: x :: h1 :: h2 :: e :: i1 :: i2 :: f :: s1 :: s2 :: t)) k18 fun c t19 k19 => k y1 y2 y3 y4 a m1 m2 b d1 d2 x h1 h2 e i1 i2 f s1 s2 c t19

noncomputable def resD : Option St → R PyData
  | some s => .ok s.D
  | none => .exc false

theorem cut_pre (pre z : List Nat) (i j : Nat) : cut (pre ++ z) (pre.length + i) (pre.length + j) = cut z i j := by
  unfold cut
  rw [List.take_append, List.take_of_length_le (by first | assumption | rfl | exact Nat.le_add_left _ _ | decide | lia), Nat.add_sub_cancel_left, List.drop_append, List.drop_of_length_le (by first | assumption | rfl | exact Nat.le_add_left _ _ | decide | lia), Nat.add_sub_cancel_left]
  rfl
theorem index_pre (pre z : List Nat) (i : Nat) (h : i < z.length) (k : Int) (hk : k = ((pre.length + i : Nat) : Int)) : index (dS (pre ++ z)) (.int k) = .ok (dS [z[i]]) := by
  subst hk
  have : pre.length + i < pre.length + z.length := by first | assumption | rfl | exact Nat.le_add_left _ _ | decide | lia
  have e : idxAt ((pre.length + i : Nat) : Int) (pre ++ z).length = some (pre.length + i) := by
    unfold idxAt
    rw [if_pos (by first | assumption | rfl | exact Nat.le_add_left _ _ | decide | lia), if_pos (by simp; lia)]
    simp; lia
  rw [index_3]
  simp only [sl_mk, List.toList_toArray]
  rw [e]
  first | rfl | simp [h]

/-- the second half of parse -/
noncomputable abbrev parseB : List PS := [(.ite (.cmp .ge (.loc 8) (.loc 1)) [.raise] []),
  (.asg 13 (.idx (.loc 0) (.loc 8))),
  (.ite (.or (.cmp .eq (.loc 13) (.cst (.str (PySem.Str.mk #[90])))) (.cmp .eq (.loc 13) (.cst (.str (PySem.Str.mk #[122]))))) [(.ite (.cmp .ne (.bin .add (.loc 8) (.cst (.int 1))) (.loc 1)) [.raise] []), (.asg 14 (.cst (.int 0)))] [(.ite (.or (.cmp .eq (.loc 13) (.cst (.str (PySem.Str.mk #[43])))) (.cmp .eq (.loc 13) (.cst (.str (PySem.Str.mk #[45]))))) [(.ite (.cmp .ne (.bin .add (.loc 8) (.cst (.int 6))) (.loc 1)) [.raise] []), (.asg 15 (.call 9 [(.loc 0), (.bin .add (.loc 8) (.cst (.int 1))), (.bin .add (.loc 8) (.cst (.int 3)))])), (.asg 16 (.call 9 [(.loc 0), (.bin .add (.loc 8) (.cst (.int 4))), (.bin .add (.loc 8) (.cst (.int 6)))])), (.ite (.or (.cmp .lt (.loc 15) (.cst (.int 0))) (.or (.cmp .lt (.loc 16) (.cst (.int 0))) (.cmp .ne (.idx (.loc 0) (.bin .add (.loc 8) (.cst (.int 3)))) (.cst (.str (PySem.Str.mk #[58])))))) [.raise] []), (.ite (.or (.cmp .gt (.loc 15) (.cst (.int 23))) (.cmp .gt (.loc 16) (.cst (.int 59)))) [.raise] []), (.asg 14 (.bin .add (.bin .mul (.loc 15) (.cst (.int 60))) (.loc 16))), (.ite (.cmp .eq (.loc 13) (.cst (.str (PySem.Str.mk #[45])))) [(.asg 14 (.neg (.loc 14))), (.ite (.cmp .eq (.loc 14) (.cst (.int 0))) [(.asg 14 (.cst .none))] [])] [])] [.raise])]),
  (.asg 17 (.tup [(.loc 2), (.loc 3), (.loc 4), (.loc 5), (.loc 6), (.loc 7), (.loc 9), (.loc 14)])),
  (.ite (.not (.call 8 [(.loc 17)])) [.raise] []),
  (.ret (.loc 17))]

theorem parse_end {T : List Fn} (hT : IsT T) {N n : Nat} (hn : 5 ≤ n) (hN : 12 ≤ N) (y mo d h mi se ns : Int) (off : Option Int) (o0 o1 o8 o10 o11 o12 o13 o15 o16 o17 : Option PyData) :
    fin (execs (run T N n) N [(.asg 17 (.tup [(.loc 2), (.loc 3), (.loc 4), (.loc 5), (.loc 6), (.loc 7), (.loc 9), (.loc 14)])), (.ite (.not (.call 8 [(.loc 17)])) [.raise] []), (.ret (.loc 17))]
      [o0, o1, some (.int y), some (.int mo), some (.int d), some (.int h), some (.int mi), some (.int se), o8, some (.int ns), o10, o11, o12, o13, some (offD off), o15, o16, o17]) =
    resD (if (St.mk y mo d h mi se ns off).valid then some ⟨y, mo, d, h, mi, se, ns, off⟩ else none) := by
  rw [execs_step (ρ' := [o0, o1, some (.int y), some (.int mo), some (.int d), some (.int h), some (.int mi), some (.int se), o8, some (.int ns), o10, o11, o12, o13, some (offD off), o15, o16, some (St.D ⟨y, mo, d, h, mi, se, ns, off⟩)]) (by first | rfl | simp [exec])]
  have hv := run_is_valid hT hn hN ⟨y, mo, d, h, mi, se, ns, off⟩
  have he : ev (run T N n) (.not (.call 8 [(.loc 17)])) [o0, o1, some (.int y), some (.int mo), some (.int d), some (.int h), some (.int mi), some (.int se), o8, some (.int ns), o10, o11, o12, o13, some (offD off), o15, o16, some (St.D ⟨y, mo, d, h, mi, se, ns, off⟩)] = .ok (.bool (decide (¬ St.valid ⟨y, mo, d, h, mi, se, ns, off⟩))) := by
    refine ev_not ?_
    rw [← hv]; first | rfl | simp
  by_cases v : St.valid ⟨y, mo, d, h, mi, se, ns, off⟩
  · rw [if_pos v, execs_ifN (fun q => q v) he]
    first | rfl | simp [execs, exec, resD]
  · rw [if_neg v, execs_ifP v he]
    first | rfl | simp [execs, exec, resD]

theorem digV_two {T : List Fn} (hT : IsT T) {N n : Nat} (hn : 1 ≤ n) (hN : 3 ≤ N) (pre z : List Nat) (i : Nat) (h : i + 2 ≤ z.length) (a b : Int) (ha : a = ((pre.length + i : Nat) : Int)) (hb : b = ((pre.length + (i + 2) : Nat) : Int)) :
    run T N n 9 [dS (pre ++ z), .int a, .int b] = .ok (.int (digV (cut z i (i + 2)))) := by
  subst ha hb
  rw [run_digits hT hn _ _ _ (by first | assumption | rfl | exact Nat.le_add_left _ _ | decide | lia) (by simp; lia) (by first | assumption | rfl | exact Nat.le_add_left _ _ | decide | lia), cut_pre]

theorem parse_zone {T : List Fn} (hT : IsT T) {N n : Nat} (hn : 5 ≤ n) (hN : 12 ≤ N) (pre z : List Nat) (y mo d h mi se ns : Int) (o10 o11 o12 o13 o14 o15 o16 o17 : Option PyData) :
    fin (execs (run T N n) N parseB [some (dS (pre ++ z)), some (.int ((pre ++ z).length : Nat)), some (.int y), some (.int mo), some (.int d), some (.int h), some (.int mi), some (.int se), some (.int pre.length), some (.int ns), o10, o11, o12, o13, o14, o15, o16, o17]) =
    resD (tailM y mo d h mi se ns z) := by
  cases z with
  | nil =>
    rw [execs_ifP (c := True) trivial (by first | rfl | simp)]
    first | rfl | simp [execs, exec, resD, tailM, zoneM]
  | cons c q =>
    rw [execs_ifN (c := ((pre ++ c :: q).length : Int) ≤ pre.length) (by simp; lia) (by first | rfl | simp), List.nil_append]
    rw [execs_step (ρ' := [some (dS (pre ++ c :: q)), some (.int ((pre ++ c :: q).length : Nat)), some (.int y), some (.int mo), some (.int d), some (.int h), some (.int mi), some (.int se), some (.int pre.length), some (.int ns), o10, o11, o12, some (dS [c]), o14, o15, o16, o17])
      (by rw [exec, ev, ev, ev]; simp only [getL_0, getL_s, R.bind_ok]; rw [index_pre pre (c :: q) 0 (by first | rfl | simp) _ (by first | rfl | simp)]; rfl)]
    unfold tailM zoneM
    by_cases h1 : c = 90 ∨ c = 122
    · rw [execs_ifP (c := c = 90 ∨ c = 122) h1 (ev_or (by first | rfl | simp) fun _ => by first | rfl | simp)]
      simp only [List.cons_append, List.nil_append, if_pos h1]
      by_cases h2 : q = []
      · subst h2
        rw [execs_ifN (c := False) (fun q => q) (by first | rfl | simp), List.nil_append]
        rw [execs_step (ρ' := [some (dS (pre ++ [c])), some (.int ((pre ++ [c]).length : Nat)), some (.int y), some (.int mo), some (.int d), some (.int h), some (.int mi), some (.int se), some (.int pre.length), some (.int ns), o10, o11, o12, some (dS [c]), some (offD (some 0)), o15, o16, o17]) (by first | rfl | simp [exec])]
        rw [parse_end hT hn hN]
        first | rfl | simp
      · have hq : q.length ≠ 0 := by simpa using h2
        rw [if_neg h2, execs_ifP (c := True) trivial (by simp; lia)]
        first | rfl | simp [execs, exec, resD]
    · rw [execs_ifN (c := c = 90 ∨ c = 122) h1 (ev_or (by first | rfl | simp) fun _ => by first | rfl | simp)]
      simp only [List.cons_append, List.nil_append, if_neg h1]
      by_cases h2 : c = 43 ∨ c = 45
      · rw [execs_ifP (c := c = 43 ∨ c = 45) h2 (ev_or (by first | rfl | simp) fun _ => by first | rfl | simp)]
        simp only [List.cons_append, List.nil_append, if_pos h2]
        by_cases h3 : q.length = 5
        · rw [execs_ifN (c := False) (fun q => q) (by first | rfl | simp [h3]), List.nil_append]
          obtain ⟨a1, a2, m, b1, b2, rfl⟩ : ∃ a1 a2 m b1 b2, q = [a1, a2, m, b1, b2] := by
            match q, h3 with
            | [a1, a2, m, b1, b2], _ => exact ⟨a1, a2, m, b1, b2, rfl⟩
          dsimp only
          rw [execs_step (ρ' := [some (dS (pre ++ [c, a1, a2, m, b1, b2])), some (.int ((pre ++ [c, a1, a2, m, b1, b2]).length : Nat)), some (.int y), some (.int mo), some (.int d), some (.int h), some (.int mi), some (.int se), some (.int pre.length), some (.int ns), o10, o11, o12, some (dS [c]), o14, some (.int (digV [a1, a2])), o16, o17])
            (by rw [exec, ev]; simp only [evs, ev, getL_0, getL_s, R.bind_ok, binop_1]; rw [digV_two hT (by first | assumption | rfl | exact Nat.le_add_left _ _ | decide | lia) (by first | assumption | rfl | exact Nat.le_add_left _ _ | decide | lia) pre [c, a1, a2, m, b1, b2] 1 (by first | rfl | simp) _ _ (by first | rfl | simp) (by first | rfl | simp)]; first | rfl | simp [cut])]
          rw [execs_step (ρ' := [some (dS (pre ++ [c, a1, a2, m, b1, b2])), some (.int ((pre ++ [c, a1, a2, m, b1, b2]).length : Nat)), some (.int y), some (.int mo), some (.int d), some (.int h), some (.int mi), some (.int se), some (.int pre.length), some (.int ns), o10, o11, o12, some (dS [c]), o14, some (.int (digV [a1, a2])), some (.int (digV [b1, b2])), o17])
            (by rw [exec, ev]; simp only [evs, ev, getL_0, getL_s, R.bind_ok, binop_1]; rw [digV_two hT (by first | assumption | rfl | exact Nat.le_add_left _ _ | decide | lia) (by first | assumption | rfl | exact Nat.le_add_left _ _ | decide | lia) pre [c, a1, a2, m, b1, b2] 4 (by first | rfl | simp) _ _ (by first | rfl | simp) (by first | rfl | simp)]; first | rfl | simp [cut])]
          have ht : ev (run T N n) (.or (.cmp .lt (.loc 15) (.cst (.int 0))) (.or (.cmp .lt (.loc 16) (.cst (.int 0))) (.cmp .ne (.idx (.loc 0) (.bin .add (.loc 8) (.cst (.int 3)))) (.cst (.str (PySem.Str.mk #[58]))))))
              [some (dS (pre ++ [c, a1, a2, m, b1, b2])), some (.int ((pre ++ [c, a1, a2, m, b1, b2]).length : Nat)), some (.int y), some (.int mo), some (.int d), some (.int h), some (.int mi), some (.int se), some (.int pre.length), some (.int ns), o10, o11, o12, some (dS [c]), o14, some (.int (digV [a1, a2])), some (.int (digV [b1, b2])), o17] =
              .ok (.bool (decide (digV [a1, a2] < 0 ∨ digV [b1, b2] < 0 ∨ m ≠ 58))) := by
            refine ev_or (by first | rfl | simp) fun _ => ev_or (by first | rfl | simp) fun _ => ?_
            rw [ev, ev, ev]; simp only [ev, getL_0, getL_s, R.bind_ok, binop_1]; rw [index_pre pre [c, a1, a2, m, b1, b2] 3 (by first | rfl | simp) _ (by first | rfl | simp)]; first | rfl | simp
          by_cases h4 : digV [a1, a2] < 0 ∨ digV [b1, b2] < 0 ∨ m ≠ 58
          · rw [if_pos h4, execs_ifP h4 ht]
            first | rfl | simp [execs, exec, resD]
          · rw [if_neg h4, execs_ifN h4 ht, List.nil_append]
            by_cases h5 : digV [a1, a2] > 23 ∨ digV [b1, b2] > 59
            · rw [if_pos h5, execs_ifP (c := digV [a1, a2] > 23 ∨ digV [b1, b2] > 59) h5 (ev_or (by first | rfl | simp) fun _ => by first | rfl | simp)]
              first | rfl | simp [execs, exec, resD]
            · rw [if_neg h5, execs_ifN (c := digV [a1, a2] > 23 ∨ digV [b1, b2] > 59) h5 (ev_or (by first | rfl | simp) fun _ => by first | rfl | simp), List.nil_append]
              generalize digV [a1, a2] = oh
              generalize digV [b1, b2] = om
              rw [execs_step (ρ' := [some (dS (pre ++ [c, a1, a2, m, b1, b2])), some (.int ((pre ++ [c, a1, a2, m, b1, b2]).length : Nat)), some (.int y), some (.int mo), some (.int d), some (.int h), some (.int mi), some (.int se), some (.int pre.length), some (.int ns), o10, o11, o12, some (dS [c]), some (.int (oh * 60 + om)), some (.int oh), some (.int om), o17])
                (by first | rfl | simp [exec, smallI])]
              by_cases h6 : c = 45
              · rw [if_pos h6, execs_ifP (c := c = 45) h6 (by first | rfl | simp)]
                simp only [List.cons_append, List.nil_append]
                rw [execs_step (ρ' := [some (dS (pre ++ [c, a1, a2, m, b1, b2])), some (.int ((pre ++ [c, a1, a2, m, b1, b2]).length : Nat)), some (.int y), some (.int mo), some (.int d), some (.int h), some (.int mi), some (.int se), some (.int pre.length), some (.int ns), o10, o11, o12, some (dS [c]), some (.int (-(oh * 60 + om))), some (.int oh), some (.int om), o17])
                  (by first | rfl | simp [exec])]
                by_cases h7 : -(oh * 60 + om) = 0
                · rw [if_pos h7, execs_ifP (c := -(oh * 60 + om) = 0) h7 (by first | rfl | simp)]
                  simp only [List.cons_append, List.nil_append]
                  rw [execs_step (ρ' := [some (dS (pre ++ [c, a1, a2, m, b1, b2])), some (.int ((pre ++ [c, a1, a2, m, b1, b2]).length : Nat)), some (.int y), some (.int mo), some (.int d), some (.int h), some (.int mi), some (.int se), some (.int pre.length), some (.int ns), o10, o11, o12, some (dS [c]), some (offD none), some (.int oh), some (.int om), o17])
                    (by first | rfl | simp [exec])]
                  rw [parse_end hT hn hN]
                · rw [if_neg h7, execs_ifN (c := -(oh * 60 + om) = 0) h7 (by first | rfl | simp), List.nil_append]
                  exact parse_end hT hn hN y mo d h mi se ns (some (-(oh * 60 + om))) _ _ _ _ _ _ _ _ _ _
              · rw [if_neg h6, execs_ifN (c := c = 45) h6 (by first | rfl | simp), List.nil_append]
                exact parse_end hT hn hN y mo d h mi se ns (some (oh * 60 + om)) _ _ _ _ _ _ _ _ _ _
        · rw [execs_ifP (c := True) trivial (by simp; lia)]
          match q, h3 with
          | [], _ => simp [execs, exec, resD]
          | [_], _ => simp [execs, exec, resD]
          | [_, _], _ => simp [execs, exec, resD]
          | [_, _, _], _ => simp [execs, exec, resD]
          | [_, _, _, _], _ => simp [execs, exec, resD]
          | [_, _, _, _, _], h3 => exact absurd rfl h3
          | _ :: _ :: _ :: _ :: _ :: _ :: _, _ => simp [execs, exec, resD]
      · rw [if_neg h2, execs_ifN (c := c = 43 ∨ c = 45) h2 (ev_or (by first | rfl | simp) fun _ => by first | rfl | simp)]
        first | rfl | simp [execs, exec, resD]
end Mine

namespace Mine
open PySem

theorem loop_j {T : List Fn} {N n : Nat} (o2 o3 o4 o5 o6 o7 o8 o9 o11 o12 o13 o14 o15 o16 o17 : Option PyData) : ∀ (w p : List Nat) (m : Nat),
    loopW (fun ρ => ev (run T N n) (.and (.cmp .lt (.loc 10) (.loc 1)) (.cmp .isIn (.idx (.loc 0) (.loc 10)) (.cst (.str (PySem.Str.mk #[48, 49, 50, 51, 52, 53, 54, 55, 56, 57]))))) ρ)
      (fun ρ => execs (run T N n) N [(.asg 10 (.bin .add (.loc 10) (.cst (.int 1))))] ρ) (m + (w.takeWhile digit).length + 1)
      [some (dS (p ++ w)), some (.int ((p ++ w).length : Nat)), o2, o3, o4, o5, o6, o7, o8, o9, some (.int p.length), o11, o12, o13, o14, o15, o16, o17] =
    .ok (.next [some (dS (p ++ w)), some (.int ((p ++ w).length : Nat)), o2, o3, o4, o5, o6, o7, o8, o9, some (.int ((p.length + (w.takeWhile digit).length : Nat) : Int)), o11, o12, o13, o14, o15, o16, o17]) := by
  intro w
  induction w with
  | nil =>
    intro p m
    rw [loopW_false]
    · first | rfl | simp
    · first | rfl | simp
  | cons c w ih =>
    intro p m
    have hi : index (dS (p ++ c :: w)) (.int p.length) = .ok (dS [c]) := index_pre p (c :: w) 0 (by first | rfl | simp) _ (by first | rfl | simp)
    have ht : ev (run T N n) (.and (.cmp .lt (.loc 10) (.loc 1)) (.cmp .isIn (.idx (.loc 0) (.loc 10)) (.cst (.str (PySem.Str.mk #[48, 49, 50, 51, 52, 53, 54, 55, 56, 57])))))
        [some (dS (p ++ c :: w)), some (.int ((p ++ c :: w).length : Nat)), o2, o3, o4, o5, o6, o7, o8, o9, some (.int p.length), o11, o12, o13, o14, o15, o16, o17] = .ok (.bool (digit c)) := by
      have : (p.length : Int) < ((p ++ c :: w).length : Nat) := by simp; lia
      rw [ev, ev, ev]
      simp only [ev, getL_0, getL_s, R.bind_ok, cmpop_3, truthy_1, this, decide_true]
      rw [hi]
      first | rfl | simp [digit_iff]
    by_cases hd : digit c = true
    · rw [List.takeWhile_cons_of_pos hd, List.length_cons, show m + ((w.takeWhile digit).length + 1) + 1 = (m + (w.takeWhile digit).length + 1) + 1 by first | assumption | rfl | exact Nat.le_add_left _ _ | decide | lia]
      have := ih (p ++ [c]) m
      simp only [List.append_assoc, List.cons_append, List.nil_append] at this
      rw [loopW_true (ρ' := [some (dS (p ++ c :: w)), some (.int ((p ++ c :: w).length : Nat)), o2, o3, o4, o5, o6, o7, o8, o9, some (.int ((p ++ [c]).length : Nat)), o11, o12, o13, o14, o15, o16, o17]) (by rw [ht, hd]), this]
      · rw [show (p ++ [c]).length + (w.takeWhile digit).length = p.length + ((w.takeWhile digit).length + 1) by simp; lia]
      · first | rfl | simp [execs, exec]
    · rw [List.takeWhile_cons_of_neg hd]
      rw [loopW_false (by rw [ht]; simp at hd; rw [hd])]
      first | rfl | simp

theorem loop_k {T : List Fn} {N n : Nat} (o0 o1 o2 o3 o4 o5 o6 o7 o8 o10 o11 o13 o14 o15 o16 o17 : Option PyData) : ∀ (k m : Nat) (v : Int), k ≤ 9 →
    loopW (fun ρ => ev (run T N n) (.cmp .lt (.loc 12) (.cst (.int 9))) ρ)
      (fun ρ => execs (run T N n) N [(.asg 9 (.bin .mul (.loc 9) (.cst (.int 10)))), (.asg 12 (.bin .add (.loc 12) (.cst (.int 1))))] ρ) (m + k + 1)
      [o0, o1, o2, o3, o4, o5, o6, o7, o8, some (.int v), o10, o11, some (.int ((9 - k : Nat) : Int)), o13, o14, o15, o16, o17] =
    .ok (.next [o0, o1, o2, o3, o4, o5, o6, o7, o8, some (.int (v * 10 ^ k)), o10, o11, some (.int 9), o13, o14, o15, o16, o17]) := by
  intro k
  induction k with
  | zero =>
    intro m v _
    rw [loopW_false (by first | rfl | simp)]
    first | rfl | simp
  | succ k ih =>
    intro m v h
    rw [loopW_true (ρ' := [o0, o1, o2, o3, o4, o5, o6, o7, o8, some (.int (v * 10)), o10, o11, some (.int ((9 - k : Nat) : Int)), o13, o14, o15, o16, o17]), show m + (k + 1) = m + k + 1 by first | assumption | rfl | exact Nat.le_add_left _ _ | decide | lia, ih m (v * 10) (by first | assumption | rfl | exact Nat.le_add_left _ _ | decide | lia)]
    · rw [Int.pow_succ, Int.mul_assoc, Int.mul_comm 10]
    · simp; lia
    · simp [execs, exec, smallI]; lia

theorem takeWhile_all (r : List Nat) : (r.takeWhile digit).all digit = true := by
  rw [List.all_eq_true]
  intro c hc
  induction r with
  | nil => simp at hc
  | cons d r ih =>
    by_cases hd : digit d = true
    · rw [List.takeWhile_cons_of_pos hd] at hc
      rcases List.mem_cons.mp hc with rfl | hc
      · exact hd
      · exact ih hc
    · rw [List.takeWhile_cons_of_neg hd] at hc; simp at hc

theorem run_parse {T : List Fn} (hT : IsT T) {N n : Nat} (hn : 6 ≤ n) (t : List Nat) (hN : t.length + 12 ≤ N) : run T N n 10 [dS t] = resD (parseM t) := by
  obtain ⟨k, rfl⟩ := Nat.exists_eq_add_of_le' hn
  rw [run_at (hT.at_ 10 p_parse rfl) rfl]
  simp only [p_parse, start, List.map_cons, List.map_nil, Nat.reduceSub, List.replicate_succ, List.replicate_zero, List.cons_append, List.nil_append]
  rw [execs_step (ρ' := [some (dS t), some (.int t.length), none, none, none, none, none, none, none, none, none, none, none, none, none, none, none, none]) (by first | rfl | simp [exec])]
  by_cases hs : t.length < 20
  · rw [execs_ifP (c := t.length < 20) hs (by simp; lia), parseM_short hs]
    first | rfl | simp [execs, exec, resD]
  rw [execs_ifN (c := t.length < 20) hs (by simp; lia), List.nil_append]
  revert hN
  refine twenty hs fun y1 y2 y3 y4 a m1 m2 b d1 d2 x h1 h2 e i1 i2 f s1 s2 c r hN => ?_
  change _ = resD (parse20 y1 y2 y3 y4 a m1 m2 b d1 d2 x h1 h2 e i1 i2 f s1 s2 c r)
  rw [parse20]
  have H : ∀ (i j : Nat), i ≤ j → j ≤ 20 → run T N (k + 5) 9 [dS (y1 :: y2 :: y3 :: y4 :: a :: m1 :: m2 :: b :: d1 :: d2 :: x :: h1 :: h2 :: e :: i1 :: i2 :: f :: s1 :: s2 :: c :: r), .int i, .int j] =
      .ok (.int (digV (cut (y1 :: y2 :: y3 :: y4 :: a :: m1 :: m2 :: b :: d1 :: d2 :: x :: h1 :: h2 :: e :: i1 :: i2 :: f :: s1 :: s2 :: c :: r) i j))) := fun i j h1 h2 =>
    run_digits hT (by first | assumption | rfl | exact Nat.le_add_left _ _ | decide | lia) _ _ _ h1 (by simp; lia) (by simp at hN; lia)
  generalize htt : (y1 :: y2 :: y3 :: y4 :: a :: m1 :: m2 :: b :: d1 :: d2 :: x :: h1 :: h2 :: e :: i1 :: i2 :: f :: s1 :: s2 :: c :: r) = tt at H
  have l1 : cut tt 0 4 = [y1, y2, y3, y4] := by subst htt; rfl
  have l2 : cut tt 5 7 = [m1, m2] := by subst htt; rfl
  have l3 : cut tt 8 10 = [d1, d2] := by subst htt; rfl
  have l4 : cut tt 11 13 = [h1, h2] := by subst htt; rfl
  have l5 : cut tt 14 16 = [i1, i2] := by subst htt; rfl
  have l6 : cut tt 17 19 = [s1, s2] := by subst htt; rfl
  have H1 := H 0 4 (by first | assumption | rfl | exact Nat.le_add_left _ _ | decide | lia) (by first | assumption | rfl | exact Nat.le_add_left _ _ | decide | lia)
  have H2 := H 5 7 (by first | assumption | rfl | exact Nat.le_add_left _ _ | decide | lia) (by first | assumption | rfl | exact Nat.le_add_left _ _ | decide | lia)
  have H3 := H 8 10 (by first | assumption | rfl | exact Nat.le_add_left _ _ | decide | lia) (by first | assumption | rfl | exact Nat.le_add_left _ _ | decide | lia)
  have H4 := H 11 13 (by first | assumption | rfl | exact Nat.le_add_left _ _ | decide | lia) (by first | assumption | rfl | exact Nat.le_add_left _ _ | decide | lia)
  have H5 := H 14 16 (by first | assumption | rfl | exact Nat.le_add_left _ _ | decide | lia) (by first | assumption | rfl | exact Nat.le_add_left _ _ | decide | lia)
  have H6 := H 17 19 (by first | assumption | rfl | exact Nat.le_add_left _ _ | decide | lia) (by first | assumption | rfl | exact Nat.le_add_left _ _ | decide | lia)
  rw [l1] at H1
  rw [l2] at H2
  rw [l3] at H3
  rw [l4] at H4
  rw [l5] at H5
  rw [l6] at H6
  simp only [Int.cast_ofNat_Int, Int.natCast_zero] at H1 H2 H3 H4 H5 H6
  generalize digV [y1, y2, y3, y4] = Y at H1 ⊢
  generalize digV [m1, m2] = MO at H2 ⊢
  generalize digV [d1, d2] = DD at H3 ⊢
  generalize digV [h1, h2] = HH at H4 ⊢
  generalize digV [i1, i2] = MI at H5 ⊢
  generalize digV [s1, s2] = SS at H6 ⊢
  rw [execs_step (ρ' := [some (dS tt), some (.int tt.length), some (.int Y), none, none, none, none, none, none, none, none, none, none, none, none, none, none, none]) (by first | rfl | simp [exec, H1])]
  rw [execs_step (ρ' := [some (dS tt), some (.int tt.length), some (.int Y), some (.int MO), none, none, none, none, none, none, none, none, none, none, none, none, none, none]) (by first | rfl | simp [exec, H2])]
  rw [execs_step (ρ' := [some (dS tt), some (.int tt.length), some (.int Y), some (.int MO), some (.int DD), none, none, none, none, none, none, none, none, none, none, none, none, none]) (by first | rfl | simp [exec, H3])]
  rw [execs_step (ρ' := [some (dS tt), some (.int tt.length), some (.int Y), some (.int MO), some (.int DD), some (.int HH), none, none, none, none, none, none, none, none, none, none, none, none]) (by first | rfl | simp [exec, H4])]
  rw [execs_step (ρ' := [some (dS tt), some (.int tt.length), some (.int Y), some (.int MO), some (.int DD), some (.int HH), some (.int MI), none, none, none, none, none, none, none, none, none, none, none]) (by first | rfl | simp [exec, H5])]
  rw [execs_step (ρ' := [some (dS tt), some (.int tt.length), some (.int Y), some (.int MO), some (.int DD), some (.int HH), some (.int MI), some (.int SS), none, none, none, none, none, none, none, none, none, none]) (by first | rfl | simp [exec, H6])]
  by_cases g1 : Y < 0 ∨ MO < 0 ∨ DD < 0
  case pos =>
    rw [if_pos g1, execs_ifP (c := Y < 0 ∨ MO < 0 ∨ DD < 0) g1 (ev_or (by first | rfl | simp) fun _ => ev_or (by first | rfl | simp) fun _ => by first | rfl | simp)]
    first | rfl | simp [execs, exec, resD]
  rw [if_neg g1, execs_ifN (c := Y < 0 ∨ MO < 0 ∨ DD < 0) g1 (ev_or (by first | rfl | simp) fun _ => ev_or (by first | rfl | simp) fun _ => by first | rfl | simp), List.nil_append]
  by_cases g2 : HH < 0 ∨ MI < 0 ∨ SS < 0
  case pos =>
    rw [if_pos g2, execs_ifP (c := HH < 0 ∨ MI < 0 ∨ SS < 0) g2 (ev_or (by first | rfl | simp) fun _ => ev_or (by first | rfl | simp) fun _ => by first | rfl | simp)]
    first | rfl | simp [execs, exec, resD]
  rw [if_neg g2, execs_ifN (c := HH < 0 ∨ MI < 0 ∨ SS < 0) g2 (ev_or (by first | rfl | simp) fun _ => ev_or (by first | rfl | simp) fun _ => by first | rfl | simp), List.nil_append]
  have I4 : index (dS tt) (.int 4) = .ok (dS [a]) := by subst htt; exact index_pre [y1, y2, y3, y4] (a :: m1 :: m2 :: b :: d1 :: d2 :: x :: h1 :: h2 :: e :: i1 :: i2 :: f :: s1 :: s2 :: c :: r) 0 (by first | rfl | simp) _ (by first | rfl | simp)
  have I7 : index (dS tt) (.int 7) = .ok (dS [b]) := by subst htt; exact index_pre [y1, y2, y3, y4] (a :: m1 :: m2 :: b :: d1 :: d2 :: x :: h1 :: h2 :: e :: i1 :: i2 :: f :: s1 :: s2 :: c :: r) 3 (by first | rfl | simp) _ (by first | rfl | simp)
  have I10 : index (dS tt) (.int 10) = .ok (dS [x]) := by subst htt; exact index_pre [y1, y2, y3, y4] (a :: m1 :: m2 :: b :: d1 :: d2 :: x :: h1 :: h2 :: e :: i1 :: i2 :: f :: s1 :: s2 :: c :: r) 6 (by first | rfl | simp) _ (by first | rfl | simp)
  have I13 : index (dS tt) (.int 13) = .ok (dS [e]) := by subst htt; exact index_pre [y1, y2, y3, y4] (a :: m1 :: m2 :: b :: d1 :: d2 :: x :: h1 :: h2 :: e :: i1 :: i2 :: f :: s1 :: s2 :: c :: r) 9 (by first | rfl | simp) _ (by first | rfl | simp)
  have I16 : index (dS tt) (.int 16) = .ok (dS [f]) := by subst htt; exact index_pre [y1, y2, y3, y4] (a :: m1 :: m2 :: b :: d1 :: d2 :: x :: h1 :: h2 :: e :: i1 :: i2 :: f :: s1 :: s2 :: c :: r) 12 (by first | rfl | simp) _ (by first | rfl | simp)
  have I19 : index (dS tt) (.int 19) = .ok (dS [c]) := by subst htt; exact index_pre [y1, y2, y3, y4] (a :: m1 :: m2 :: b :: d1 :: d2 :: x :: h1 :: h2 :: e :: i1 :: i2 :: f :: s1 :: s2 :: c :: r) 15 (by first | rfl | simp) _ (by first | rfl | simp)
  have cmpNe : ∀ (ρ : Env') (i : Int) (u v : Nat), getL ρ 0 = .ok (dS tt) → index (dS tt) (.int i) = .ok (dS [u]) → ev (run T N (k + 5)) (.cmp .ne (.idx (.loc 0) (.cst (.int i))) (.cst (.str (PySem.Str.mk #[v])))) ρ = .ok (.bool (decide (u ≠ v))) := by
    intro ρ i u v h0 h
    simp only [ev, h0, R.bind_ok, h]
    first | rfl | simp
  by_cases g3 : a ≠ 45 ∨ b ≠ 45
  case pos =>
    rw [if_pos g3, execs_ifP (c := a ≠ 45 ∨ b ≠ 45) g3 (ev_or (cmpNe _ _ _ _ rfl I4) fun _ => cmpNe _ _ _ _ rfl I7)]
    first | rfl | simp [execs, exec, resD]
  rw [if_neg g3, execs_ifN (c := a ≠ 45 ∨ b ≠ 45) g3 (ev_or (cmpNe _ _ _ _ rfl I4) fun _ => cmpNe _ _ _ _ rfl I7), List.nil_append]
  by_cases g4 : x ≠ 84 ∧ x ≠ 116
  case pos =>
    rw [if_pos g4, execs_ifP (c := x ≠ 84 ∧ x ≠ 116) g4 (ev_and (cmpNe _ _ _ _ rfl I10) fun _ => cmpNe _ _ _ _ rfl I10)]
    first | rfl | simp [execs, exec, resD]
  rw [if_neg g4, execs_ifN (c := x ≠ 84 ∧ x ≠ 116) g4 (ev_and (cmpNe _ _ _ _ rfl I10) fun _ => cmpNe _ _ _ _ rfl I10), List.nil_append]
  by_cases g5 : e ≠ 58 ∨ f ≠ 58
  case pos =>
    rw [if_pos g5, execs_ifP (c := e ≠ 58 ∨ f ≠ 58) g5 (ev_or (cmpNe _ _ _ _ rfl I13) fun _ => cmpNe _ _ _ _ rfl I16)]
    first | rfl | simp [execs, exec, resD]
  rw [if_neg g5, execs_ifN (c := e ≠ 58 ∨ f ≠ 58) g5 (ev_or (cmpNe _ _ _ _ rfl I13) fun _ => cmpNe _ _ _ _ rfl I16), List.nil_append]
  rw [execs_step (ρ' := [some (dS tt), some (.int tt.length), some (.int Y), some (.int MO), some (.int DD), some (.int HH), some (.int MI), some (.int SS), some (.int 19), none, none, none, none, none, none, none, none, none]) (by first | rfl | simp [exec])]
  rw [execs_step (ρ' := [some (dS tt), some (.int tt.length), some (.int Y), some (.int MO), some (.int DD), some (.int HH), some (.int MI), some (.int SS), some (.int 19), some (.int 0), none, none, none, none, none, none, none, none]) (by first | rfl | simp [exec])]
  have cmpDot : ev (run T N (k + 5)) (.cmp .eq (.idx (.loc 0) (.loc 8)) (.cst (.str (PySem.Str.mk #[46])))) [some (dS tt), some (.int tt.length), some (.int Y), some (.int MO), some (.int DD), some (.int HH), some (.int MI), some (.int SS), some (.int 19), some (.int 0), none, none, none, none, none, none, none, none] = .ok (.bool (decide (c = 46))) := by
    simp only [ev, getL_0, getL_s, R.bind_ok, I19]
    first | rfl | simp
  rw [fracM]
  by_cases g6 : c = 46
  case neg =>
    rw [if_neg g6, execs_ifN g6 cmpDot, List.nil_append]
    have := parse_zone hT (N := N) (n := k + 5) (by first | assumption | rfl | exact Nat.le_add_left _ _ | decide | lia) (by first | assumption | rfl | exact Nat.le_add_left _ _ | decide | lia) [y1, y2, y3, y4, a, m1, m2, b, d1, d2, x, h1, h2, e, i1, i2, f, s1, s2] (c :: r) Y MO DD HH MI SS 0 none none none none none none none none
    rw [show [y1, y2, y3, y4, a, m1, m2, b, d1, d2, x, h1, h2, e, i1, i2, f, s1, s2] ++ c :: r = tt from htt] at this
    exact this
  rw [if_pos g6, execs_ifP g6 cmpDot]
  simp only [List.cons_append, List.nil_append]
  have hp : [y1, y2, y3, y4, a, m1, m2, b, d1, d2, x, h1, h2, e, i1, i2, f, s1, s2, c] ++ r = tt := htt
  rw [execs_step (ρ' := [some (dS tt), some (.int tt.length), some (.int Y), some (.int MO), some (.int DD), some (.int HH), some (.int MI), some (.int SS), some (.int 19), some (.int 0), some (.int 20), none, none, none, none, none, none, none]) (by first | rfl | simp [exec])]
  have hlen : (r.takeWhile digit).length + 21 ≤ N := by
    have := (List.takeWhile_sublist digit (l := r)).length_le
    simp at hN; lia
  have LJ := loop_j (T := T) (N := N) (n := k + 5) (some (.int Y)) (some (.int MO)) (some (.int DD)) (some (.int HH)) (some (.int MI)) (some (.int SS)) (some (.int 19)) (some (.int 0)) none none none none none none none r [y1, y2, y3, y4, a, m1, m2, b, d1, d2, x, h1, h2, e, i1, i2, f, s1, s2, c] (N - 1 - (r.takeWhile digit).length)
  rw [hp, show N - 1 - (r.takeWhile digit).length + (r.takeWhile digit).length + 1 = N by first | assumption | rfl | exact Nat.le_add_left _ _ | decide | lia] at LJ
  rw [execs_step (ρ' := [some (dS tt), some (.int tt.length), some (.int Y), some (.int MO), some (.int DD), some (.int HH), some (.int MI), some (.int SS), some (.int 19), some (.int 0), some (.int ((20 + (r.takeWhile digit).length : Nat) : Int)), none, none, none, none, none, none, none]) (by
    rw [exec]; exact congrArg noExc LJ)]
  rw [execs_step (ρ' := [some (dS tt), some (.int tt.length), some (.int Y), some (.int MO), some (.int DD), some (.int HH), some (.int MI), some (.int SS), some (.int 19), some (.int 0), some (.int ((20 + (r.takeWhile digit).length : Nat) : Int)), some (.int (r.takeWhile digit).length), none, none, none, none, none, none]) (by
    simp [exec]; lia)]
  have cmpC : ev (run T N (k + 5)) (.or (.cmp .lt (.loc 11) (.cst (.int 1))) (.cmp .gt (.loc 11) (.cst (.int 9)))) [some (dS tt), some (.int tt.length), some (.int Y), some (.int MO), some (.int DD), some (.int HH), some (.int MI), some (.int SS), some (.int 19), some (.int 0), some (.int ((20 + (r.takeWhile digit).length : Nat) : Int)), some (.int (r.takeWhile digit).length), none, none, none, none, none, none] =
      .ok (.bool (decide ((r.takeWhile digit).length < 1 ∨ (r.takeWhile digit).length > 9))) :=
    ev_or (by simp only [ev, getL_0, getL_s, R.bind_ok, cmpop_3]; exact congrArg (fun b => R.ok (PyData.bool b)) (decide_eq_decide.mpr (by first | assumption | rfl | exact Nat.le_add_left _ _ | decide | lia)))
      fun _ => by simp only [ev, getL_0, getL_s, R.bind_ok, cmpop_5]; exact congrArg (fun b => R.ok (PyData.bool b)) (decide_eq_decide.mpr (by first | assumption | rfl | exact Nat.le_add_left _ _ | decide | lia))
  by_cases g7 : (r.takeWhile digit).length < 1 ∨ (r.takeWhile digit).length > 9
  case pos =>
    rw [if_pos g7, execs_ifP g7 cmpC]
    first | rfl | simp [execs, exec, resD]
  rw [if_neg g7, execs_ifN g7 cmpC, List.nil_append]
  have hr : r.takeWhile digit ++ r.dropWhile digit = r := List.takeWhile_append_dropWhile
  have hds : run T N (k + 5) 9 [dS tt, .int 20, .int ((20 + (r.takeWhile digit).length : Nat) : Int)] = .ok (.int (digitsVal (r.takeWhile digit))) := by
    have := run_digits hT (N := N) (n := k + 5) (by first | assumption | rfl | exact Nat.le_add_left _ _ | decide | lia) tt 20 (20 + (r.takeWhile digit).length) (by first | assumption | rfl | exact Nat.le_add_left _ _ | decide | lia) (by rw [← hp]; have := (List.takeWhile_sublist digit (l := r)).length_le; simp; lia) (by first | assumption | rfl | exact Nat.le_add_left _ _ | decide | lia)
    rw [show ((20 : Nat) : Int) = 20 from rfl] at this
    rw [this]
    have hc : cut tt 20 (20 + (r.takeWhile digit).length) = r.takeWhile digit := by
      have := cut_pre [y1, y2, y3, y4, a, m1, m2, b, d1, d2, x, h1, h2, e, i1, i2, f, s1, s2, c] r 0 (r.takeWhile digit).length
      rw [hp] at this
      refine Eq.trans this ?_
      unfold cut
      rw [List.drop_zero]
      have := List.take_left (l₁ := r.takeWhile digit) (l₂ := r.dropWhile digit)
      rwa [hr] at this
    rw [hc]
    unfold digV
    rw [if_pos (takeWhile_all r)]
  generalize hD : digitsVal (r.takeWhile digit) = V at hds ⊢
  rw [execs_step (ρ' := [some (dS tt), some (.int tt.length), some (.int Y), some (.int MO), some (.int DD), some (.int HH), some (.int MI), some (.int SS), some (.int 19), some (.int V), some (.int ((20 + (r.takeWhile digit).length : Nat) : Int)), some (.int (r.takeWhile digit).length), none, none, none, none, none, none]) (by
    rw [exec, ev]; simp only [evs, ev, getL_0, getL_s, R.bind_ok, binop_1]; rw [show (19 : Int) + 1 = 20 from rfl, hds]; first | rfl | simp)]
  rw [execs_step (ρ' := [some (dS tt), some (.int tt.length), some (.int Y), some (.int MO), some (.int DD), some (.int HH), some (.int MI), some (.int SS), some (.int 19), some (.int V), some (.int ((20 + (r.takeWhile digit).length : Nat) : Int)), some (.int (r.takeWhile digit).length), some (.int (r.takeWhile digit).length), none, none, none, none, none]) (by first | rfl | simp [exec])]
  have LK := loop_k (T := T) (N := N) (n := k + 5) (some (dS tt)) (some (.int tt.length)) (some (.int Y)) (some (.int MO)) (some (.int DD)) (some (.int HH)) (some (.int MI)) (some (.int SS)) (some (.int 19)) (some (.int ((20 + (r.takeWhile digit).length : Nat) : Int))) (some (.int (r.takeWhile digit).length)) none none none none none (9 - (r.takeWhile digit).length) (N - 1 - (9 - (r.takeWhile digit).length)) V (by first | assumption | rfl | exact Nat.le_add_left _ _ | decide | lia)
  rw [show N - 1 - (9 - (r.takeWhile digit).length) + (9 - (r.takeWhile digit).length) + 1 = N by first | assumption | rfl | exact Nat.le_add_left _ _ | decide | lia, show 9 - (9 - (r.takeWhile digit).length) = (r.takeWhile digit).length by first | assumption | rfl | exact Nat.le_add_left _ _ | decide | lia] at LK
  rw [execs_step (ρ' := [some (dS tt), some (.int tt.length), some (.int Y), some (.int MO), some (.int DD), some (.int HH), some (.int MI), some (.int SS), some (.int 19), some (.int (V * 10 ^ (9 - (r.takeWhile digit).length))), some (.int ((20 + (r.takeWhile digit).length : Nat) : Int)), some (.int (r.takeWhile digit).length), some (.int 9), none, none, none, none, none]) (by
    rw [exec]; exact congrArg noExc LK)]
  rw [execs_step (ρ' := [some (dS tt), some (.int tt.length), some (.int Y), some (.int MO), some (.int DD), some (.int HH), some (.int MI), some (.int SS), some (.int ((20 + (r.takeWhile digit).length : Nat) : Int)), some (.int (V * 10 ^ (9 - (r.takeWhile digit).length))), some (.int ((20 + (r.takeWhile digit).length : Nat) : Int)), some (.int (r.takeWhile digit).length), some (.int 9), none, none, none, none, none]) (by first | rfl | simp [exec])]
  have PZ := parse_zone hT (N := N) (n := k + 5) (by first | assumption | rfl | exact Nat.le_add_left _ _ | decide | lia) (by first | assumption | rfl | exact Nat.le_add_left _ _ | decide | lia) ([y1, y2, y3, y4, a, m1, m2, b, d1, d2, x, h1, h2, e, i1, i2, f, s1, s2, c] ++ r.takeWhile digit) (r.dropWhile digit) Y MO DD HH MI SS (V * 10 ^ (9 - (r.takeWhile digit).length)) (some (.int ((20 + (r.takeWhile digit).length : Nat) : Int))) (some (.int (r.takeWhile digit).length)) (some (.int 9)) none none none none none
  rw [List.append_assoc, hr, hp] at PZ
  rw [show ([y1, y2, y3, y4, a, m1, m2, b, d1, d2, x, h1, h2, e, i1, i2, f, s1, s2, c] ++ r.takeWhile digit).length = 20 + (r.takeWhile digit).length by simp; lia] at PZ
  exact PZ
end Mine

namespace Mine
open PySem

theorem padN (v : Int) (w : Nat) (h0 : 0 ≤ v) (h1 : v < 10 ^ (w + 1)) : padL v (w + 1) = dig (w + 1) v.toNat := by
  obtain ⟨n, rfl⟩ : ∃ n : Nat, v = n := ⟨v.toNat, by first | assumption | rfl | exact Nat.le_add_left _ _ | decide | lia⟩
  rw [Int.toNat_natCast]
  exact padL_dig w n (by exact_mod_cast h1)

theorem itoa_length {v : Nat} (w : Nat) (h : v < 10 ^ (w + 1)) : (itoa (v : Int)).length ≤ w + 1 := by
  have := congrArg List.length (padL_dig w v h)
  simp [padL, dig_length] at this
  lia

theorem run_padN {T : List Fn} (hT : IsT T) {N n : Nat} (hn : 1 ≤ n) (hN : 10 ≤ N) (v : Int) (w : Nat) (hw : w + 1 ≤ 9) (h0 : 0 ≤ v) (h1 : v < 10 ^ (w + 1)) (b : Int) (hb : b = ((w + 1 : Nat) : Int)) :
    run T N n 11 [.int v, .int b] = .ok (dS (dig (w + 1) v.toNat)) := by
  subst hb
  have h2 : v < 1000000000 := by
    have : (10 : Int) ^ (w + 1) ≤ 10 ^ 9 := by
      exact_mod_cast Nat.pow_le_pow_right (by first | assumption | rfl | exact Nat.le_add_left _ _ | decide | lia) hw
    lia
  rw [run_pad hT hn hN v (w + 1) (by unfold smallI; simp; lia) hw ?_, padN v w h0 h1]
  obtain ⟨n, rfl⟩ : ∃ n : Nat, v = n := ⟨v.toNat, by first | assumption | rfl | exact Nat.le_add_left _ _ | decide | lia⟩
  have := itoa_length (v := n) w (by exact_mod_cast h1)
  lia

noncomputable def headL (s : St) (x : Nat) : List Nat :=
  dig 4 s.y.toNat ++ [45] ++ dig 2 s.mo.toNat ++ [45] ++ dig 2 s.d.toNat ++ [x] ++ dig 2 s.h.toNat ++ [58] ++ dig 2 s.mi.toNat ++ [58] ++ dig 2 s.se.toNat
theorem headL_length (s : St) (x : Nat) : (headL s x).length = 19 := by first | rfl | simp [headL, dig_length]
noncomputable def fracL (ns : Int) : List Nat := if ns = 0 then [] else 46 :: rstripL [48] (dig 9 ns.toNat)
noncomputable def zoneL : Option Int → List Nat
  | none => [45, 48, 48, 58, 48, 48]
  | some o => if o = 0 then [90] else if o < 0 then 45 :: (dig 2 (-o / 60).toNat ++ [58] ++ dig 2 (-o % 60).toNat) else 43 :: (dig 2 (o / 60).toNat ++ [58] ++ dig 2 (o % 60).toNat)
noncomputable def fmtL (s : St) : List Nat := headL s 84 ++ fracL s.ns ++ zoneL s.off

theorem rstripL_snoc (x : List Nat) (c : Nat) : rstripL [48] (x ++ [c]) = if c = 48 then rstripL [48] x else x ++ [c] := by
  unfold rstripL
  rw [List.reverse_append, List.reverse_singleton, List.singleton_append]
  by_cases h : c = 48
  · rw [List.dropWhile_cons_of_pos (by first | rfl | simp [h]), if_pos h]
  · rw [List.dropWhile_cons_of_neg (by first | rfl | simp [h]), if_neg h]; first | rfl | simp
theorem rstripL_length (cs x : List Nat) : (rstripL cs x).length ≤ x.length := by
  unfold rstripL
  rw [List.length_reverse]
  have := (List.dropWhile_sublist (fun c => cs.contains c) (l := x.reverse)).length_le
  simpa using this

theorem loop_end {T : List Fn} {N n : Nat} (f : List Nat) (o0 o1 o2 o5 o6 o7 : Option PyData) : ∀ (e m : Nat), e ≤ f.length →
    loopW (fun ρ => ev (run T N n) (.and (.cmp .gt (.loc 4) (.cst (.int 0))) (.cmp .eq (.idx (.loc 3) (.bin .sub (.loc 4) (.cst (.int 1)))) (.cst (.str (PySem.Str.mk #[48]))))) ρ)
      (fun ρ => execs (run T N n) N [(.asg 4 (.bin .sub (.loc 4) (.cst (.int 1))))] ρ) (m + e + 1)
      [o0, o1, o2, some (dS f), some (.int e), o5, o6, o7] = .ok (.next [o0, o1, o2, some (dS f), some (.int (rstripL [48] (f.take e)).length), o5, o6, o7]) ∧ f.take (rstripL [48] (f.take e)).length = rstripL [48] (f.take e) := by
  intro e
  induction e with
  | zero =>
    intro m _
    refine ⟨?_, by first | rfl | simp [rstripL]⟩
    rw [loopW_false (by first | rfl | simp)]
    first | rfl | simp [rstripL]
  | succ e ih =>
    intro m h
    have he : e < f.length := by first | assumption | rfl | exact Nat.le_add_left _ _ | decide | lia
    have hi : index (dS f) (.int e) = .ok (dS [f[e]]) := index_pre [] f e he _ (by first | rfl | simp)
    have ht : ev (run T N n) (.and (.cmp .gt (.loc 4) (.cst (.int 0))) (.cmp .eq (.idx (.loc 3) (.bin .sub (.loc 4) (.cst (.int 1)))) (.cst (.str (PySem.Str.mk #[48]))))) [o0, o1, o2, some (dS f), some (.int ((e + 1 : Nat) : Int)), o5, o6, o7] = .ok (.bool (decide (f[e] = 48))) := by
      simp only [ev, getL_0, getL_s, R.bind_ok, cmpop_5, truthy_1, show (0 : Int) < ((e + 1 : Nat) : Int) by first | assumption | rfl | exact Nat.le_add_left _ _ | decide | lia, decide_true, binop_2]
      rw [show ((e + 1 : Nat) : Int) - 1 = e by first | assumption | rfl | exact Nat.le_add_left _ _ | decide | lia, hi]
      first | rfl | simp
    rw [List.take_succ_eq_append_getElem he, rstripL_snoc]
    by_cases hc : f[e] = 48
    · rw [if_pos hc]
      obtain ⟨a, b⟩ := ih m (by first | assumption | rfl | exact Nat.le_add_left _ _ | decide | lia)
      refine ⟨?_, b⟩
      rw [show m + (e + 1) + 1 = (m + e + 1) + 1 by first | assumption | rfl | exact Nat.le_add_left _ _ | decide | lia, loopW_true (ρ' := [o0, o1, o2, some (dS f), some (.int e), o5, o6, o7]) (by rw [ht, decide_eq_true hc]) (by first | rfl | simp [execs, exec]), a]
    · rw [if_neg hc]
      refine ⟨?_, ?_⟩
      · rw [loopW_false (by rw [ht, decide_eq_false hc])]
        simp; lia
      · rw [show (f.take e ++ [f[e]]).length = e + 1 by simp; lia, List.take_succ_eq_append_getElem he]

theorem run_format {T : List Fn} (hT : IsT T) {N n : Nat} (hn : 6 ≤ n) (hN : 20 ≤ N) (s : St) : run T N n 12 [s.D] = if s.valid then .ok (dS (fmtL s)) else .exc false := by
  obtain ⟨k, rfl⟩ := Nat.exists_eq_add_of_le' hn
  rw [run_at (hT.at_ 12 p_format_stamp rfl) rfl]
  simp only [p_format_stamp, start, List.map_cons, List.map_nil, Nat.reduceSub, List.replicate_succ, List.replicate_zero, List.cons_append, List.nil_append]
  have he : ev (run T N (k + 5)) (.not (.call 8 [(.loc 0)])) [some s.D, none, none, none, none, none, none, none] = .ok (.bool (decide (¬ s.valid))) := by
    refine ev_not ?_
    rw [← run_is_valid hT (N := N) (n := k + 5) (by first | assumption | rfl | exact Nat.le_add_left _ _ | decide | lia) (by first | assumption | rfl | exact Nat.le_add_left _ _ | decide | lia) s]; first | rfl | simp
  by_cases v : s.valid
  case neg =>
    rw [if_neg v, execs_ifP v he]
    first | rfl | simp [execs, exec]
  rw [if_pos v, execs_ifN (fun q => q v) he, List.nil_append]
  obtain ⟨⟨a1, a2, a3, a4, a5, a6, a7⟩, a8⟩ := v
  have hm : mLen s.y s.mo ≤ 31 := by unfold mLen; (repeat' split) <;> lia
  have hse : 0 ≤ s.se ∧ s.se ≤ 60 := by first | assumption | rfl | exact Nat.le_add_left _ _ | decide | lia
  have P := fun (v : Int) (w : Nat) (hw : w + 1 ≤ 9) (h0 : 0 ≤ v) (h1 : v < 10 ^ (w + 1)) (b : Int) (hb : b = ((w + 1 : Nat) : Int)) => run_padN hT (N := N) (n := k + 5) (by first | assumption | rfl | exact Nat.le_add_left _ _ | decide | lia) (by first | assumption | rfl | exact Nat.le_add_left _ _ | decide | lia) v w hw h0 h1 b hb
  have p1 := P s.y 3 (by first | assumption | rfl | exact Nat.le_add_left _ _ | decide | lia) a1.1 (by first | assumption | rfl | exact Nat.le_add_left _ _ | decide | lia) 4 rfl
  have p2 := P s.mo 1 (by first | assumption | rfl | exact Nat.le_add_left _ _ | decide | lia) (by first | assumption | rfl | exact Nat.le_add_left _ _ | decide | lia) (by first | assumption | rfl | exact Nat.le_add_left _ _ | decide | lia) 2 rfl
  have p3 := P s.d 1 (by first | assumption | rfl | exact Nat.le_add_left _ _ | decide | lia) (by first | assumption | rfl | exact Nat.le_add_left _ _ | decide | lia) (by first | assumption | rfl | exact Nat.le_add_left _ _ | decide | lia) 2 rfl
  have p4 := P s.h 1 (by first | assumption | rfl | exact Nat.le_add_left _ _ | decide | lia) (by first | assumption | rfl | exact Nat.le_add_left _ _ | decide | lia) (by first | assumption | rfl | exact Nat.le_add_left _ _ | decide | lia) 2 rfl
  have p5 := P s.mi 1 (by first | assumption | rfl | exact Nat.le_add_left _ _ | decide | lia) (by first | assumption | rfl | exact Nat.le_add_left _ _ | decide | lia) (by first | assumption | rfl | exact Nat.le_add_left _ _ | decide | lia) 2 rfl
  have p6 := P s.se 1 (by first | assumption | rfl | exact Nat.le_add_left _ _ | decide | lia) (by first | assumption | rfl | exact Nat.le_add_left _ _ | decide | lia) (by first | assumption | rfl | exact Nat.le_add_left _ _ | decide | lia) 2 rfl
  have p9 := P s.ns 8 (by first | assumption | rfl | exact Nat.le_add_left _ _ | decide | lia) a6.1 (by first | assumption | rfl | exact Nat.le_add_left _ _ | decide | lia) 9 rfl
  simp only [Nat.reduceAdd] at p1 p2 p3 p4 p5 p6 p9
  rw [execs_step (ρ' := [some s.D, some (dS (dig 4 s.y.toNat ++ [45] ++ dig 2 s.mo.toNat ++ [45] ++ dig 2 s.d.toNat)), none, none, none, none, none, none]) (by
    first | rfl | simp [exec, idxAt, p1, p2, p3, limit, dig_length])]
  rw [execs_step (ρ' := [some s.D, some (dS (headL s 84)), none, none, none, none, none, none]) (by
    first | rfl | simp [exec, idxAt, p4, p5, p6, limit, dig_length, headL])]
  rw [execs_step (ρ' := [some s.D, some (dS (headL s 84)), some (.int s.ns), none, none, none, none, none]) (by first | rfl | simp [exec, idxAt])]
  have key : ∀ (o3 o4 : Option PyData), fin (execs (run T N (k + 5)) N [(.asg 5 (.idx (.loc 0) (.cst (.int 7)))),
      (.ite (.isNone (.loc 5)) [(.ret (.bin .add (.loc 1) (.cst (.str (PySem.Str.mk #[45, 48, 48, 58, 48, 48])))))] []),
      (.ite (.cmp .eq (.loc 5) (.cst (.int 0))) [(.ret (.bin .add (.loc 1) (.cst (.str (PySem.Str.mk #[90])))))] []),
      (.ite (.cmp .lt (.loc 5) (.cst (.int 0))) [(.asg 6 (.cst (.str (PySem.Str.mk #[45])))), (.asg 7 (.neg (.loc 5)))] [(.asg 6 (.cst (.str (PySem.Str.mk #[43])))), (.asg 7 (.loc 5))]),
      (.ret (.bin .add (.bin .add (.bin .add (.bin .add (.loc 1) (.loc 6)) (.call 11 [(.bin .div (.loc 7) (.cst (.int 60))), (.cst (.int 2))])) (.cst (.str (PySem.Str.mk #[58])))) (.call 11 [(.bin .mod (.loc 7) (.cst (.int 60))), (.cst (.int 2))])))]
      [some s.D, some (dS (headL s 84 ++ fracL s.ns)), some (.int s.ns), o3, o4, none, none, none]) = .ok (dS (fmtL s)) := by
    intro o3 o4
    have hfl : (headL s 84 ++ fracL s.ns).length ≤ 29 := by
      rw [List.length_append, headL_length]
      unfold fracL
      split
      · first | rfl | simp
      · have := rstripL_length [48] (dig 9 s.ns.toNat)
        rw [dig_length] at this
        simp; lia
    unfold fmtL
    generalize headL s 84 ++ fracL s.ns = tx at hfl ⊢
    rw [execs_step (ρ' := [some s.D, some (dS tx), some (.int s.ns), o3, o4, some (offD s.off), none, none]) (by first | rfl | simp [exec, idxAt])]
    cases ho : s.off with
    | none =>
      rw [execs_ifP (c := True) trivial (by first | rfl | simp)]
      rw [List.cons_append, execs_ret (d := dS (tx ++ zoneL none)) (by
        have l : tx.length + 6 ≤ limit := by unfold limit; lia
        first | rfl | simp [exec, l, zoneL])]
      rfl
    | some o =>
      rw [ho, shift_some] at a7
      rw [execs_ifN (c := False) (fun q => q) (by first | rfl | simp), List.nil_append]
      by_cases h0 : o = 0
      · rw [execs_ifP (c := o = 0) h0 (by first | rfl | simp)]
        rw [List.cons_append, execs_ret (d := dS (tx ++ zoneL (some o))) (by
          have l : tx.length + 1 ≤ limit := by unfold limit; lia
          first | rfl | simp [exec, l, zoneL, h0])]
        rfl
      · rw [execs_ifN (c := o = 0) h0 (by first | rfl | simp), List.nil_append]
        have l1 : tx.length + 1 ≤ limit := by unfold limit; lia
        have l2 : tx.length + 3 ≤ limit := by unfold limit; lia
        have l3 : tx.length + 4 ≤ limit := by unfold limit; lia
        have l4 : tx.length + 6 ≤ limit := by unfold limit; lia
        by_cases hneg : o < 0
        · rw [execs_ifP (c := o < 0) hneg (by first | rfl | simp)]
          have q1 := P (-o / 60) 1 (by first | assumption | rfl | exact Nat.le_add_left _ _ | decide | lia) (by first | assumption | rfl | exact Nat.le_add_left _ _ | decide | lia) (by first | assumption | rfl | exact Nat.le_add_left _ _ | decide | lia) 2 rfl
          have q2 := P (-o % 60) 1 (by first | assumption | rfl | exact Nat.le_add_left _ _ | decide | lia) (by first | assumption | rfl | exact Nat.le_add_left _ _ | decide | lia) (by first | assumption | rfl | exact Nat.le_add_left _ _ | decide | lia) 2 rfl
          simp only [Nat.reduceAdd] at q1 q2
          simp only [List.cons_append, List.nil_append]
          rw [execs_step (ρ' := [some s.D, some (dS tx), some (.int s.ns), o3, o4, some (.int o), some (dS [45]), none]) (by first | rfl | simp [exec])]
          rw [execs_step (ρ' := [some s.D, some (dS tx), some (.int s.ns), o3, o4, some (.int o), some (dS [45]), some (.int (-o))]) (by first | rfl | simp [exec])]
          have q : ev (run T N (k + 5)) (.bin .add (.bin .add (.bin .add (.bin .add (.loc 1) (.loc 6)) (.call 11 [(.bin .div (.loc 7) (.cst (.int 60))), (.cst (.int 2))])) (.cst (.str (PySem.Str.mk #[58])))) (.call 11 [(.bin .mod (.loc 7) (.cst (.int 60))), (.cst (.int 2))]))
              [some s.D, some (dS tx), some (.int s.ns), o3, o4, some (.int o), some (dS [45]), some (.int (-o))] = .ok (dS (tx ++ zoneL (some o))) := by
            first | rfl | simp [q1, q2, dig_length, l1, l2, l3, l4, zoneL, h0, hneg]
          rw [execs_ret (by rw [exec, q]; rfl)]
          rfl
        · rw [execs_ifN (c := o < 0) hneg (by first | rfl | simp)]
          have q1 := P (o / 60) 1 (by first | assumption | rfl | exact Nat.le_add_left _ _ | decide | lia) (by first | assumption | rfl | exact Nat.le_add_left _ _ | decide | lia) (by first | assumption | rfl | exact Nat.le_add_left _ _ | decide | lia) 2 rfl
          have q2 := P (o % 60) 1 (by first | assumption | rfl | exact Nat.le_add_left _ _ | decide | lia) (by first | assumption | rfl | exact Nat.le_add_left _ _ | decide | lia) (by first | assumption | rfl | exact Nat.le_add_left _ _ | decide | lia) 2 rfl
          simp only [Nat.reduceAdd] at q1 q2
          simp only [List.cons_append, List.nil_append]
          rw [execs_step (ρ' := [some s.D, some (dS tx), some (.int s.ns), o3, o4, some (.int o), some (dS [43]), none]) (by first | rfl | simp [exec])]
          rw [execs_step (ρ' := [some s.D, some (dS tx), some (.int s.ns), o3, o4, some (.int o), some (dS [43]), some (.int o)]) (by first | rfl | simp [exec])]
          have q : ev (run T N (k + 5)) (.bin .add (.bin .add (.bin .add (.bin .add (.loc 1) (.loc 6)) (.call 11 [(.bin .div (.loc 7) (.cst (.int 60))), (.cst (.int 2))])) (.cst (.str (PySem.Str.mk #[58])))) (.call 11 [(.bin .mod (.loc 7) (.cst (.int 60))), (.cst (.int 2))]))
              [some s.D, some (dS tx), some (.int s.ns), o3, o4, some (.int o), some (dS [43]), some (.int o)] = .ok (dS (tx ++ zoneL (some o))) := by
            first | rfl | simp [q1, q2, dig_length, l1, l2, l3, l4, zoneL, h0, hneg]
          rw [execs_ret (by rw [exec, q]; rfl)]
          rfl
  by_cases hz : s.ns = 0
  · rw [execs_ifN (c := s.ns ≠ 0) (fun q => q hz) (by first | rfl | simp), List.nil_append]
    have := key none none
    rw [show fracL s.ns = [] by unfold fracL; rw [if_pos hz], List.append_nil] at this
    exact this
  · rw [execs_ifP (c := s.ns ≠ 0) hz (by first | rfl | simp)]
    simp only [List.cons_append, List.nil_append]
    rw [execs_step (ρ' := [some s.D, some (dS (headL s 84)), some (.int s.ns), some (dS (dig 9 s.ns.toNat)), none, none, none, none]) (by first | rfl | simp [exec, p9])]
    rw [execs_step (ρ' := [some s.D, some (dS (headL s 84)), some (.int s.ns), some (dS (dig 9 s.ns.toNat)), some (.int 9), none, none, none]) (by first | rfl | simp [exec, dig_length])]
    obtain ⟨LE, LT⟩ := loop_end (T := T) (N := N) (n := k + 5) (dig 9 s.ns.toNat) (some s.D) (some (dS (headL s 84))) (some (.int s.ns)) none none none 9 (N - 10) (by rw [dig_length]; lia)
    rw [show N - 10 + 9 + 1 = N by first | assumption | rfl | exact Nat.le_add_left _ _ | decide | lia] at LE
    have h9 : (dig 9 s.ns.toNat).take 9 = dig 9 s.ns.toNat := List.take_of_length_le (by rw [dig_length]; lia)
    rw [h9] at LE LT
    have hl := rstripL_length [48] (dig 9 s.ns.toNat)
    rw [dig_length] at hl
    generalize hr : rstripL [48] (dig 9 s.ns.toNat) = r at LE LT hl
    rw [execs_step (ρ' := [some s.D, some (dS (headL s 84)), some (.int s.ns), some (dS (dig 9 s.ns.toNat)), some (.int r.length), none, none, none]) (by rw [exec]; exact congrArg noExc LE)]
    rw [execs_step (ρ' := [some s.D, some (dS (headL s 84 ++ fracL s.ns)), some (.int s.ns), some (dS (dig 9 s.ns.toNat)), some (.int r.length), none, none, none]) (by
      have hb : bound (r.length : Int) 9 = r.length := by unfold bound; rw [if_neg (by first | assumption | rfl | exact Nat.le_add_left _ _ | decide | lia)]; simp; lia
      have l1 : 19 + 1 ≤ limit := by unfold limit; lia
      have l2 : 20 + r.length ≤ limit := by unfold limit; lia
      have hb0 : bound 0 9 = 0 := by rfl
      have l3 : 9 ≤ limit := by unfold limit; lia
      have hcut : cut (dig 9 s.ns.toNat) 0 r.length = r := by unfold cut; rw [LT]; rfl
      simp [exec, dig_length, headL_length, hb, hb0, hcut, l1, l2, l3, fracL, hz, hr])]
    exact key _ _

theorem run_to_instant {T : List Fn} (hT : IsT T) {N n : Nat} (hn : 5 ≤ n) (s : St) (h1 : 1 ≤ s.mo) (h2 : s.mo ≤ 12) :
    run T N n 13 [s.D] = .ok (.tuple [.int (s.t / 1440), .int (s.t % 1440 * 60 + s.se), .int s.ns]) := by
  obtain ⟨k, rfl⟩ := Nat.exists_eq_add_of_le' hn
  rw [run_at (hT.at_ 13 p_to_instant rfl) rfl]
  have := run_instant hT (N := N) (n := k + 4) (by first | assumption | rfl | exact Nat.le_add_left _ _ | decide | lia) s h1 h2
  first | rfl | simp [p_to_instant, execs, exec, this]
end Mine
namespace Mine
open PySem
/-- the stamp of an instant at an offset, before it is judged -/
noncomputable def instSt (d s n : Int) (off : Option Int) : St :=
  let t := d * 1440 + (if s ≠ 86400 then s / 60 else 1439) + shift off
  ⟨cY (t / 1440), cMo (t / 1440), cD (t / 1440), t % 1440 / 60, t % 1440 % 60, if s = 86400 then 60 else s % 60, n, off⟩
noncomputable def instT (d s : Int) (off : Option Int) : Int := d * 1440 + (if s ≠ 86400 then s / 60 else 1439) + shift off
noncomputable def instOk (d s n : Int) (off : Option Int) : Prop := (0 ≤ instT d s off ∧ instT d s off < 3652425 * 1440) ∧ (0 ≤ s ∧ s ≤ 86400) ∧ (instSt d s n off).valid
noncomputable instance (d s n : Int) (off : Option Int) : Decidable (instOk d s n off) := by unfold instOk; infer_instance

theorem run_from_instant {T : List Fn} (hT : IsT T) {N n : Nat} (hn : 6 ≤ n) (hN : 12 ≤ N) (d s ns : Int) (off : Option Int) :
    run T N n 14 [.tuple [.int d, .int s, .int ns], offD off] = if instOk d s ns off then .ok (instSt d s ns off).D else .exc false := by
  obtain ⟨k, rfl⟩ := Nat.exists_eq_add_of_le' hn
  rw [run_at (hT.at_ 14 p_from_instant rfl) rfl]
  simp only [p_from_instant, start, List.map_cons, List.map_nil, Nat.reduceSub, List.replicate_succ, List.replicate_zero, List.cons_append, List.nil_append]
  rw [execs_step (ρ' := [some (.tuple [.int d, .int s, .int ns]), some (offD off), some (.int d), some (.int s), some (.int ns), none, none, none, none, none, none, none]) (by first | rfl | simp [exec])]
  generalize hmd : (if s ≠ 86400 then s / 60 else 1439) = md
  have e1 : ∀ r, execs (run T N (k + 5)) N ((.ite (.cmp .ne (.loc 3) (.cst (.int 86400))) [(.asg 5 (.bin .div (.loc 3) (.cst (.int 60))))] [(.asg 5 (.cst (.int 1439)))]) :: r)
      [some (.tuple [.int d, .int s, .int ns]), some (offD off), some (.int d), some (.int s), some (.int ns), none, none, none, none, none, none, none] =
      execs (run T N (k + 5)) N r [some (.tuple [.int d, .int s, .int ns]), some (offD off), some (.int d), some (.int s), some (.int ns), some (.int md), none, none, none, none, none, none] := by
    intro r
    by_cases h : s ≠ 86400
    · rw [execs_ifP (c := s ≠ 86400) h (by first | rfl | simp)]
      rw [if_pos h] at hmd
      rw [List.cons_append, List.nil_append, execs_step]
      first | rfl | simp [exec, hmd]
    · rw [execs_ifN (c := s ≠ 86400) h (by first | rfl | simp)]
      rw [if_neg h] at hmd
      rw [List.cons_append, List.nil_append, execs_step]
      first | rfl | simp [exec, hmd]
  rw [e1]
  rw [execs_step (ρ' := [some (.tuple [.int d, .int s, .int ns]), some (offD off), some (.int d), some (.int s), some (.int ns), some (.int md), some (offD off), none, none, none, none, none]) (by first | rfl | simp [exec])]
  have e2 : ∀ r, execs (run T N (k + 5)) N ((.ite (.isNone (.loc 6)) [(.asg 6 (.cst (.int 0)))] []) :: r)
      [some (.tuple [.int d, .int s, .int ns]), some (offD off), some (.int d), some (.int s), some (.int ns), some (.int md), some (offD off), none, none, none, none, none] =
      execs (run T N (k + 5)) N r [some (.tuple [.int d, .int s, .int ns]), some (offD off), some (.int d), some (.int s), some (.int ns), some (.int md), some (.int (shift off)), none, none, none, none, none] := by
    intro r
    cases off with
    | none =>
      rw [execs_ifP (c := True) trivial (by first | rfl | simp)]
      rw [List.cons_append, List.nil_append, execs_step]
      first | rfl | simp [exec]
    | some o => rw [execs_ifN (c := False) (fun q => q) (by first | rfl | simp), List.nil_append]; rfl
  rw [e2]
  have hT' : instT d s off = d * 1440 + md + shift off := by unfold instT; rw [hmd]
  have hS : instSt d s ns off = ⟨cY (instT d s off / 1440), cMo (instT d s off / 1440), cD (instT d s off / 1440), instT d s off % 1440 / 60, instT d s off % 1440 % 60, if s = 86400 then 60 else s % 60, ns, off⟩ := rfl
  rw [execs_step (ρ' := [some (.tuple [.int d, .int s, .int ns]), some (offD off), some (.int d), some (.int s), some (.int ns), some (.int md), some (.int (shift off)), some (.int (instT d s off)), none, none, none, none]) (by first | rfl | simp [exec, smallI, hT'])]
  generalize htt : instT d s off = t at hS ⊢
  by_cases g1 : 0 ≤ t ∧ t < 3652425 * 1440
  case neg =>
    have : ¬ instOk d s ns off := fun q => g1 (htt ▸ q.1)
    rw [if_neg this, execs_ifP (c := ¬ (0 ≤ t ∧ t < 3652425 * 1440)) g1 (ev_not (ev_chainLt (by first | rfl | simp) (by first | rfl | simp) (by first | rfl | simp [smallI])))]
    first | rfl | simp [execs, exec]
  rw [execs_ifN (c := ¬ (0 ≤ t ∧ t < 3652425 * 1440)) (fun q => q g1) (ev_not (ev_chainLt (by first | rfl | simp) (by first | rfl | simp) (by first | rfl | simp [smallI]))), List.nil_append]
  by_cases g2 : 0 ≤ s ∧ s ≤ 86400
  case neg =>
    have : ¬ instOk d s ns off := fun q => g2 q.2.1
    rw [if_neg this, execs_ifP (c := ¬ (0 ≤ s ∧ s ≤ 86400)) g2 (ev_not (ev_chainLe (by first | rfl | simp) (by first | rfl | simp) (by first | rfl | simp)))]
    first | rfl | simp [execs, exec]
  rw [execs_ifN (c := ¬ (0 ≤ s ∧ s ≤ 86400)) (fun q => q g2) (ev_not (ev_chainLe (by first | rfl | simp) (by first | rfl | simp) (by first | rfl | simp))), List.nil_append]
  generalize hse : (if s = 86400 then (60 : Int) else s % 60) = se at hS
  have e3 : ∀ r, execs (run T N (k + 5)) N ((.ite (.cmp .eq (.loc 3) (.cst (.int 86400))) [(.asg 8 (.cst (.int 60)))] [(.asg 8 (.bin .mod (.loc 3) (.cst (.int 60))))]) :: r)
      [some (.tuple [.int d, .int s, .int ns]), some (offD off), some (.int d), some (.int s), some (.int ns), some (.int md), some (.int (shift off)), some (.int t), none, none, none, none] =
      execs (run T N (k + 5)) N r [some (.tuple [.int d, .int s, .int ns]), some (offD off), some (.int d), some (.int s), some (.int ns), some (.int md), some (.int (shift off)), some (.int t), some (.int se), none, none, none] := by
    intro r
    by_cases h : s = 86400
    · rw [execs_ifP (c := s = 86400) h (by first | rfl | simp)]
      rw [if_pos h] at hse
      rw [List.cons_append, List.nil_append, execs_step]
      first | rfl | simp [exec, hse]
    · rw [execs_ifN (c := s = 86400) h (by first | rfl | simp)]
      rw [if_neg h] at hse
      rw [List.cons_append, List.nil_append, execs_step]
      first | rfl | simp [exec, hse]
  rw [e3]
  have hc := run_cFD hT (N := N) (n := k + 5) (by first | assumption | rfl | exact Nat.le_add_left _ _ | decide | lia) hN (t / 1440)
  rw [execs_step (ρ' := [some (.tuple [.int d, .int s, .int ns]), some (offD off), some (.int d), some (.int s), some (.int ns), some (.int md), some (.int (shift off)), some (.int t), some (.int se), some (.tuple [.int (cY (t / 1440)), .int (cMo (t / 1440)), .int (cD (t / 1440))]), none, none]) (by first | rfl | simp [exec, hc])]
  rw [execs_step (ρ' := [some (.tuple [.int d, .int s, .int ns]), some (offD off), some (.int d), some (.int s), some (.int ns), some (.int md), some (.int (shift off)), some (.int t), some (.int se), some (.tuple [.int (cY (t / 1440)), .int (cMo (t / 1440)), .int (cD (t / 1440))]), some (.int (t % 1440)), none]) (by first | rfl | simp [exec])]
  rw [execs_step (ρ' := [some (.tuple [.int d, .int s, .int ns]), some (offD off), some (.int d), some (.int s), some (.int ns), some (.int md), some (.int (shift off)), some (.int t), some (.int se), some (.tuple [.int (cY (t / 1440)), .int (cMo (t / 1440)), .int (cD (t / 1440))]), some (.int (t % 1440)), some (instSt d s ns off).D]) (by first | rfl | simp [exec, idxAt, hS])]
  have he : ∀ ρ, getL ρ 11 = .ok (instSt d s ns off).D → ev (run T N (k + 5)) (.not (.call 8 [(.loc 11)])) ρ = .ok (.bool (decide (¬ (instSt d s ns off).valid))) := by
    intro ρ h
    refine ev_not ?_
    rw [← run_is_valid hT (N := N) (n := k + 5) (by first | assumption | rfl | exact Nat.le_add_left _ _ | decide | lia) (by first | assumption | rfl | exact Nat.le_add_left _ _ | decide | lia) (instSt d s ns off)]; first | rfl | simp [h]
  by_cases v : (instSt d s ns off).valid
  · have : instOk d s ns off := ⟨htt ▸ g1, g2, v⟩
    rw [if_pos this, execs_ifN (fun q => q v) (he _ rfl), List.nil_append]
    first | rfl | simp [execs, exec]
  · have : ¬ instOk d s ns off := fun q => v q.2.2
    rw [if_neg this, execs_ifP v (he _ rfl)]
    first | rfl | simp [execs, exec]
end Mine

namespace Mine
open PySem

theorem dM_next {y m : Int} (h1 : 1 ≤ m) (h2 : m < 12) : dM y (m + 1) = dM y m + mLen y m := by
  unfold dM mLen
  generalize leapB y = b
  rcases twelve h1 (Int.le_of_lt h2) with h | h | h | h | h | h | h | h | h | h | h | h <;> subst h <;> first | exact absurd h2 (by decide) | (cases b <;> rfl)
theorem dM_last {y : Int} : dM y 12 + mLen y 12 = 365 + if leapB y = true then 1 else 0 := by
  unfold dM mLen aheadC; cases leapB y <;> (first | rfl | simp)
theorem mLen_bounds {y m : Int} : 28 ≤ mLen y m ∧ mLen y m ≤ 31 := by
  unfold mLen; split
  · split <;> lia
  · split <;> lia
theorem dM_mono {y : Int} {a b : Int} (ha : 1 ≤ a) (hab : a < b) (hb : b ≤ 12) : dM y a + mLen y a ≤ dM y b := by
  obtain ⟨k, rfl⟩ : ∃ k : Nat, b = a + 1 + k := ⟨(b - a - 1).toNat, by first | assumption | rfl | exact Nat.le_add_left _ _ | decide | lia⟩
  induction k with
  | zero => rw [show a + 1 + ((0 : Nat) : Int) = a + 1 by first | assumption | rfl | exact Nat.le_add_left _ _ | decide | lia, dM_next ha (by first | assumption | rfl | exact Nat.le_add_left _ _ | decide | lia)]; lia
  | succ k ih =>
    have := ih (by first | assumption | rfl | exact Nat.le_add_left _ _ | decide | lia) (by first | assumption | rfl | exact Nat.le_add_left _ _ | decide | lia)
    have e : a + 1 + ((k + 1 : Nat) : Int) = (a + 1 + (k : Int)) + 1 := by first | assumption | rfl | exact Nat.le_add_left _ _ | decide | lia
    rw [e, dM_next (by first | assumption | rfl | exact Nat.le_add_left _ _ | decide | lia) (by first | assumption | rfl | exact Nat.le_add_left _ _ | decide | lia)]
    have := (@mLen_bounds y (a + 1 + (k : Int))).1
    lia
theorem dM_le {y m : Int} (h1 : 1 ≤ m) (h2 : m ≤ 12) : 0 ≤ dM y m ∧ dM y m + mLen y m ≤ 365 + if leapB y = true then 1 else 0 := by
  constructor
  · unfold dM aheadC
    repeat' split
    all_goals lia
  · rcases Int.lt_or_eq_of_le h2 with h | h
    · have := @dM_mono y m 12 h1 h (by first | assumption | rfl | exact Nat.le_add_left _ _ | decide | lia)
      have := @dM_last y
      have := (@mLen_bounds y 12).1
      lia
    · rw [h]; exact Int.le_of_eq dM_last

/-- a day of a year lies in it -/
theorem dFC_in {y m d : Int} (h1 : 1 ≤ m) (h2 : m ≤ 12) (h3 : 1 ≤ d) (h4 : d ≤ mLen y m) : dY y ≤ dFC y m d ∧ dFC y m d < dY (y + 1) := by
  have := @dM_le y m h1 h2
  have := dY_succ y
  unfold dFC
  lia
theorem dY_inj {a b n : Int} (h1 : dY a ≤ n) (h2 : n < dY (a + 1)) (h3 : dY b ≤ n) (h4 : n < dY (b + 1)) : a = b := by
  rcases Int.lt_trichotomy a b with h | h | h
  · have := @dY_mono (a + 1) b (by first | assumption | rfl | exact Nat.le_add_left _ _ | decide | lia); lia
  · exact h
  · have := @dY_mono (b + 1) a (by first | assumption | rfl | exact Nat.le_add_left _ _ | decide | lia); lia

theorem cY_dFC {y m d : Int} (h1 : 1 ≤ m) (h2 : m ≤ 12) (h3 : 1 ≤ d) (h4 : d ≤ mLen y m) : cY (dFC y m d) = y := by
  obtain ⟨a, b⟩ := dFC_in h1 h2 h3 h4
  obtain ⟨c, e⟩ := cY_spec (dFC y m d)
  exact dY_inj c e a b
theorem cMo_dFC {y m d : Int} (h1 : 1 ≤ m) (h2 : m ≤ 12) (h3 : 1 ≤ d) (h4 : d ≤ mLen y m) : cMo (dFC y m d) = m := by
  have hy := cY_dFC h1 h2 h3 h4
  have hr : cR (dFC y m d) = dM y m + d - 1 := by unfold cR; rw [hy]; unfold dFC; lia
  unfold cMo
  rw [hy, hr]
  obtain ⟨a, b, c, e⟩ := cM_spec y (dM y m + d - 1) (by have := (@dM_le y m h1 h2).1; lia) 12 (by first | assumption | rfl | exact Nat.le_add_left _ _ | decide | lia)
  generalize cM y (dM y m + d - 1) 12 = k at *
  rcases Int.lt_trichotomy k m with h | h | h
  · have := e m h (by first | assumption | rfl | exact Nat.le_add_left _ _ | decide | lia); lia
  · exact h
  · have := @dM_mono y m k h1 h (by first | assumption | rfl | exact Nat.le_add_left _ _ | decide | lia); lia
theorem cD_dFC {y m d : Int} (h1 : 1 ≤ m) (h2 : m ≤ 12) (h3 : 1 ≤ d) (h4 : d ≤ mLen y m) : cD (dFC y m d) = d := by
  unfold cD
  rw [cMo_dFC h1 h2 h3 h4, cY_dFC h1 h2 h3 h4]
  unfold cR
  rw [cY_dFC h1 h2 h3 h4]
  unfold dFC; lia

theorem cMo_bounds (n : Int) : 1 ≤ cMo n ∧ cMo n ≤ 12 := by
  obtain ⟨a, b, _, _⟩ := cM_spec (cY n) (cR n) (cR_nonneg n) 12 (by first | assumption | rfl | exact Nat.le_add_left _ _ | decide | lia)
  exact ⟨a, b⟩
theorem cD_bounds (n : Int) : 1 ≤ cD n ∧ cD n ≤ mLen (cY n) (cMo n) := by
  obtain ⟨a, b, c, e⟩ := cM_spec (cY n) (cR n) (cR_nonneg n) 12 (by first | assumption | rfl | exact Nat.le_add_left _ _ | decide | lia)
  unfold cD cMo
  refine ⟨by first | assumption | rfl | exact Nat.le_add_left _ _ | decide | lia, ?_⟩
  generalize hk : cM (cY n) (cR n) 12 = k at *
  rcases Int.lt_or_eq_of_le b with h | h
  · have := e (k + 1) (by first | assumption | rfl | exact Nat.le_add_left _ _ | decide | lia) (by first | assumption | rfl | exact Nat.le_add_left _ _ | decide | lia)
    rw [dM_next a (by first | assumption | rfl | exact Nat.le_add_left _ _ | decide | lia)] at this
    lia
  · have h' : k = 12 := h
    subst h'
    have q1 := @dM_last (cY n)
    have q2 := dY_succ (cY n)
    have q3 := (cY_spec n).2
    have hr : cR n = n - dY (cY n) := rfl
    rw [hr]
    by_cases hl : leapB (cY n) = true
    · rw [if_pos hl] at q1 q2; lia
    · rw [if_neg hl] at q1 q2; lia
theorem dFC_back (n : Int) : dFC (cY n) (cMo n) (cD n) = n := by
  unfold dFC cD cR; lia

/-- the days of the laws' own reckoning -/
noncomputable def lawDays (y m d : Int) : Int :=
  let y' := if m < 3 then y - 1 else y
  let m' := if m < 3 then m + 12 else m
  365 * y' + y' / 4 - y' / 100 + y' / 400 + (153 * (m' - 3) + 2) / 5 + d + 59
theorem dY_alt (y : Int) : dY y = 365 * (y - 1) + (y - 1) / 4 - (y - 1) / 100 + (y - 1) / 400 + 366 := by
  have a : (y + 3) / 4 = (y - 1) / 4 + 1 := by lia
  have b : (y + 99) / 100 = (y - 1) / 100 + 1 := by lia
  have c : (y + 399) / 400 = (y - 1) / 400 + 1 := by lia
  unfold dY
  rw [a, b, c]
  generalize (y - 1) / 4 = i
  generalize (y - 1) / 100 = j
  generalize (y - 1) / 400 = k
  lia
theorem dY_leap (y : Int) : 365 * y + y / 4 - y / 100 + y / 400 = dY y - 1 + if leapB y = true then 1 else 0 := by
  have h1 := dY_succ y
  have h2 := dY_alt (y + 1)
  rw [Int.add_sub_cancel] at h2
  lia
theorem early {m : Int} (h1 : 1 ≤ m) (h : m < 3) : (153 * (m + 12 - 3) + 2) / 5 = 306 + aheadC m := by
  rcases Int.lt_or_eq_of_le h1 with q | q
  · rw [show m = 2 by first | assumption | rfl | exact Nat.le_add_left _ _ | decide | lia]; rfl
  · rw [← q]; rfl
theorem late {m : Int} (h1 : 3 ≤ m) (h2 : m ≤ 12) : (153 * (m - 3) + 2) / 5 = aheadC m - 59 := by
  rcases twelve (Int.le_trans (by decide) h1) h2 with h | h | h | h | h | h | h | h | h | h | h | h <;> subst h <;> first | rfl | exact absurd h1 (by decide)
theorem lawDays_dFC {y m d : Int} (h1 : 1 ≤ m) (h2 : m ≤ 12) : lawDays y m d = dFC y m d := by
  unfold lawDays dFC dM
  by_cases h : m < 3
  · simp only [if_pos h]
    rw [early h1 h, dY_alt y, if_neg fun q => absurd q.1 (by first | assumption | rfl | exact Nat.le_add_left _ _ | decide | lia)]
    generalize 365 * (y - 1) + (y - 1) / 4 - (y - 1) / 100 + (y - 1) / 400 = a
    generalize aheadC m = b
    clear h1 h2 h
    lia
  · simp only [if_neg h]
    rw [late (by first | assumption | rfl | exact Nat.le_add_left _ _ | decide | lia) h2, dY_leap y]
    have e : (if 2 < m ∧ leapB y = true then (1 : Int) else 0) = if leapB y = true then 1 else 0 := by
      cases leapB y
      · rw [if_neg fun q => Bool.noConfusion q.2]; rfl
      · rw [if_pos ⟨by first | assumption | rfl | exact Nat.le_add_left _ _ | decide | lia, rfl⟩]; rfl
    rw [e]
    generalize aheadC m = b
    generalize dY y = a
    generalize (if leapB y = true then (1 : Int) else 0) = l
    clear h1 h2 h e
    lia
theorem lawDays_13 {y d : Int} : lawDays y 13 d = lawDays (y + 1) 1 d := by
  unfold lawDays; first | rfl | simp
theorem lawDays_len {y m : Int} (h1 : 1 ≤ m) (h2 : m ≤ 12) : lawDays y (m + 1) 1 - lawDays y m 1 = mLen y m := by
  rcases Int.lt_or_eq_of_le h2 with h | h
  · rw [lawDays_dFC (by first | assumption | rfl | exact Nat.le_add_left _ _ | decide | lia) (by first | assumption | rfl | exact Nat.le_add_left _ _ | decide | lia), lawDays_dFC h1 h2]
    unfold dFC
    rw [dM_next h1 h]; lia
  · subst h
    rw [show (12 : Int) + 1 = 13 by rfl, lawDays_13, lawDays_dFC (by first | assumption | rfl | exact Nat.le_add_left _ _ | decide | lia) (by first | assumption | rfl | exact Nat.le_add_left _ _ | decide | lia), lawDays_dFC (by first | assumption | rfl | exact Nat.le_add_left _ _ | decide | lia) (by first | assumption | rfl | exact Nat.le_add_left _ _ | decide | lia)]
    unfold dFC
    rw [dM_one, dY_succ]
    have := @dM_last y
    lia
theorem dY_10000 : dY 10000 = 3652425 := by decide
theorem dY_0 : dY 0 = 0 := by decide
end Mine

namespace Mine
open PySem

noncomputable def lawLeap (t y : Int) : Prop := 0 ≤ t ∧ (t + 1 = 1440 * lawDays y 1 1 ∨ t + 1 = 1440 * lawDays y 7 1 ∨ t + 1 = 1440 * lawDays (y + 1) 1 1)

theorem dFC_11 (y : Int) : lawDays y 1 1 = dY y := by rw [lawDays_dFC (by first | assumption | rfl | exact Nat.le_add_left _ _ | decide | lia) (by first | assumption | rfl | exact Nat.le_add_left _ _ | decide | lia)]; unfold dFC; rw [dM_one]; lia
theorem dFC_71 (y : Int) : lawDays y 7 1 = dY y + dM y 7 := by rw [lawDays_dFC (by first | assumption | rfl | exact Nat.le_add_left _ _ | decide | lia) (by first | assumption | rfl | exact Nat.le_add_left _ _ | decide | lia)]; unfold dFC; lia
theorem dM7 (y : Int) : dM y 7 = 181 + if leapB y = true then 1 else 0 := by unfold dM aheadC; cases leapB y <;> (first | rfl | simp)
theorem dFC_630 (y : Int) : dFC y 6 30 = dY y + dM y 7 - 1 := by
  have := @dM_next y 6 (by first | assumption | rfl | exact Nat.le_add_left _ _ | decide | lia) (by first | assumption | rfl | exact Nat.le_add_left _ _ | decide | lia)
  have e : mLen y 6 = 30 := by unfold mLen; first | rfl | simp
  rw [e] at this
  unfold dFC
  rw [show (6 : Int) + 1 = 7 by rfl] at this
  lia
theorem dFC_1231 (y : Int) : dFC y 12 31 = dY (y + 1) - 1 := by
  have h1 := @dM_last y
  have e : mLen y 12 = 31 := by unfold mLen; first | rfl | simp
  rw [e] at h1
  have := dY_succ y
  unfold dFC
  lia

theorem leap_iff {t y : Int} (hy0 : 0 ≤ y) (hy : y ≤ 9999) (h1 : dY y - 1 ≤ t / 1440) (h2 : t / 1440 ≤ dY (y + 1)) : leapAt t ↔ lawLeap t y := by
  unfold leapAt lawLeap
  rw [dFC_11, dFC_71, dFC_11]
  generalize hn : t / 1440 = n at *
  have m7 : ∀ z, 181 ≤ dM z 7 ∧ dM z 7 ≤ 182 := fun z => by rw [dM7]; split <;> lia
  constructor
  · rintro ⟨a, ⟨b1, b2⟩, c⟩
    refine ⟨by first | assumption | rfl | exact Nat.le_add_left _ _ | decide | lia, ?_⟩
    have hb := dFC_back n
    rcases c with ⟨c1, c2⟩ | ⟨c1, c2⟩
    · rw [c1, c2, dFC_630] at hb
      have := m7 (cY n)
      have e : cY n = y := by
        rcases Int.lt_trichotomy (cY n) y with q | q | q
        · have := dY_lt q; lia
        · exact q
        · have := @dY_mono (y + 1) (cY n) (by first | assumption | rfl | exact Nat.le_add_left _ _ | decide | lia); lia
      rw [e] at hb
      right; left; lia
    · rw [c1, c2, dFC_1231] at hb
      have e : cY n + 1 = y ∨ cY n + 1 = y + 1 := by
        rcases Int.lt_trichotomy (cY n + 1) y with q | q | q
        · have := dY_lt q; lia
        · exact .inl q
        · right
          rcases Int.lt_trichotomy (cY n + 1) (y + 1) with r | r | r
          · lia
          · exact r
          · have := dY_lt r; lia
      rcases e with e | e
      · left; rw [e] at hb; lia
      · right; right; rw [e] at hb; lia
  · rintro ⟨a, c⟩
    have hm : t % 1440 = 1439 := by first | assumption | rfl | exact Nat.le_add_left _ _ | decide | lia
    have top : dY (y + 1) ≤ 3652425 := by rw [← dY_10000]; exact dY_mono (by first | assumption | rfl | exact Nat.le_add_left _ _ | decide | lia)
    have h7 := m7 y
    have hs := dY_succ y
    have hs' := dY_succ (y - 1)
    rw [show y - 1 + 1 = y by first | assumption | rfl | exact Nat.le_add_left _ _ | decide | lia] at hs'
    have key : ∀ (z m d : Int), 1 ≤ m → m ≤ 12 → 1 ≤ d → d ≤ mLen z m → n = dFC z m d → cMo n = m ∧ cD n = d := fun z m d q1 q2 q3 q4 q5 => by
      rw [q5]; exact ⟨cMo_dFC q1 q2 q3 q4, cD_dFC q1 q2 q3 q4⟩
    refine ⟨hm, ⟨by first | assumption | rfl | exact Nat.le_add_left _ _ | decide | lia, ?_⟩, ?_⟩
    · rcases c with c | c | c
      · have := @dY_mono y (y + 1) (by first | assumption | rfl | exact Nat.le_add_left _ _ | decide | lia); lia
      · split at hs <;> lia
      · lia
    · rcases c with c | c | c
      · right
        refine key (y - 1) 12 31 (by first | assumption | rfl | exact Nat.le_add_left _ _ | decide | lia) (by first | assumption | rfl | exact Nat.le_add_left _ _ | decide | lia) (by first | assumption | rfl | exact Nat.le_add_left _ _ | decide | lia) (by unfold mLen; first | rfl | simp) ?_
        rw [dFC_1231, show y - 1 + 1 = y by first | assumption | rfl | exact Nat.le_add_left _ _ | decide | lia]; lia
      · left
        refine key y 6 30 (by first | assumption | rfl | exact Nat.le_add_left _ _ | decide | lia) (by first | assumption | rfl | exact Nat.le_add_left _ _ | decide | lia) (by first | assumption | rfl | exact Nat.le_add_left _ _ | decide | lia) (by unfold mLen; first | rfl | simp) ?_
        rw [dFC_630]; lia
      · right
        refine key y 12 31 (by first | assumption | rfl | exact Nat.le_add_left _ _ | decide | lia) (by first | assumption | rfl | exact Nat.le_add_left _ _ | decide | lia) (by first | assumption | rfl | exact Nat.le_add_left _ _ | decide | lia) (by unfold mLen; first | rfl | simp) ?_
        rw [dFC_1231]; lia

theorem plain_day {s : St} (h : s.plain) : dY s.y - 1 ≤ s.t / 1440 ∧ s.t / 1440 ≤ dY (s.y + 1) := by
  obtain ⟨⟨a1, a2⟩, ⟨b1, b2⟩, ⟨c1, c2⟩, ⟨d1, d2⟩, ⟨e1, e2⟩, _, ⟨g1, g2⟩⟩ := h
  obtain ⟨p, q⟩ := dFC_in b1 b2 c1 c2
  unfold St.t
  lia
theorem plain_leap {s : St} (h : s.plain) : leapAt s.t ↔ lawLeap s.t s.y := leap_iff h.1.1 h.1.2 (plain_day h).1 (plain_day h).2

theorem instSt_t (d s n : Int) (off : Option Int) : (instSt d s n off).t = d * 1440 + (if s ≠ 86400 then s / 60 else 1439) := by
  unfold instSt St.t
  simp only
  rw [dFC_back]
  lia
theorem inst_back {d s n : Int} {off : Option Int} (h0 : 0 ≤ s) (h1 : s ≤ 86400) : (instSt d s n off).t / 1440 = d ∧ (instSt d s n off).t % 1440 * 60 + (instSt d s n off).se = s := by
  rw [instSt_t]
  have e : (instSt d s n off).se = if s = 86400 then 60 else s % 60 := rfl
  rw [e]
  by_cases q : s = 86400
  · simp only [q, ne_eq, not_true_eq_false, if_false, if_true]; lia
  · simp only [q, ne_eq, not_false_eq_true, if_true, if_false]; lia

theorem inst_self {s : St} (hv : s.valid) : instSt (s.t / 1440) (s.t % 1440 * 60 + s.se) s.ns s.off = s ∧ instT (s.t / 1440) (s.t % 1440 * 60 + s.se) s.off = dFC s.y s.mo s.d * 1440 + s.h * 60 + s.mi := by
  obtain ⟨⟨⟨a1, a2⟩, ⟨b1, b2⟩, ⟨c1, c2⟩, ⟨d1, d2⟩, ⟨e1, e2⟩, f, ⟨g1, g2⟩⟩, se⟩ := hv
  have key : (if s.t % 1440 * 60 + s.se ≠ 86400 then (s.t % 1440 * 60 + s.se) / 60 else 1439) = s.t % 1440 := by
    rcases se with ⟨s1, s2⟩ | ⟨s1, s2⟩
    · rw [if_pos (by first | assumption | rfl | exact Nat.le_add_left _ _ | decide | lia)]; lia
    · have := s2.1
      rw [if_neg (by rw [s1, this]; decide), this]
  have kt : instT (s.t / 1440) (s.t % 1440 * 60 + s.se) s.off = dFC s.y s.mo s.d * 1440 + s.h * 60 + s.mi := by
    unfold instT
    rw [key]
    have : s.t = (dFC s.y s.mo s.d * 24 + s.h) * 60 + s.mi - shift s.off := rfl
    lia
  refine ⟨?_, kt⟩
  have kse : (if s.t % 1440 * 60 + s.se = 86400 then 60 else (s.t % 1440 * 60 + s.se) % 60) = s.se := by
    rcases se with ⟨s1, s2⟩ | ⟨s1, s2⟩
    · rw [if_neg (by first | assumption | rfl | exact Nat.le_add_left _ _ | decide | lia)]; lia
    · have := s2.1
      rw [if_pos (by rw [s1, this]; decide), s1]
  show St.mk (cY (instT (s.t / 1440) (s.t % 1440 * 60 + s.se) s.off / 1440)) (cMo (instT (s.t / 1440) (s.t % 1440 * 60 + s.se) s.off / 1440)) (cD (instT (s.t / 1440) (s.t % 1440 * 60 + s.se) s.off / 1440))
    (instT (s.t / 1440) (s.t % 1440 * 60 + s.se) s.off % 1440 / 60) (instT (s.t / 1440) (s.t % 1440 * 60 + s.se) s.off % 1440 % 60) (if s.t % 1440 * 60 + s.se = 86400 then 60 else (s.t % 1440 * 60 + s.se) % 60) s.ns s.off = s
  rw [kt, kse]
  have q1 : (dFC s.y s.mo s.d * 1440 + s.h * 60 + s.mi) / 1440 = dFC s.y s.mo s.d := by first | assumption | rfl | exact Nat.le_add_left _ _ | decide | lia
  have q2 : (dFC s.y s.mo s.d * 1440 + s.h * 60 + s.mi) % 1440 / 60 = s.h := by first | assumption | rfl | exact Nat.le_add_left _ _ | decide | lia
  have q3 : (dFC s.y s.mo s.d * 1440 + s.h * 60 + s.mi) % 1440 % 60 = s.mi := by first | assumption | rfl | exact Nat.le_add_left _ _ | decide | lia
  rw [q1, q2, q3, cY_dFC b1 b2 c1 c2, cMo_dFC b1 b2 c1 c2, cD_dFC b1 b2 c1 c2]
theorem dFC_range {s : St} (h : s.plain) : 0 ≤ dFC s.y s.mo s.d ∧ dFC s.y s.mo s.d < 3652425 := by
  obtain ⟨⟨a1, a2⟩, ⟨b1, b2⟩, ⟨c1, c2⟩, _⟩ := h
  obtain ⟨p, q⟩ := dFC_in b1 b2 c1 c2
  have h1 : 0 ≤ dY s.y := by rw [← dY_0]; exact dY_mono a1
  have h2 : dY (s.y + 1) ≤ 3652425 := by rw [← dY_10000]; exact dY_mono (by first | assumption | rfl | exact Nat.le_add_left _ _ | decide | lia)
  lia
theorem instOk_self {s : St} (hv : s.valid) : instOk (s.t / 1440) (s.t % 1440 * 60 + s.se) s.ns s.off := by
  obtain ⟨k1, k2⟩ := inst_self hv
  have hp := hv.1
  obtain ⟨r1, r2⟩ := dFC_range hp
  obtain ⟨_, _, _, ⟨d1, d2⟩, ⟨e1, e2⟩, _, _⟩ := hp
  refine ⟨by rw [k2]; lia, ?_, by rw [k1]; exact hv⟩
  rcases hv.2 with ⟨s1, s2⟩ | ⟨s1, s2⟩
  · lia
  · have := s2.1; lia

/-- which instants have a stamp -/
theorem instOk_iff {d s n : Int} {off : Option Int} : instOk d s n off ↔ ((0 ≤ s ∧ s ≤ 86400) ∧ (0 ≤ n ∧ n ≤ 999999999) ∧ (-1439 ≤ shift off ∧ shift off ≤ 1439) ∧ (s = 86400 → leapAt (d * 1440 + 1439)) ∧ (0 ≤ instT d s off ∧ instT d s off < 3652425 * 1440)) := by
  have ht := instSt_t d s n off
  constructor
  · rintro ⟨a, b, hv⟩
    obtain ⟨⟨_, _, _, _, _, f, g⟩, se⟩ := hv
    refine ⟨b, f, g, fun q => ?_, a⟩
    have e : (instSt d s n off).se = if s = 86400 then 60 else s % 60 := rfl
    rw [if_pos q] at e
    rcases se with se | se
    · lia
    · have := se.2
      rw [ht] at this
      simpa [q] using this
  · rintro ⟨b, f, g, le, a⟩
    refine ⟨a, b, ?_⟩
    have cb := cMo_bounds (instT d s off / 1440)
    have cd := cD_bounds (instT d s off / 1440)
    have cy := cY_spec (instT d s off / 1440)
    have y0 : 0 ≤ cY (instT d s off / 1440) := by
      refine Classical.byContradiction fun q => ?_
      have := @dY_mono (cY (instT d s off / 1440) + 1) 0 (by first | assumption | rfl | exact Nat.le_add_left _ _ | decide | lia)
      rw [dY_0] at this
      lia
    have y1 : cY (instT d s off / 1440) ≤ 9999 := by
      refine Classical.byContradiction fun q => ?_
      have := @dY_mono 10000 (cY (instT d s off / 1440)) (by first | assumption | rfl | exact Nat.le_add_left _ _ | decide | lia)
      rw [dY_10000] at this
      lia
    refine ⟨⟨⟨y0, y1⟩, cb, cd, ?_, ?_, f, g⟩, ?_⟩
    · show 0 ≤ instT d s off % 1440 / 60 ∧ instT d s off % 1440 / 60 ≤ 23
      lia
    · show 0 ≤ instT d s off % 1440 % 60 ∧ instT d s off % 1440 % 60 ≤ 59
      lia
    · have e : (instSt d s n off).se = if s = 86400 then 60 else s % 60 := rfl
      rw [e, ht]
      by_cases q : s = 86400
      · right; simp only [q, if_true, ne_eq, not_true_eq_false, if_false]; exact ⟨trivial, le q⟩
      · left; simp only [q, if_false]; lia
end Mine

namespace Mine
open PySem

theorem dig_all (w : Nat) : ∀ v, (dig w v).all digit = true := by
  induction w with
  | zero => intro v; rfl
  | succ w ih => intro v; simp [dig, ih, digit]; lia
theorem dig_val (w : Nat) : ∀ v, v < 10 ^ w → digitsVal (dig w v) = (v : Int) := by
  induction w with
  | zero => intro v h; simp at h; subst h; rfl
  | succ w ih =>
    intro v h
    rw [dig, digitsVal_snoc, ih (v / 10) (by rw [Nat.pow_succ] at h; lia)]
    lia
theorem digV_dig (w v : Nat) (h : v < 10 ^ w) : digV (dig w v) = (v : Int) := by
  unfold digV; rw [if_pos (dig_all w v), dig_val w v h]
theorem dig2 (v : Nat) : dig 2 v = [48 + v / 10 % 10, 48 + v % 10] := by first | rfl | simp [dig]
theorem dig4 (v : Nat) : dig 4 v = [48 + v / 10 / 10 / 10 % 10, 48 + v / 10 / 10 % 10, 48 + v / 10 % 10, 48 + v % 10] := by first | rfl | simp [dig]

/-- a field as the laws write it: two signs that read back -/
theorem pad2 {v : Int} (h0 : -1 ≤ v) (h1 : v ≤ 99) : ∃ a b, padL v 2 = [a, b] ∧ digV [a, b] = v := by
  by_cases h : v = -1
  · subst h; exact ⟨45, 49, by decide, by decide⟩
  · have e := padN v 1 (by first | assumption | rfl | exact Nat.le_add_left _ _ | decide | lia) (by first | assumption | rfl | exact Nat.le_add_left _ _ | decide | lia)
    rw [show (1 : Nat) + 1 = 2 by rfl, dig2] at e
    refine ⟨_, _, e, ?_⟩
    have := digV_dig 2 v.toNat (by first | assumption | rfl | exact Nat.le_add_left _ _ | decide | lia)
    rw [dig2] at this
    rw [this]; lia
theorem pad4 {v : Int} (h0 : -1 ≤ v) (h1 : v ≤ 9999) : ∃ a b c d, padL v 4 = [a, b, c, d] ∧ digV [a, b, c, d] = v := by
  by_cases h : v = -1
  · subst h; exact ⟨48, 48, 45, 49, by decide, by decide⟩
  · have e := padN v 3 (by first | assumption | rfl | exact Nat.le_add_left _ _ | decide | lia) (by first | assumption | rfl | exact Nat.le_add_left _ _ | decide | lia)
    rw [show (3 : Nat) + 1 = 4 by rfl, dig4] at e
    refine ⟨_, _, _, _, e, ?_⟩
    have := digV_dig 4 v.toNat (by first | assumption | rfl | exact Nat.le_add_left _ _ | decide | lia)
    rw [dig4] at this
    rw [this]; lia

noncomputable def headG (y mo d h mi se : Int) (x : Nat) : List Nat :=
  padL y 4 ++ [45] ++ padL mo 2 ++ [45] ++ padL d 2 ++ [x] ++ padL h 2 ++ [58] ++ padL mi 2 ++ [58] ++ padL se 2
theorem headG_eq {s : St} {x : Nat} (h1 : 0 ≤ s.y ∧ s.y ≤ 9999) (h2 : 0 ≤ s.mo ∧ s.mo ≤ 99) (h3 : 0 ≤ s.d ∧ s.d ≤ 99) (h4 : 0 ≤ s.h ∧ s.h ≤ 99) (h5 : 0 ≤ s.mi ∧ s.mi ≤ 99) (h6 : 0 ≤ s.se ∧ s.se ≤ 99) : headG s.y s.mo s.d s.h s.mi s.se x = headL s x := by
  unfold headG headL
  rw [padN s.y 3 h1.1 (by first | assumption | rfl | exact Nat.le_add_left _ _ | decide | lia), padN s.mo 1 h2.1 (by first | assumption | rfl | exact Nat.le_add_left _ _ | decide | lia), padN s.d 1 h3.1 (by first | assumption | rfl | exact Nat.le_add_left _ _ | decide | lia), padN s.h 1 h4.1 (by first | assumption | rfl | exact Nat.le_add_left _ _ | decide | lia), padN s.mi 1 h5.1 (by first | assumption | rfl | exact Nat.le_add_left _ _ | decide | lia), padN s.se 1 h6.1 (by first | assumption | rfl | exact Nat.le_add_left _ _ | decide | lia)]

theorem valid_nonneg {s : St} (h : s.valid) : 0 ≤ s.y ∧ 0 ≤ s.mo ∧ 0 ≤ s.d ∧ 0 ≤ s.h ∧ 0 ≤ s.mi ∧ 0 ≤ s.se := by
  obtain ⟨⟨a, b, c, d, e, _, _⟩, f⟩ := h
  refine ⟨a.1, by first | assumption | rfl | exact Nat.le_add_left _ _ | decide | lia, by first | assumption | rfl | exact Nat.le_add_left _ _ | decide | lia, d.1, e.1, ?_⟩
  rcases f with f | f
  · exact f.1
  · lia

noncomputable def tailP (y mo d h mi se : Int) (t : List Nat) : Option St := match t with
  | [] => none
  | c :: r => match fracM (c :: r) with
    | none => none
    | some (ns, z) => tailM y mo d h mi se ns z
theorem tailM_neg {y mo d h mi se ns : Int} {z : List Nat} (hn : y < 0 ∨ mo < 0 ∨ d < 0 ∨ h < 0 ∨ mi < 0 ∨ se < 0) : tailM y mo d h mi se ns z = none := by
  unfold tailM
  split
  · rfl
  · rename_i off _
    rw [if_neg]
    intro hv
    have := valid_nonneg hv
    simp only at this
    lia
theorem tailP_neg {y mo d h mi se : Int} {t : List Nat} (hn : y < 0 ∨ mo < 0 ∨ d < 0 ∨ h < 0 ∨ mi < 0 ∨ se < 0) : tailP y mo d h mi se t = none := by
  unfold tailP
  split
  · rfl
  · split
    · rfl
    · exact tailM_neg hn

/-- the head of a text, fields in reach -/
theorem parse_headG {y mo d h mi se : Int} {x : Nat} {t : List Nat} (hx : x = 84 ∨ x = 116) (h1 : -1 ≤ y ∧ y ≤ 9999) (h2 : -1 ≤ mo ∧ mo ≤ 99) (h3 : -1 ≤ d ∧ d ≤ 99) (h4 : -1 ≤ h ∧ h ≤ 99) (h5 : -1 ≤ mi ∧ mi ≤ 99) (h6 : -1 ≤ se ∧ se ≤ 99) :
    parseM (headG y mo d h mi se x ++ t) = tailP y mo d h mi se t := by
  obtain ⟨y1, y2, y3, y4, ey, vy⟩ := pad4 h1.1 h1.2
  obtain ⟨m1, m2, em, vm⟩ := pad2 h2.1 h2.2
  obtain ⟨d1, d2, ed, vd⟩ := pad2 h3.1 h3.2
  obtain ⟨a1, a2, ea, va⟩ := pad2 h4.1 h4.2
  obtain ⟨i1, i2, ei, vi⟩ := pad2 h5.1 h5.2
  obtain ⟨s1, s2, es, vs⟩ := pad2 h6.1 h6.2
  unfold headG
  rw [ey, em, ed, ea, ei, es]
  cases t with
  | nil => rfl
  | cons c r =>
    show parseM (y1 :: y2 :: y3 :: y4 :: 45 :: m1 :: m2 :: 45 :: d1 :: d2 :: x :: a1 :: a2 :: 58 :: i1 :: i2 :: 58 :: s1 :: s2 :: c :: r) = _
    change parse20 y1 y2 y3 y4 45 m1 m2 45 d1 d2 x a1 a2 58 i1 i2 58 s1 s2 c r = _
    rw [parse20, vy, vm, vd, va, vi, vs]
    by_cases n1 : y < 0 ∨ mo < 0 ∨ d < 0
    · rw [if_pos n1, tailP_neg (by first | assumption | rfl | exact Nat.le_add_left _ _ | decide | lia)]
    · rw [if_neg n1]
      by_cases n2 : h < 0 ∨ mi < 0 ∨ se < 0
      · rw [if_pos n2, tailP_neg (by first | assumption | rfl | exact Nat.le_add_left _ _ | decide | lia)]
      · rw [if_neg n2, if_neg (by first | rfl | simp), if_neg (by first | assumption | rfl | exact Nat.le_add_left _ _ | decide | lia), if_neg (by first | rfl | simp)]
        rfl
theorem far48 (t : List Nat) (hs : ¬ t.length < 20) : t[4]? = some 48 → parseM t = none := by
  refine twenty hs fun y1 y2 y3 y4 a m1 m2 b d1 d2 x h1 h2 e i1 i2 f s1 s2 c r e3 => ?_
  obtain rfl := Option.some.inj (show some a = some 48 from e3)
  change parse20 y1 y2 y3 y4 48 m1 m2 b d1 d2 x h1 h2 e i1 i2 f s1 s2 c r = none
  unfold parse20
  split
  · rfl
  · split
    · rfl
    · exact if_pos (.inl (by decide))
/-- a year of five signs -/
theorem parse_far {mo d h mi se : Int} {x : Nat} {t : List Nat} : parseM (headG 10000 mo d h mi se x ++ t) = none := by
  have e : padL 10000 4 = [49, 48, 48, 48, 48] := by decide
  unfold headG
  rw [e]
  generalize hq : padL mo 2 ++ [45] ++ padL d 2 ++ [x] ++ padL h 2 ++ [58] ++ padL mi 2 ++ [58] ++ padL se 2 ++ t = q
  have e2 : [49, 48, 48, 48, 48] ++ [45] ++ padL mo 2 ++ [45] ++ padL d 2 ++ [x] ++ padL h 2 ++ [58] ++ padL mi 2 ++ [58] ++ padL se 2 ++ t = 49 :: 48 :: 48 :: 48 :: 48 :: 45 :: q := by
    rw [← hq]; first | rfl | simp
  rw [e2]
  by_cases hs : (49 :: 48 :: 48 :: 48 :: 48 :: 45 :: q).length < 20
  · exact parseM_short hs
  · exact far48 _ hs rfl

/-- the signs that a good text has -/
noncomputable def okc (c : Nat) : Bool := digit c || c == 45 || c == 58 || c == 84 || c == 116 || c == 90 || c == 122 || c == 46 || c == 43
theorem digV_ok {l : List Nat} (h : ¬ digV l < 0) : l.all okc = true := by
  unfold digV at h
  split at h
  · rename_i q
    rw [List.all_eq_true] at q ⊢
    intro c hc
    unfold okc
    rw [q c hc]; rfl
  · lia
theorem zoneM_ok {z : List Nat} {o : Option Int} (h : zoneM z = some o) : z.all okc = true := by
  unfold zoneM at h
  split at h
  · cases h
  · rename_i c q
    split at h
    · rename_i hc
      split at h
      · rename_i hq
        subst hq
        rcases hc with rfl | rfl <;> decide
      · cases h
    · split at h
      · rename_i hc
        split at h
        · rename_i a1 a2 m b1 b2
          split at h
          · cases h
          · rename_i hn
            have q1 := @digV_ok [a1, a2] (by first | assumption | rfl | exact Nat.le_add_left _ _ | decide | lia)
            have q2 := @digV_ok [b1, b2] (by first | assumption | rfl | exact Nat.le_add_left _ _ | decide | lia)
            have q3 : m = 58 := by first | assumption | rfl | exact Nat.le_add_left _ _ | decide | lia
            subst q3
            simp only [List.all_cons, List.all_nil, Bool.and_true, Bool.and_eq_true] at q1 q2 ⊢
            refine ⟨?_, q1.1, q1.2, by decide, q2.1, q2.2⟩
            rcases hc with rfl | rfl <;> decide
        · cases h
      · cases h
theorem takeWhile_ok (r : List Nat) : (r.takeWhile digit).all okc = true := by
  have := takeWhile_all r
  rw [List.all_eq_true] at this ⊢
  intro c hc
  unfold okc
  rw [this c hc]; rfl
theorem parse_ok {t : List Nat} {s : St} (h : parseM t = some s) : t.all okc = true := by
  by_cases hs : t.length < 20
  case neg =>
    revert h
    refine twenty hs fun y1 y2 y3 y4 a m1 m2 b d1 d2 x h1 h2 e i1 i2 f s1 s2 c r h => ?_
    change parse20 y1 y2 y3 y4 a m1 m2 b d1 d2 x h1 h2 e i1 i2 f s1 s2 c r = some s at h
    unfold parse20 at h
    split at h
    · cases h
    · split at h
      · cases h
      · split at h
        · cases h
        · split at h
          · cases h
          · split at h
            · cases h
            · rename_i n1 n2 n3 n4 n5
              have q1 := @digV_ok [y1, y2, y3, y4] (by first | assumption | rfl | exact Nat.le_add_left _ _ | decide | lia)
              have q2 := @digV_ok [m1, m2] (by first | assumption | rfl | exact Nat.le_add_left _ _ | decide | lia)
              have q3 := @digV_ok [d1, d2] (by first | assumption | rfl | exact Nat.le_add_left _ _ | decide | lia)
              have q4 := @digV_ok [h1, h2] (by first | assumption | rfl | exact Nat.le_add_left _ _ | decide | lia)
              have q5 := @digV_ok [i1, i2] (by first | assumption | rfl | exact Nat.le_add_left _ _ | decide | lia)
              have q6 := @digV_ok [s1, s2] (by first | assumption | rfl | exact Nat.le_add_left _ _ | decide | lia)
              have ea : a = 45 := by first | assumption | rfl | exact Nat.le_add_left _ _ | decide | lia
              have eb : b = 45 := by first | assumption | rfl | exact Nat.le_add_left _ _ | decide | lia
              have ee : e = 58 := by first | assumption | rfl | exact Nat.le_add_left _ _ | decide | lia
              have ef : f = 58 := by first | assumption | rfl | exact Nat.le_add_left _ _ | decide | lia
              have hx : okc x = true := by
                have : x = 84 ∨ x = 116 := by first | assumption | rfl | exact Nat.le_add_left _ _ | decide | lia
                rcases this with rfl | rfl <;> decide
              subst ea eb ee ef
              have tl : (c :: r).all okc = true := by
                split at h
                · cases h
                · rename_i ns z hf
                  have hz : ∃ o, zoneM z = some o := by
                    unfold tailM at h
                    split at h
                    · cases h
                    · rename_i o ho; exact ⟨o, ho⟩
                  obtain ⟨o, ho⟩ := hz
                  have zo := zoneM_ok ho
                  unfold fracM at hf
                  split at hf
                  · rename_i q; cases q
                  · rename_i c' r' q
                    cases q
                    split at hf
                    · rename_i hc
                      subst hc
                      split at hf
                      · cases hf
                      · cases hf
                        rw [List.all_cons, ← List.takeWhile_append_dropWhile (p := digit) (l := r), List.all_append, takeWhile_ok, zo]; rfl
                    · cases hf; exact zo
              simp only [List.all_cons, List.all_nil, Bool.and_true, Bool.and_eq_true] at q1 q2 q3 q4 q5 q6 tl ⊢
              exact ⟨q1.1, q1.2.1, q1.2.2.1, q1.2.2.2, by decide, q2.1, q2.2, by decide, q3.1, q3.2, hx, q4.1, q4.2, by decide, q5.1, q5.2, by decide, q6.1, q6.2, tl⟩
  rw [parseM_short hs] at h; cases h
theorem parse_bad {t : List Nat} {c : Nat} (hc : c ∈ t) (hb : okc c = false) : parseM t = none := by
  cases h : parseM t with
  | none => rfl
  | some s =>
    have := List.all_eq_true.mp (parse_ok h) c hc
    rw [hb] at this; cases this
end Mine

namespace Mine
open PySem

theorem snocRec {P : List Nat → Prop} (nil : P []) (append_singleton : ∀ l c, P l → P (l ++ [c])) (l : List Nat) : P l := by
  have go : ∀ n (l : List Nat), l.length = n → P l := by
    intro n
    induction n with
    | zero => intro l h; rw [List.length_eq_zero_iff.mp h]; exact nil
    | succ n ih =>
      intro l h
      have hne : l ≠ [] := fun q => by rw [q] at h; simp at h
      rw [← List.dropLast_concat_getLast hne]
      exact append_singleton _ _ (ih _ (by rw [List.length_dropLast, h]; rfl))
  exact go _ l rfl
theorem takeWhile_app {ds z : List Nat} (hd : ds.all digit = true) (hz : ∀ c r, z = c :: r → digit c = false) : (ds ++ z).takeWhile digit = ds ∧ (ds ++ z).dropWhile digit = z := by
  induction ds with
  | nil =>
    cases z with
    | nil => exact ⟨rfl, rfl⟩
    | cons c r =>
      have := hz c r rfl
      simp [List.takeWhile, List.dropWhile, this]
  | cons c ds ih =>
    simp only [List.all_cons, Bool.and_eq_true] at hd
    obtain ⟨i1, i2⟩ := ih hd.2
    simp [List.takeWhile, List.dropWhile, hd.1, i1, i2]

/-- a fraction, then what is no fraction -/
theorem fracM_dot {ds z : List Nat} (hd : ds.all digit = true) (hz : ∀ c r, z = c :: r → digit c = false) : fracM (46 :: (ds ++ z)) = if ds.length < 1 ∨ ds.length > 9 then none else some (digitsVal ds * 10 ^ (9 - ds.length), z) := by
  obtain ⟨i1, i2⟩ := takeWhile_app hd hz
  rw [fracM, if_pos rfl, i1, i2]
theorem fracM_no {z : List Nat} (hz : ∀ c r, z = c :: r → c ≠ 46) : fracM z = some (0, z) := by
  cases z with
  | nil => rfl
  | cons c r => rw [fracM, if_neg (hz c r rfl)]

theorem digitsVal_app (a b : List Nat) : digitsVal (a ++ b) = digitsVal a * 10 ^ b.length + digitsVal b := by
  induction b using snocRec with
  | nil => simp [digitsVal]
  | append_singleton b c ih =>
    rw [← List.append_assoc, digitsVal_snoc, digitsVal_snoc, ih, List.length_append, List.length_singleton, Int.pow_succ]
    generalize (10 : Int) ^ b.length = q
    rw [Int.add_mul, Int.mul_assoc]
    lia
theorem digitsVal_zeros (k : Nat) : digitsVal (List.replicate k 48) = 0 := by
  induction k with
  | zero => rfl
  | succ k ih => rw [List.replicate_succ', digitsVal_snoc, ih]; rfl
theorem digitsVal_bounds {l : List Nat} (h : l.all digit = true) : 0 ≤ digitsVal l ∧ digitsVal l < 10 ^ l.length := by
  induction l using snocRec with
  | nil => simp [digitsVal]
  | append_singleton l c ih =>
    rw [List.all_append, Bool.and_eq_true] at h
    obtain ⟨a, b⟩ := ih h.1
    have hc : digit c = true := by simpa using h.2
    unfold digit at hc
    simp only [Bool.and_eq_true, decide_eq_true_eq] at hc
    rw [digitsVal_snoc, List.length_append, List.length_singleton, Int.pow_succ]
    lia

/-- zeros at the end go -/
theorem rstrip_zeros : ∀ (l : List Nat), ∃ k, l = rstripL [48] l ++ List.replicate k 48 := by
  intro l
  induction l using snocRec with
  | nil => exact ⟨0, rfl⟩
  | append_singleton l c ih =>
    rw [rstripL_snoc]
    by_cases h : c = 48
    · rw [if_pos h]
      obtain ⟨k, hk⟩ := ih
      refine ⟨k + 1, ?_⟩
      rw [List.replicate_succ', ← List.append_assoc, ← hk, h]
    · rw [if_neg h]; exact ⟨0, by simp⟩
theorem rstrip_val {l : List Nat} : digitsVal (rstripL [48] l) * 10 ^ (l.length - (rstripL [48] l).length) = digitsVal l := by
  obtain ⟨k, hk⟩ := rstrip_zeros l
  have hl : l.length = (rstripL [48] l).length + k := by
    have := congrArg List.length hk
    rw [List.length_append, List.length_replicate] at this
    exact this
  have e : l.length - (rstripL [48] l).length = k := by first | assumption | rfl | exact Nat.le_add_left _ _ | decide | lia
  rw [e]
  have h2 : digitsVal l = digitsVal (rstripL [48] l ++ List.replicate k 48) := congrArg digitsVal hk
  rw [h2, digitsVal_app, digitsVal_zeros, List.length_replicate]; lia
theorem rstrip_all {l : List Nat} (h : l.all digit = true) : (rstripL [48] l).all digit = true := by
  obtain ⟨k, hk⟩ := rstrip_zeros l
  rw [hk, List.all_append, Bool.and_eq_true] at h
  exact h.1
theorem rstrip_ne {v : Nat} (h0 : 0 < v) (h1 : v < 10 ^ 9) : 1 ≤ (rstripL [48] (dig 9 v)).length := by
  rcases Nat.eq_zero_or_pos (rstripL [48] (dig 9 v)).length with q | q
  · have := @rstrip_val (dig 9 v)
    rw [List.length_eq_zero_iff.mp q, dig_val 9 v h1] at this
    simp [digitsVal] at this
    lia
  · exact q

theorem zoneL_head (off : Option Int) : ∃ c q, zoneL off = c :: q ∧ (c = 90 ∨ c = 43 ∨ c = 45) := by
  unfold zoneL
  split
  · exact ⟨_, _, rfl, .inr (.inr rfl)⟩
  · split
    · exact ⟨_, _, rfl, .inl rfl⟩
    · split
      · exact ⟨_, _, rfl, .inr (.inr rfl)⟩
      · exact ⟨_, _, rfl, .inr (.inl rfl)⟩
theorem headc {z : List Nat} (h : ∃ c q, z = c :: q ∧ (c = 90 ∨ c = 122 ∨ c = 43 ∨ c = 45)) : (∀ c r, z = c :: r → digit c = false) ∧ (∀ c r, z = c :: r → c ≠ 46) ∧ z ≠ [] := by
  obtain ⟨c, q, rfl, hc⟩ := h
  refine ⟨fun c' r e => ?_, fun c' r e => ?_, by simp⟩
  · cases e; rcases hc with rfl | rfl | rfl | rfl <;> decide
  · cases e; lia

/-- a zone of sign, hours, minutes -/
theorem zoneM_pm {c h m : Nat} (hc : c = 43 ∨ c = 45) (hh : h ≤ 99) (hm : m ≤ 99) : zoneM (c :: (dig 2 h ++ [58] ++ dig 2 m)) =
    if h > 23 ∨ m > 59 then none else if c = 45 then (if h * 60 + m = 0 then some none else some (some (-((h : Int) * 60 + m)))) else some (some ((h : Int) * 60 + m)) := by
  have vh := digV_dig 2 h (by first | assumption | rfl | exact Nat.le_add_left _ _ | decide | lia)
  have vm := digV_dig 2 m (by first | assumption | rfl | exact Nat.le_add_left _ _ | decide | lia)
  rw [dig2] at vh vm
  rw [dig2, dig2]
  show zoneM (c :: [48 + h / 10 % 10, 48 + h % 10, 58, 48 + m / 10 % 10, 48 + m % 10]) = _
  rw [zoneM, if_neg (by first | assumption | rfl | exact Nat.le_add_left _ _ | decide | lia), if_pos hc]
  simp only [vh, vm]
  rw [if_neg (by first | assumption | rfl | exact Nat.le_add_left _ _ | decide | lia)]
  by_cases q : h > 23 ∨ m > 59
  · rw [if_pos (by first | assumption | rfl | exact Nat.le_add_left _ _ | decide | lia), if_pos q]
  · rw [if_neg (by first | assumption | rfl | exact Nat.le_add_left _ _ | decide | lia), if_neg q]
    split
    · split <;> split <;> first | rfl | lia
    · rfl

theorem zoneM_zoneL {off : Option Int} (h1 : -1439 ≤ shift off) (h2 : shift off ≤ 1439) : zoneM (zoneL off) = some off := by
  unfold zoneL
  split
  · rfl
  · rename_i o
    simp only [shift_some] at h1 h2
    split
    · rename_i h; subst h; rfl
    · split
      · rw [zoneM_pm (.inr rfl) (by first | assumption | rfl | exact Nat.le_add_left _ _ | decide | lia) (by first | assumption | rfl | exact Nat.le_add_left _ _ | decide | lia), if_neg (by first | assumption | rfl | exact Nat.le_add_left _ _ | decide | lia), if_pos rfl, if_neg (by first | assumption | rfl | exact Nat.le_add_left _ _ | decide | lia)]
        congr 2; lia
      · rw [zoneM_pm (.inl rfl) (by first | assumption | rfl | exact Nat.le_add_left _ _ | decide | lia) (by first | assumption | rfl | exact Nat.le_add_left _ _ | decide | lia), if_neg (by first | assumption | rfl | exact Nat.le_add_left _ _ | decide | lia), if_neg (by first | assumption | rfl | exact Nat.le_add_left _ _ | decide | lia)]
        congr 2; lia

/-- what is written reads back -/
theorem parse_fmt {s : St} (hv : s.valid) : parseM (fmtL s) = some s := by
  have hp := hv.1
  obtain ⟨a, b, c, d, e, f, g⟩ := hp
  have hm := @mLen_bounds s.y s.mo
  have hse : 0 ≤ s.se ∧ s.se ≤ 60 := by rcases hv.2 with q | q <;> lia
  unfold fmtL
  rw [List.append_assoc, ← headG_eq a (by first | assumption | rfl | exact Nat.le_add_left _ _ | decide | lia) (by first | assumption | rfl | exact Nat.le_add_left _ _ | decide | lia) (by first | assumption | rfl | exact Nat.le_add_left _ _ | decide | lia) (by first | assumption | rfl | exact Nat.le_add_left _ _ | decide | lia) (by first | assumption | rfl | exact Nat.le_add_left _ _ | decide | lia), parse_headG (.inl rfl) (by first | assumption | rfl | exact Nat.le_add_left _ _ | decide | lia) (by first | assumption | rfl | exact Nat.le_add_left _ _ | decide | lia) (by first | assumption | rfl | exact Nat.le_add_left _ _ | decide | lia) (by first | assumption | rfl | exact Nat.le_add_left _ _ | decide | lia) (by first | assumption | rfl | exact Nat.le_add_left _ _ | decide | lia) (by first | assumption | rfl | exact Nat.le_add_left _ _ | decide | lia)]
  obtain ⟨zc, zq, ez, hz⟩ := zoneL_head s.off
  have hh := headc (z := zoneL s.off) ⟨zc, zq, ez, by first | assumption | rfl | exact Nat.le_add_left _ _ | decide | lia⟩
  have hf : fracM (fracL s.ns ++ zoneL s.off) = some (s.ns, zoneL s.off) := by
    unfold fracL
    split
    · rename_i q; rw [q, List.nil_append]; exact fracM_no hh.2.1
    · rename_i q
      rw [List.cons_append, fracM_dot (rstrip_all (dig_all 9 _)) hh.1]
      have l1 := rstrip_ne (v := s.ns.toNat) (by first | assumption | rfl | exact Nat.le_add_left _ _ | decide | lia) (by first | assumption | rfl | exact Nat.le_add_left _ _ | decide | lia)
      have l2 := rstripL_length [48] (dig 9 s.ns.toNat)
      rw [dig_length] at l2
      rw [if_neg (by first | assumption | rfl | exact Nat.le_add_left _ _ | decide | lia)]
      have := @rstrip_val (dig 9 s.ns.toNat)
      rw [dig_length, dig_val 9 _ (by first | assumption | rfl | exact Nat.le_add_left _ _ | decide | lia)] at this
      rw [this]
      congr 2; lia
  have hne : fracL s.ns ++ zoneL s.off ≠ [] := by rw [ez]; simp
  have hval : St.mk s.y s.mo s.d s.h s.mi s.se s.ns s.off = s := rfl
  cases hc : fracL s.ns ++ zoneL s.off with
  | nil => exact absurd hc hne
  | cons c0 r0 =>
    rw [hc] at hf
    rw [tailP, hf]
    simp only
    rw [tailM, zoneM_zoneL g.1 g.2]
    simp only [hval]
    rw [if_pos hv]

/-- the fraction as the laws write it -/
theorem law_frac {ns : Int} (h0 : 0 ≤ ns) (h1 : ns ≤ 999999999) : rstripL [46] (rstripL [48] (46 :: dig 9 ns.toNat)) = fracL ns := by
  have key : ∀ l : List Nat, rstripL [48] (46 :: l) = 46 :: rstripL [48] l := by
    intro l
    induction l using snocRec with
    | nil => rfl
    | append_singleton l c ih =>
      rw [← List.cons_append, rstripL_snoc, rstripL_snoc]
      split
      · exact ih
      · rfl
  rw [key]
  unfold fracL
  by_cases q : ns = 0
  · rw [if_pos q, q]; decide
  · rw [if_neg q]
    have l1 := rstrip_ne (v := ns.toNat) (by first | assumption | rfl | exact Nat.le_add_left _ _ | decide | lia) (by first | assumption | rfl | exact Nat.le_add_left _ _ | decide | lia)
    have al := rstrip_all (dig_all 9 ns.toNat)
    generalize rstripL [48] (dig 9 ns.toNat) = r at *
    obtain ⟨r', c, rfl⟩ : ∃ r' c, r = r' ++ [c] := by
      refine ⟨r.dropLast, r.getLast (by intro z; rw [z] at l1; simp at l1), ?_⟩
      rw [List.dropLast_concat_getLast]
    rw [List.all_append, Bool.and_eq_true] at al
    have hc : digit c = true := by simpa using al.2
    have hc' : c ≠ 46 := by
      unfold digit at hc
      simp only [Bool.and_eq_true, decide_eq_true_eq] at hc
      lia
    unfold rstripL
    rw [← List.cons_append, List.reverse_append, List.reverse_singleton, List.singleton_append, List.dropWhile_cons_of_neg (by simpa using hc')]
    simp
end Mine

namespace Mine
open PySem

theorem runs_toks {M : Model} {Γ : PySem.Ctx} {p : Pos} {t : Sem PySem.Fin} {fs : List Frame} {s s' : Shared} {e : End} (h : Runs M Γ p t fs s e s') : s.toks ≤ s'.toks := by
  induction h with
  | done | raise | yield => exact Nat.le_refl _
  | fresh _ ih => exact Nat.le_trans (Nat.le_succ _) ih
  | call _ _ a b | resumeFresh _ _ _ _ a b | resumeSuspended _ _ _ _ a b | segRet _ _ a b | segGen _ _ a b | segSuspGen _ _ _ _ a b => exact Nat.le_trans a b
  | callSusp _ a | segSuspOut _ _ a => exact a
  | again _ _ ih | rule _ ih | «at» _ ih | load _ _ ih | update _ _ ih | loadIfAlive _ ih | point _ ih | alloc _ ih | ask _ ih | choose _ _ ih | os _ ih | handled _ ih | genState _ _ ih | stack _ ih | thread _ ih | newGen _ ih
  | resumeJustStarted _ _ _ ih | resumeThrowFresh _ _ ih | resumeRunning _ _ ih | resumeFinished _ _ ih => exact ih

theorem wakes_toks {M : Model} {Γ : PySem.Ctx} {p : Pos} {g : Nat} {r : Resume} {s s' : Shared} {res : GenResult} (h : Wakes M Γ p g r s res s') : s.toks ≤ s'.toks :=
  runs_toks ((Sem.runs_resume_iff M Γ (l := []) (k := fun _ => .pure (.done .next)) (p := p) (e := .ret (.ok .next))).mpr ⟨res, s', h, .done⟩)

theorem wp_toks {α : Type} {M : Model} {Γ : PySem.Ctx} {Q : α → Pos → Shared → Prop} {E : Value → Pos → Shared → Prop} (t : Sem α) : ∀ (p : Pos) (s : Shared) (n : Nat), n ≤ s.toks → Sem.wp M Γ t (fun a p' s' => n ≤ s'.toks → Q a p' s') (fun e p' s' => n ≤ s'.toks → E e p' s') p s → Sem.wp M Γ t Q E p s := by
  induction t with
  | pure | raise => exact fun _ _ _ hn h => h hn
  | call _ _ _ _ _ ih => exact fun _ _ n hn h => h.imp fun r y => y.imp fun s' z => ⟨z.1, ih r _ s' n (Nat.le_trans hn (runs_toks z.1)) z.2⟩
  | resume _ _ _ _ ih => exact fun _ _ n hn h => h.imp fun r y => y.imp fun s' z => ⟨z.1, ih r _ s' n (Nat.le_trans hn (wakes_toks z.1)) z.2⟩
  | fresh _ ih => exact fun _ _ n hn h => ih _ _ _ n (Nat.le_succ_of_le hn) h
  | unsupported | finish | yield | fork | await | register => exact fun _ _ _ _ h => h
  | load _ _ _ ih | genState _ _ ih => exact fun _ _ n hn h => h.imp fun _ y => ⟨y.1, ih _ _ _ n hn y.2⟩
  | _ =>
    rename_i ih
    intro p s n hn h
    first
    | exact ih _ _ _ n hn h
    | exact ⟨h.1, ih _ _ _ n hn h.2⟩

/-- tokens are never given back -/
theorem wpAny_tk {α : Type} {M : Model} {A : Around} {t : Sem α} {Q : α → Shared → Prop} {E : Value → Shared → Prop} {s : Shared}
    (h : wpAny M A t (fun a s' => s.toks ≤ s'.toks → Q a s') (fun e s' => s.toks ≤ s'.toks → E e s') s) : wpAny M A t Q E s :=
  fun Γ p hΓ => wp_toks t p s s.toks (Nat.le_refl _) (h Γ p hΓ)
end Mine

namespace Mine
open PySem PySem.Calls PySem.Spec PyProof.Rows

/-- an object that stays: no code's table -/
noncomputable def KeepMe (o : Obj) : Prop := o.cls ≠ .none ∨ ∀ vs, o.data ≠ .fields vs

/-- what stays from one heap to a later one: all but tables, and but the frames S; slots aside -/
noncomputable def Xt (S : List Addr) (h h' : Heap) : Prop := ∀ b o, b ∉ S → h.get? b = some o → KeepMe o → ∃ sl, h'.get? b = some { o with slots := sl }

theorem Xt.refl (S : List Addr) (h : Heap) : Xt S h h := fun _ o _ e _ => ⟨o.slots, e⟩
theorem Xt.of_keeps {S : List Addr} {h h' : Heap} (k : ∀ b o, h.get? b = some o → h'.get? b = some o) : Xt S h h' := fun b o _ e _ => ⟨o.slots, k b o e⟩
theorem Xt.trans {S : List Addr} {h₁ h₂ h₃ : Heap} (x : Xt S h₁ h₂) (y : Xt S h₂ h₃) : Xt S h₁ h₃ := fun b o n e k => by
  obtain ⟨sl, e₂⟩ := x b o n e k
  obtain ⟨sl', e₃⟩ := y b _ n e₂ k
  exact ⟨sl', e₃⟩
theorem Xt.weak {S S' : List Addr} {h h' : Heap} (x : Xt S h h') (hs : ∀ b, b ∈ S → b ∈ S') : Xt S' h h' := fun b o n e k => x b o (fun q => n (hs b q)) e k
theorem Xt.ns {S : List Addr} {h h' : Heap} {a : Addr} {m : Str → Option Value} (x : Xt S h h') (hn : h.Ns a m) (ha : a ∉ S) : h'.Ns a m := by
  obtain ⟨o, es, ep, ho, hd, r⟩ := hn
  obtain ⟨sl, e⟩ := x a o ha ho (.inr fun vs q => by rw [hd] at q; cases q)
  exact ⟨_, es, ep, e, hd, r⟩

mutual
/-- a value reads as a plain datum (no dict) -/
inductive Rd (h : Heap) : Value → PyData → Prop
  | none : Rd h .none .none
  | bool (b) : Rd h (.bool b) (.bool b)
  | int (i t) : Rd h (.int i t) (.int i)
  | str (x t) : x.length ≤ limit → Rd h (.str x t) (.str x)
  | list {a o vs n xs} : h.get? a = some o → o.cls = .type "list" → o.data = .seq vs n → vs.size ≤ 1048576 → RdAll h vs.toList xs → Rd h (.ref a) (.list xs)
  | tuple {a o vs n xs} : h.get? a = some o → o.cls = .type "tuple" → o.data = .seq vs n → vs.size ≤ 1048576 → RdAll h vs.toList xs → Rd h (.ref a) (.tuple xs)
inductive RdAll (h : Heap) : List Value → List PyData → Prop
  | nil : RdAll h [] []
  | cons {v vs d ds} : Rd h v d → RdAll h vs ds → RdAll h (v :: vs) (d :: ds)
end

mutual
theorem Rd.reads {h : Heap} : ∀ {v : Value} {d : PyData}, Rd h v d → ∃ as, Reads h v d as
  | _, _, .none => ⟨_, .none⟩
  | _, _, .bool b => ⟨_, .bool b⟩
  | _, _, .int i t => ⟨_, .int i t⟩
  | _, _, .str s t _ => ⟨_, .str s t⟩
  | _, _, .list ho hc hd _ r => let ⟨_, q⟩ := r.reads; ⟨_, .list ho hc hd q⟩
  | _, _, .tuple ho hc hd _ r => let ⟨_, q⟩ := r.reads; ⟨_, .tuple ho hc hd q⟩
theorem RdAll.reads {h : Heap} : ∀ {v : List Value} {d : List PyData}, RdAll h v d → ∃ as, ReadsAll h v d as
  | _, _, .nil => ⟨_, .nil⟩
  | _, _, .cons a b => let ⟨_, q⟩ := a.reads; let ⟨_, p⟩ := b.reads; ⟨_, .cons q p⟩
end

mutual
theorem Rd.move {h h' : Heap} (x : ∀ b o vs n, h.get? b = some o → o.data = .seq vs n → o.cls ≠ .none → ∃ sl, h'.get? b = some { o with slots := sl }) : ∀ {v : Value} {d : PyData}, Rd h v d → Rd h' v d
  | _, _, .none => .none
  | _, _, .bool b => .bool b
  | _, _, .int i t => .int i t
  | _, _, .str s t z => .str s t z
  | _, _, .list ho hc hd z r => by
    obtain ⟨sl, e⟩ := x _ _ _ _ ho hd (by rw [hc]; intro q; cases q)
    exact .list e hc hd z (r.move x)
  | _, _, .tuple ho hc hd z r => by
    obtain ⟨sl, e⟩ := x _ _ _ _ ho hd (by rw [hc]; intro q; cases q)
    exact .tuple e hc hd z (r.move x)
theorem RdAll.move {h h' : Heap} (x : ∀ b o vs n, h.get? b = some o → o.data = .seq vs n → o.cls ≠ .none → ∃ sl, h'.get? b = some { o with slots := sl }) : ∀ {vs : List Value} {ds : List PyData}, RdAll h vs ds → RdAll h' vs ds
  | _, _, .nil => .nil
  | _, _, .cons a b => .cons (a.move x) (b.move x)
end
theorem xt_seq {S : List Addr} {h h' : Heap} (x : Xt S h h') (hL : ∀ a ∈ S, ∃ m, h.Ns a m) : ∀ b o vs n, h.get? b = some o → o.data = .seq vs n → o.cls ≠ .none → ∃ sl, h'.get? b = some { o with slots := sl } := fun b o vs n e hd c => by
  have hne : b ∉ S := fun q => by
    obtain ⟨m, o', es, ep, ho, hd', _⟩ := hL b q
    rw [e] at ho; cases ho; rw [hd] at hd'; cases hd'
  exact x b o hne e (.inl c)
theorem xt_nil {h h' : Heap} (x : Xt [] h h') : ∀ b o vs n, h.get? b = some o → o.data = .seq vs n → o.cls ≠ .none → ∃ sl, h'.get? b = some { o with slots := sl } := xt_seq x fun _ q => by cases q
theorem Rd.xt {h h' : Heap} {v : Value} {d : PyData} (r : Rd h v d) (x : Xt [] h h') : Rd h' v d := r.move (xt_nil x)
theorem RdAll.xt {h h' : Heap} {v : List Value} {d : List PyData} (r : RdAll h v d) (x : Xt [] h h') : RdAll h' v d := r.move (xt_nil x)
theorem seq_sameBut {h h' : Heap} {L : Addr} {m : Str → Option Value} (hn : h.Ns L m) (hs : Heap.SameBut L h h') : ∀ b o vs n, h.get? b = some o → o.data = .seq vs n → o.cls ≠ .none → ∃ sl, h'.get? b = some { o with slots := sl } := fun b o vs n e hd _ => by
  have hne : b ≠ L := fun q => by
    obtain ⟨o', es, ep, ho, hd', _⟩ := hn
    rw [← q, e] at ho; cases ho; rw [hd] at hd'; cases hd'
  exact ⟨o.slots, (hs.2 b hne).trans e⟩

/-- what is fixed for a whole run -/
structure Cfg where
  prog : Program
  w : World
  H : Heap
  O : OsState
  Tab : Heap → Prop
  tab : ∀ h h', (∀ b o vs, h.get? b = some o → o.data = .fields vs → h'.get? b = some o) → Tab h → Tab h'

section
variable (X : Cfg)
/-- the heap bears what the call has met, and the tables are well -/
structure Wh (h : Heap) : Prop where
  old : ∀ b o, X.H.get? b = some o → KeepMe o → h.get? b = some o
  tab : X.Tab h
structure W (s : Shared) : Prop where
  h : Wh X s.heap
  gens : AllBare s.gens
  os : s.os = X.O
  toks : 0 < s.toks
/-- from a state to a later one -/
noncomputable def Ok (S : List Addr) (s s' : Shared) : Prop := Xt S s.heap s'.heap ∧ W X s'

noncomputable abbrev fr (l : List Env) : List Addr := l.filterMap (·.frame)
/-- a ValueError that has left a frame and comes to the frames l -/
noncomputable def Fly (S : List Addr) (l : List Env) (s s' : Shared) (e : Value) : Prop :=
  ∃ a B t, e = .ref a ∧ Xt (fr l) s.heap B ∧ Wh X B ∧ Heap.FlyingW B l a (.type "ValueError") (.ref t) s'.heap ∧
    (∀ b o, s.heap.get? b = some o → KeepMe o → b ∈ fr l → b ∉ S → ∃ sl, s'.heap.get? b = some { o with slots := sl }) ∧ AllBare s'.gens ∧ s'.os = X.O ∧ 0 < s'.toks
/-- a ValueError that is raised in the frame at hand -/
noncomputable def Fresh (S : List Addr) (l : List Env) (s s' : Shared) (e : Value) : Prop :=
  ∃ a s₁ vs, e = .ref a ∧ Ok X S s s₁ ∧ s₁.heap.FunFrames X.H l ∧ Heap.MadeExcOf s₁.heap s'.heap a (.type "ValueError") vs ∧ s'.gens = s₁.gens ∧ s'.os = s₁.os ∧ s'.toks = s₁.toks

/-- what is asked behind a piece that comes to r -/
noncomputable def Sp {α β : Type} (Rel : Shared → β → α → Prop) (S : List Addr) (l : List Env) (s : Shared) (Q : β → Shared → Prop) (E : Value → Shared → Prop) : R α → Prop
  | .ok a => ∀ v s', Ok X S s s' → Rel s' v a → Q v s'
  | .exc false => ∀ e s', Fly X S l s s' e → E e s'
  | .exc true => ∀ e s', Fresh X S l s s' e → E e s'
  | .stuck => False
end

section
variable {X : Cfg} {S : List Addr} {l : List Env} {s s₁ s₂ s' : Shared} {e : Value}
theorem Wh.keeps {h h' : Heap} (x : Wh X h) (k : ∀ b o, h.get? b = some o → h'.get? b = some o) : Wh X h' :=
  ⟨fun b o e q => k b o (x.old b o e q), X.tab h h' (fun b o _ e _ => k b o e) x.tab⟩
theorem Wh.store {h h' : Heap} {L : Addr} {m : Str → Option Value} (x : Wh X h) (hn : h.Ns L m) (hnew : X.H.get? L = none) (hs : Heap.SameBut L h h') : Wh X h' := by
  refine ⟨fun b o e q => (hs.2 b fun z => ?_).trans (x.old b o e q), X.tab h h' (fun b o vs e hd => (hs.2 b fun z => ?_).trans e) x.tab⟩
  · rw [z, hnew] at e; cases e
  · obtain ⟨o', es, ep, ho, hd', _⟩ := hn
    rw [z, ho] at e; cases e; rw [hd] at hd'; cases hd'
theorem Ok.refl (w : W X s) : Ok X S s s := ⟨Xt.refl _ _, w⟩
theorem Ok.trans (x : Ok X S s s₁) (y : Ok X S s₁ s₂) : Ok X S s s₂ := ⟨x.1.trans y.1, y.2⟩
theorem Ok.weak (x : Ok X [] s s') : Ok X S s s' := ⟨x.1.weak (fun _ q => by cases q), x.2⟩
theorem W.tk (w : W X s) {k : Nat} (hk : s.toks ≤ k) : W X { s with toks := k } := ⟨w.h, w.gens, w.os, Nat.lt_of_lt_of_le w.toks hk⟩
theorem Ok.tk (w : W X s) {k : Nat} (hk : s.toks ≤ k) : Ok X S s { s with toks := k } := ⟨Xt.refl _ _, w.tk hk⟩
theorem W.keeps (w : W X s) {h' : Heap} {k : Nat} (hk : s.toks ≤ k) (q : ∀ b o, s.heap.get? b = some o → h'.get? b = some o) : W X { s with heap := h', toks := k } := ⟨w.h.keeps q, w.gens, w.os, Nat.lt_of_lt_of_le w.toks hk⟩
theorem Ok.keeps (w : W X s) {h' : Heap} {k : Nat} (hk : s.toks ≤ k) (q : ∀ b o, s.heap.get? b = some o → h'.get? b = some o) : Ok X S s { s with heap := h', toks := k } := ⟨Xt.of_keeps q, w.keeps hk q⟩

theorem funFrames_xt {h h' : Heap} (x : Xt S h h') (f : h.FunFrames X.H l) (hS : ∀ a ∈ S, ∃ m, h'.Ns a m) : h'.FunFrames X.H l := by
  induction l with
  | nil => trivial
  | cons env r ih =>
    obtain ⟨hk, ⟨L, o, hf, hn, ho, hd⟩, hr⟩ := f
    refine ⟨hk, ?_, ih hr⟩
    by_cases hm : L ∈ S
    · obtain ⟨m, o', es, ep, ho', hd', _⟩ := hS L hm
      exact ⟨L, o', hf, hn, ho', fun vs q => by rw [hd'] at q; cases q⟩
    · obtain ⟨sl, e⟩ := x L o hm ho (.inr hd)
      exact ⟨L, _, hf, hn, e, hd⟩

theorem Fly.pre (x : Fly X S l s₁ s' e) (o : Ok X S s s₁) (hS : ∀ a ∈ S, a ∈ fr l) : Fly X S l s s' e := by
  obtain ⟨a, B, t, e1, k1, wB, fl, k2, g, os, tk⟩ := x
  refine ⟨a, B, t, e1, (o.1.weak hS).trans k1, wB, fl, fun b ob eb kb mb nl => ?_, g, os, tk⟩
  obtain ⟨sl, e2⟩ := o.1 b ob nl eb kb
  obtain ⟨sl', e3⟩ := k2 b _ e2 kb mb nl
  exact ⟨sl', e3⟩
theorem Fly.weak (x : Fly X [] l s s' e) : Fly X S l s s' e := by
  obtain ⟨a, B, t, e1, k1, wB, fl, k2, g, os, tk⟩ := x
  exact ⟨a, B, t, e1, k1, wB, fl, fun b ob eb kb mb _ => k2 b ob eb kb mb (fun q => by cases q), g, os, tk⟩
theorem Fresh.pre (x : Fresh X S l s₁ s' e) (o : Ok X S s s₁) : Fresh X S l s s' e := by
  obtain ⟨a, s₂, vs, e1, k, f, m, g, os⟩ := x
  exact ⟨a, s₂, vs, e1, o.trans k, f, m, g, os⟩
theorem Fresh.weak (x : Fresh X [] l s s' e) : Fresh X S l s s' e := by
  obtain ⟨a, s₂, vs, e1, k, f, m, g, os⟩ := x
  exact ⟨a, s₂, vs, e1, k.weak, f, m, g, os⟩

variable {α β γ δ : Type} {Rel : Shared → β → α → Prop} {Rel' : Shared → δ → γ → Prop} {Q : β → Shared → Prop} {E : Value → Shared → Prop}
theorem Sp.pre {r : R α} (x : Sp X Rel S l s Q E r) (o : Ok X S s s₁) (hS : ∀ a ∈ S, a ∈ fr l) : Sp X Rel S l s₁ Q E r := by
  match r, x with
  | .ok a, x => exact fun v s' k rel => x v s' (o.trans k) rel
  | .exc false, x => exact fun e s' f => x e s' (f.pre o hS)
  | .exc true, x => exact fun e s' f => x e s' (f.pre o)
/-- a piece, then what hangs on its datum -/
theorem Sp.bind {Q' : δ → Shared → Prop} {r : R γ} {f : γ → R α} (x : Sp X Rel S l s Q E (r.bind f)) (hS : ∀ a ∈ S, a ∈ fr l)
    (k : ∀ c v s₁, Ok X S s s₁ → Rel' s₁ v c → Sp X Rel S l s₁ Q E (f c) → Q' v s₁) : Sp X Rel' S l s Q' E r := by
  match r, x with
  | .ok c, x => exact fun v s' o rel => k c v s' o rel (Sp.pre x o hS)
  | .exc false, x => exact x
  | .exc true, x => exact x
/-- the same, the first piece leaving the frame as it is -/
theorem Sp.bind0 {Q' : δ → Shared → Prop} {r : R γ} {f : γ → R α} (x : Sp X Rel S l s Q E (r.bind f)) (hS : ∀ a ∈ S, a ∈ fr l)
    (k : ∀ c v s₁, Ok X [] s s₁ → Rel' s₁ v c → Sp X Rel S l s₁ Q E (f c) → Q' v s₁) : Sp X Rel' [] l s Q' E r := by
  match r, x with
  | .ok c, x => exact fun v s' o rel => k c v s' o rel (Sp.pre x o.weak hS)
  | .exc false, x => exact fun e s' f => x e s' f.weak
  | .exc true, x => exact fun e s' f => x e s' f.weak
theorem Sp.ret {a : α} {v : β} (x : Sp X Rel S l s Q E (.ok a)) (o : Ok X S s s') (rel : Rel s' v a) : Q v s' := x v s' o rel
end

/-- the relation of values -/
noncomputable abbrev RelV (s : Shared) (v : Value) (d : PyData) : Prop := Rd s.heap v d
noncomputable abbrev RelVs (s : Shared) (v : List Value) (d : List PyData) : Prop := RdAll s.heap v d
noncomputable abbrev RelB (_ : Shared) (b : Bool) (c : Bool) : Prop := b = c
end Mine

namespace Mine
open PySem PySem.Calls PySem.Spec PyProof.Rows

theorem when_ok {α β : Type} {X : Cfg} {Rel : Shared → β → α → Prop} {S : List Addr} {l : List Env} {s : Shared} {Q : β → Shared → Prop} {E : Value → Shared → Prop} {c : Bool} {a : α}
    (h : Sp X Rel S l s Q E (.when c a)) : c = true ∧ Sp X Rel S l s Q E (.ok a) := by
  cases c with
  | true => exact ⟨rfl, h⟩
  | false => exact h.elim

theorem intBits_small {a : Int} (h : smallI a = true) : Builtin.Int.intBits a ≤ 64 := by
  unfold smallI at h
  simp only [Bool.and_eq_true, decide_eq_true_eq] at h
  unfold Builtin.Int.intBits
  split
  · lia
  · rename_i h0
    have h0' : a.natAbs ≠ 0 := by simpa using h0
    have : a.natAbs.log2 < 63 := (Nat.log2_lt h0').mpr (by first | assumption | exact Nat.le_add_left _ _ | decide | lia)
    lia

noncomputable def opOf : BOp → Operator
  | .add => .Add
  | .sub => .Sub
  | .mul => .Mult
  | .div => .FloorDiv
  | .mod => .Mod

section
variable {X : Cfg} {A : Around} {E : Value → Shared → Prop} {s : Shared} {S : List Addr} {l : List Env} {Q : Value → Shared → Prop}

theorem txt_mul (x : Str) (n : Int) : Txt.mul x n = ⟨((List.replicate n.toNat (sl x)).flatten).toArray⟩ := by
  unfold Txt.mul
  split
  · rename_i h
    have : n.toNat = 0 := by first | assumption | exact Nat.le_add_left _ _ | decide | lia
    rw [this]; rfl
  · rename_i h
    split
    · rename_i h'
      simp only [Bool.or_eq_true, beq_iff_eq] at h'
      rcases h' with h' | h'
      · subst h'; simp [sl]
      · have : x.cps = #[] := Array.eq_empty_of_size_eq_zero h'
        cases x with | mk c => subst this; simp [sl]
    · congr 1
      apply Array.toList_inj.mp
      simp only [sl]
      have : ∀ (k : Nat) (acc : Array Nat), ((List.replicate k x.cps).foldl (· ++ ·) acc).toList = acc.toList ++ (List.replicate k x.cps.toList).flatten := by
        intro k
        induction k with
        | zero => intro acc; simp
        | succ k ih => intro acc; rw [List.replicate_succ, List.foldl_cons, ih]; simp [List.replicate_succ, List.append_assoc]
      rw [this]; simp

theorem RdAll.append {h : Heap} : ∀ {vs ws : List Value} {ds es : List PyData}, RdAll h vs ds → RdAll h ws es → RdAll h (vs ++ ws) (ds ++ es)
  | _, _, _, _, .nil, y => y
  | _, _, _, _, .cons a b, y => .cons a (b.append y)
theorem RdAll.length {h : Heap} : ∀ {vs : List Value} {ds : List PyData}, RdAll h vs ds → vs.length = ds.length
  | _, _, .nil => rfl
  | _, _, .cons _ b => by simp [b.length]
theorem RdAll.flat {h : Heap} {vs : List Value} {ds : List PyData} (x : RdAll h vs ds) : ∀ n, RdAll h (List.replicate n vs).flatten (List.replicate n ds).flatten
  | 0 => .nil
  | n + 1 => by rw [List.replicate_succ, List.replicate_succ, List.flatten_cons, List.flatten_cons]; exact x.append (x.flat n)
theorem RdAll.get {h : Heap} : ∀ {vs : List Value} {ds : List PyData}, RdAll h vs ds → ∀ (i : Nat) (d : PyData), ds[i]? = some d → ∃ v, vs[i]? = some v ∧ Rd h v d
  | _, _, .nil, i, d, e => by simp at e
  | _, _, .cons a b, 0, d, e => by simp at e; subst e; exact ⟨_, rfl, a⟩
  | _, _, .cons a b, i + 1, d, e => by simp at e; simpa using b.get i d e
theorem RdAll.take {h : Heap} : ∀ {vs : List Value} {ds : List PyData}, RdAll h vs ds → ∀ n, RdAll h (vs.take n) (ds.take n)
  | _, _, .nil, n => by simp; exact .nil
  | _, _, .cons a b, 0 => .nil
  | _, _, .cons a b, n + 1 => .cons a (b.take n)
theorem RdAll.drop {h : Heap} : ∀ {vs : List Value} {ds : List PyData}, RdAll h vs ds → ∀ n, RdAll h (vs.drop n) (ds.drop n)
  | _, _, .nil, n => by simp; exact .nil
  | _, _, .cons a b, 0 => .cons a b
  | _, _, .cons a b, n + 1 => b.drop n

/-- a new tuple -/
theorem tuple_new (w : W X s) {vs : List Value} {ds : List PyData} (hz : vs.length ≤ 1048576) (r : RdAll s.heap vs ds) (h : Sp X RelV S l s Q E (.ok (.tuple ds))) :
    Q (.ref s.heap.objs.size) { s with heap := s.heap.push { cls := .type "tuple", data := .seq vs.toArray } } := by
  have k : ∀ b o, s.heap.get? b = some o → (s.heap.push { cls := .type "tuple", data := .seq vs.toArray }).get? b = some o := fun _ _ e => Heap.get?_push_of_some _ e
  exact h _ _ ⟨Xt.of_keeps k, w.h.keeps k, w.gens, w.os, w.toks⟩ (.tuple (Heap.get?_push_size _ rfl) rfl rfl (by simpa using hz) (by simpa using r.xt (Xt.of_keeps k)))
theorem list_new (w : W X s) {vs : List Value} {ds : List PyData} (hz : vs.length ≤ 1048576) (r : RdAll s.heap vs ds) (h : Sp X RelV S l s Q E (.ok (.list ds))) :
    Q (.ref s.heap.objs.size) { s with heap := s.heap.push { cls := .type "list", data := .seq vs.toArray } } := by
  have k : ∀ b o, s.heap.get? b = some o → (s.heap.push { cls := .type "list", data := .seq vs.toArray }).get? b = some o := fun _ _ e => Heap.get?_push_of_some _ e
  exact h _ _ ⟨Xt.of_keeps k, w.h.keeps k, w.gens, w.os, w.toks⟩ (.list (Heap.get?_push_size _ rfl) rfl rfl (by simpa using hz) (by simpa using r.xt (Xt.of_keeps k)))

theorem sizeLine_limit : sizeLine = limit := by decide

theorem add_tup {a b : Addr} {oa ob : Obj} {va vb : Array Value} {na nb : Nat} {da db : List PyData} (w : W X s) (ha : s.heap.get? a = some oa) (ca : oa.cls = .type "tuple") (ea : oa.data = .seq va na) (ra : RdAll s.heap va.toList da)
    (hb : s.heap.get? b = some ob) (cb : ob.cls = .type "tuple") (eb : ob.data = .seq vb nb) (rb : RdAll s.heap vb.toList db) (hl : da.length + db.length ≤ 1000)
    (h : Sp X RelV S l s Q E (.ok (.tuple (da ++ db)))) : wpAny (model X.prog X.w) A (binaryOp .Add (.ref a) (.ref b)) Q E s := by
  obtain ⟨cls, dd, data, sl⟩ := oa
  obtain ⟨cls2, dd2, data2, sl2⟩ := ob
  simp only at ca ea cb eb
  subst ca ea cb eb
  have la := ra.length
  have lb := rb.length
  have z := sizeLine_eq
  by_cases hv : va.isEmpty = true
  · refine concat_meets ⟨_, ha, rfl⟩ ⟨_, hb, rfl⟩ noFill_tuple_add seq_tuple_add PySem.F.slot_tuple_add PySem.F.entry_tuple_add (PySem.F.args_tuple_add_2 _ _)
      (tuple_addW0 a b va vb na nb dd dd2 sl sl2 hv) ⟨ha, hb, ?_⟩
    have e0 : va.toList = [] := by simpa using hv
    rw [e0] at ra
    cases ra
    exact h _ _ (Ok.refl w) (.tuple hb rfl rfl (by rw [Array.length_toList] at lb; lia) rb)
  · by_cases hw : vb.isEmpty = true
    · refine concat_meets ⟨_, ha, rfl⟩ ⟨_, hb, rfl⟩ noFill_tuple_add seq_tuple_add PySem.F.slot_tuple_add PySem.F.entry_tuple_add (PySem.F.args_tuple_add_2 _ _)
        (tuple_addW1 a b va vb na nb dd dd2 sl sl2 hv hw) ⟨ha, hb, ?_⟩
      have e0 : vb.toList = [] := by simpa using hw
      rw [e0] at rb
      cases rb
      rw [List.append_nil] at h
      exact h _ _ (Ok.refl w) (.tuple ha rfl rfl (by rw [Array.length_toList] at la; lia) ra)
    · refine concat_meets ⟨_, ha, rfl⟩ ⟨_, hb, rfl⟩ noFill_tuple_add seq_tuple_add PySem.F.slot_tuple_add PySem.F.entry_tuple_add (PySem.F.args_tuple_add_2 _ _)
        (tuple_addW2 a b va vb na nb dd dd2 sl sl2 hv hw (by rw [Array.length_toList] at la lb; lia)) ⟨ha, hb, ?_⟩
      have := tuple_new (vs := va.toList ++ vb.toList) w (by rw [List.length_append]; lia) (ra.append rb) h
      rw [show (va.toList ++ vb.toList).toArray = va ++ vb by apply Array.toList_inj.mp; simp] at this
      exact this
end
end Mine

namespace Mine
open PySem PySem.Calls PySem.Spec PyProof.Rows

theorem noFill_tuple_mulM : fillsNumberSlot (.type "tuple") "mul" = pure false :=
  PySem.fillsNumberSlot_seq (id := "tuple.__mul__") (r := some (.builtin "tuple.__rmul__")) PySem.F.slot_tuple_mul.lookup (by decide +kernel) PySem.F.slot_tuple_rmul.lookup (by decide +kernel)
theorem repeat_tupleM : seqRepeat? (.type "tuple") = pure (some (.builtin "tuple.__mul__")) := by
  unfold seqRepeat?
  rw [PySem.seqSlot_of (T := "tuple") (name := "__mul__") (id := "tuple.__mul__") PySem.F.slot_tuple_mul.lookup (by decide +kernel), PySem.seqSlot_of (T := "tuple") (name := "__rmul__") (id := "tuple.__rmul__") PySem.F.slot_tuple_rmul.lookup (by decide +kernel)]
  rfl
theorem rmul_int_tuple (a : Int) (t : Tok) (l : Addr) (items : Array Value) (n : Nat) (dd : Option Addr) (sl : Array (Option Value)) :
    Meets (Builtin.«int.__rmul__» ⟨[.int a t, .ref l], []⟩) (fun _ R s => s.heap.get? l = some { cls := .type "tuple", dict := dd, data := .seq items n, slots := sl } ∧ R (.ok (.ret Value.notImplemented)) s) :=
  .of_wp fun _ _ _ _ st ⟨at_, fin⟩ => by
    cases st
    wp_walk
    exact ⟨Value.notImplemented, rfl, fin⟩

theorem foldl_append_replicate (items : Array Value) : ∀ (k : Nat) (acc : Array Value), ((List.replicate k items).foldl (· ++ ·) acc).toList = acc.toList ++ (List.replicate k items.toList).flatten := by
  intro k
  induction k with
  | zero => intro acc; simp
  | succ k ih => intro acc; rw [List.replicate_succ, List.foldl_cons, ih]; simp [List.replicate_succ, List.append_assoc]

theorem flatten_replicate_length {α : Type} (k : Nat) (x : List α) : (List.replicate k x).flatten.length = k * x.length := by
  induction k with
  | zero => simp
  | succ k ih => rw [List.replicate_succ, List.flatten_cons, List.length_append, ih, Nat.succ_mul]; lia

theorem tuple_mulM (l : Addr) (items : Array Value) (n : Nat) (dd : Option Addr) (sl : Array (Option Value)) (x : Int) (u : Tok) (h1 : items.isEmpty = false) (h2 : (x == 1) = false)
    (h3 : (decide (x < -(2 ^ 63)) || decide (x ≥ 2 ^ 63)) = false) (h4 : (decide (x ≤ 0)) = false) (h5 : decide ((items.size : Int) * x > (2 ^ 63 - 1) / 8) = false) (h6 : Builtin.Tuple.tupleTooMany (items.size * x) = false)
    (h7 : ((List.replicate x.toNat items).foldl (· ++ ·) #[]).size ≤ sizeLine) :
    Meets (Builtin.«tuple.__mul__» ⟨[.ref l, .int x u], []⟩) (fun _ R s => s.heap.get? l = some { cls := .type "tuple", dict := dd, data := .seq items n, slots := sl } ∧
      R (.ok (.ret (Value.ref s.heap.objs.size))) { s with heap := s.heap.push { cls := .type "tuple", data := .seq ((List.replicate x.toNat items).foldl (· ++ ·) #[]) }, toks := s.toks }) :=
  .of_wp fun _ _ _ _ st ⟨at_, fin⟩ => by
    cases st with | mk heap gens drawn toks os
    have index := AutoSeq1.idx_int
    wp_walk
    refine wpAny_ite_false (decide_eq_false (by rw [h3]; exact Bool.false_ne_true)) ?_
    wp_walk using wpAny_loadPart' at_
    refine wpAny_ite_false h5 ?_
    wp_walk
    exact ⟨.ref heap.objs.size, rfl, fin⟩

section
variable {X : Cfg} {A : Around} {E : Value → Shared → Prop} {s : Shared} {S : List Addr} {l : List Env} {Q : Value → Shared → Prop}

theorem mul_tup {a : Addr} {o : Obj} {va : Array Value} {na : Nat} {da : List PyData} {n : Int} {u : Tok} (w : W X s) (ha : s.heap.get? a = some o) (ca : o.cls = .type "tuple") (ea : o.data = .seq va na) (ra : RdAll s.heap va.toList da)
    (hl0 : 1 ≤ da.length) (hl : da.length ≤ 16) (hn0 : 2 ≤ n) (hn : n ≤ 1000) (h : Sp X RelV S l s Q E (.ok (.tuple (List.replicate n.toNat da).flatten))) : wpAny (model X.prog X.w) A (binaryOp .Mult (.ref a) (.int n u)) Q E s := by
  obtain ⟨cls, dd, data, sl⟩ := o
  simp only at ca ea
  subst ca ea
  have la := ra.length
  rw [Array.length_toList] at la
  obtain ⟨k, rfl⟩ : ∃ k : Nat, n = k := ⟨n.toNat, by first | assumption | exact Nat.le_add_left _ _ | decide | lia⟩
  have hp : va.size * k ≤ 16 * 1000 := Nat.mul_le_mul (by first | assumption | exact Nat.le_add_left _ _ | decide | lia) (by first | assumption | exact Nat.le_add_left _ _ | decide | lia)
  have hp' : (va.size : Int) * (k : Int) ≤ 16000 := by
    have q : ((va.size * k : Nat) : Int) ≤ ((16000 : Nat) : Int) := Int.ofNat_le.mpr hp
    rw [Int.natCast_mul] at q
    exact q
  have hfl : ((List.replicate k va).foldl (· ++ ·) #[]) = (List.replicate k va.toList).flatten.toArray := by
    apply Array.toList_inj.mp
    rw [foldl_append_replicate, List.toList_toArray]; rfl
  have z := sizeLine_eq
  refine wpAny_binaryOp_repeat_ref (T := "tuple") (U := "int") (by decide) ⟨_, ha, rfl⟩ (fun s' => typeIs_int s' k u) noFill_tuple_mulM PySem.F.fills_int_mul PySem.F.slot_int_rmul repeat_tupleM PySem.F.slot_int_index.lookup
    (call_meets PySem.F.slot_int_rmul (typeIs_int s k u) PySem.F.entry_int_rmul (PySem.F.args_int_rmul_2 _ _) (rmul_int_tuple k u a va na dd sl) ⟨ha, rfl, ⟨_, ha, rfl⟩, ?_⟩)
  refine call_meets PySem.F.slot_tuple_mul ⟨_, ha, rfl⟩ PySem.F.entry_tuple_mul (PySem.F.args_tuple_mul_2 _ _) (tuple_mulM a va na dd sl k u ?_ ?_ ?_ ?_ ?_ ?_ ?_) ⟨ha, ?_⟩
  · cases h0 : va.isEmpty
    · rfl
    · have : va.size = 0 := by simpa using h0
      lia
  · rw [beq_eq_false_iff_ne]; lia
  · simp; lia
  · simp; lia
  · simp only [decide_eq_false_iff_not, gt_iff_lt, Int.not_lt]; lia
  · unfold Builtin.Tuple.tupleTooMany; simp only [decide_eq_false_iff_not, gt_iff_lt, Int.not_lt]; lia
  · rw [Int.toNat_natCast, hfl, List.size_toArray, flatten_replicate_length, Array.length_toList, Nat.mul_comm]; lia
  · rw [Int.toNat_natCast, hfl]
    rw [Int.toNat_natCast] at h
    exact tuple_new w (by rw [flatten_replicate_length, Array.length_toList, Nat.mul_comm]; lia) (ra.flat k) h
end

section
variable {prog : Program} {w : World} {A : Around} {E : Value → Shared → Prop} {s : Shared}

theorem tlt_shape {dx dy : List PyData} {c : Bool} (h : tlt dx dy = some c) : (dx = [] ∧ dy = [] ∧ c = false) ∨ ∃ a r b q, dx = .int a :: r ∧ dy = .int b :: q ∧ ((a = b ∧ tlt r q = some c) ∨ (a ≠ b ∧ c = decide (a < b))) := by
  unfold tlt at h
  split at h
  · cases h; exact .inl ⟨rfl, rfl, rfl⟩
  · rename_i a r b q
    refine .inr ⟨a, r, b, q, rfl, rfl, ?_⟩
    by_cases e : a = b
    · rw [decide_eq_true e, cond_true] at h; exact .inl ⟨e, h⟩
    · rw [decide_eq_false e, cond_false] at h; cases h; exact .inr ⟨e, rfl⟩
  · cases h

noncomputable def LtInv (h : Heap) (xs ys : Array Value) (c sw : Bool) (rest : List (Value × Value)) : Prop := ∃ xs' ys' dx dy, rest = List.zip xs' ys' ∧ RdAll h xs' dx ∧ RdAll h ys' dy ∧ (bif sw then tlt dy dx else tlt dx dy) = some c ∧ xs.size + ys'.length = ys.size + xs'.length
theorem RdAll.intCons {h : Heap} {vs : List Value} {i : Int} {ds : List PyData} (x : RdAll h vs (.int i :: ds)) : ∃ t r, vs = .int i t :: r ∧ RdAll h r ds := by
  cases x with
  | cons a b => cases a with | int i t => exact ⟨t, _, rfl, b⟩
theorem LtInv.nil {h : Heap} {xs ys : Array Value} {c sw : Bool} (I : LtInv h xs ys c sw []) : c = false ∧ xs.size = ys.size := by
  obtain ⟨xs', ys', dx, dy, hz, hx, hy, ht, hl⟩ := I
  have key : dx = [] ∧ dy = [] ∧ c = false := by
    cases sw with
    | false =>
      rcases tlt_shape ht with q | ⟨i, r', j, q', rfl, rfl, _⟩
      · exact q
      · obtain ⟨_, _, rfl, _⟩ := hx.intCons; obtain ⟨_, _, rfl, _⟩ := hy.intCons; cases hz
    | true =>
      rcases tlt_shape ht with q | ⟨i, r', j, q', rfl, rfl, _⟩
      · exact ⟨q.2.1, q.1, q.2.2⟩
      · obtain ⟨_, _, rfl, _⟩ := hx.intCons; obtain ⟨_, _, rfl, _⟩ := hy.intCons; cases hz
  obtain ⟨rfl, rfl, e⟩ := key
  cases hx; cases hy
  exact ⟨e, hl⟩
theorem LtInv.cons {h : Heap} {xs ys : Array Value} {c sw : Bool} {u v : Value} {rest : List (Value × Value)} (I : LtInv h xs ys c sw ((u, v) :: rest)) :
    ∃ i t j t', u = .int i t ∧ v = .int j t' ∧ ((i = j ∧ LtInv h xs ys c sw rest) ∨ (i ≠ j ∧ c = bif sw then decide (j < i) else decide (i < j))) := by
  obtain ⟨xs', ys', dx, dy, hz, hx, hy, ht, hl⟩ := I
  have key : ∃ i r j q, dx = .int i :: r ∧ dy = .int j :: q ∧ ((i = j ∧ (bif sw then tlt q r else tlt r q) = some c) ∨ (i ≠ j ∧ c = bif sw then decide (j < i) else decide (i < j))) := by
    cases sw with
    | false =>
      rcases tlt_shape ht with ⟨rfl, rfl, _⟩ | ⟨i, r', j, q', e1, e2, hcase⟩
      · cases hx; cases hz
      · exact ⟨i, r', j, q', e1, e2, hcase⟩
    | true =>
      rcases tlt_shape ht with ⟨rfl, rfl, _⟩ | ⟨j, q', i, r', e1, e2, hcase⟩
      · cases hx; cases hz
      · exact ⟨i, r', j, q', e2, e1, hcase.imp (fun z => ⟨z.1.symm, z.2⟩) fun z => ⟨fun y => z.1 y.symm, z.2⟩⟩
  obtain ⟨i, r, j, q, rfl, rfl, hcase⟩ := key
  obtain ⟨t, xr, rfl, hx'⟩ := hx.intCons
  obtain ⟨t', yr, rfl, hy'⟩ := hy.intCons
  cases hz
  refine ⟨i, t, j, t', rfl, rfl, hcase.imp (fun z => ⟨z.1, xr, yr, r, q, rfl, hx', hy', z.2, ?_⟩) id⟩
  rw [List.length_cons, List.length_cons] at hl; lia
theorem both_tup {α : Type} {a b : Addr} {xs ys : Array Value} {no : Sem α} {k : Array Value → Array Value → Sem α} {P : α → Shared → Prop} (hx : IsTup s.heap a xs) (hy : IsTup s.heap b ys) (h : wpAny (model prog w) A (k xs ys) P E s) :
    wpAny (model prog w) A (isInstance (.ref b) (.type "tuple") >>= fun t => if (!t) = true then no else Builtin.Tuple.tupleItemsOf (.ref a) >>= fun x => Builtin.Tuple.tupleItemsOf (.ref b) >>= fun y => k x y) P E s :=
  wpAny_bind (wpAny_isInstance hy.typeIs isSubtype_tuple_tuple (wpAny_ite_false rfl (wpAny_bind (tupleItemsOf_ hx (wpAny_bind (tupleItemsOf_ hy h))))))
theorem tuple_lt_tree {a b : Addr} {xs ys : Array Value} {dx dy : List PyData} {c : Bool} {P : Fin → Shared → Prop} (hx : IsTup s.heap a xs) (hy : IsTup s.heap b ys) (rx : RdAll s.heap xs.toList dx) (ry : RdAll s.heap ys.toList dy) (hc : tlt dx dy = some c)
    (h : P (.done (.ret (.bool c))) s) : wpAny (model prog w) A (Builtin.«tuple.__lt__» ⟨[.ref a, .ref b], []⟩) P E s := by
  have I₀ : LtInv s.heap xs ys c false (xs.toList.zip ys.toList) := ⟨_, _, dx, dy, rfl, rx, ry, hc, by rw [Array.length_toList, Array.length_toList, Nat.add_comm]⟩
  clear rx ry hc
  refine both_tup hx hy (wpAny_bind (wpAny_forIn_list _ (fun rest r s' => r.1 = none ∧ s' = s ∧ LtInv s.heap xs ys c false rest) _ ?_ ?_ _ _ ⟨rfl, rfl, I₀⟩))
  · rintro ⟨u, v⟩ rest r s' ⟨hr, rfl, I⟩
    obtain ⟨i, t, j, t', rfl, rfl, hcase⟩ := I.cons
    refine wpAny_bind (wpAny_eqBool_int ?_)
    rcases hcase with ⟨e, I'⟩ | ⟨hne, hc⟩
    · refine wpAny_ite_false (by rw [e, beq_self_eq_true]; rfl) ?_
      exact wpAny_pure ⟨rfl, rfl, I'⟩
    · refine wpAny_ite_true (by rw [beq_eq_false_iff_ne.mpr hne]; rfl) ?_
      rw [show c = decide (i < j) from hc] at h
      exact wpAny_bind (wpAny_rule (wpAny_bind (wpAny_lt_int (wpAny_bind (wpAny_pure (wpAny_pure (wpAny_pure h)))))))
  · rintro ⟨r1, r2⟩ s' ⟨hr, rfl, I⟩
    simp only at hr
    subst hr
    refine wpAny_pure ?_
    obtain ⟨hc, hl⟩ := I.nil
    show P (.done (.ret (.bool (decide (xs.size < ys.size))))) s'
    rw [decide_eq_false (by rw [hl]; exact Nat.lt_irrefl _), ← hc]; exact h

theorem tuple_gt_tree {a b : Addr} {xs ys : Array Value} {dx dy : List PyData} {c : Bool} {P : Fin → Shared → Prop} (hx : IsTup s.heap a xs) (hy : IsTup s.heap b ys) (rx : RdAll s.heap xs.toList dx) (ry : RdAll s.heap ys.toList dy) (hc : tlt dy dx = some c)
    (h : P (.done (.ret (.bool c))) s) : wpAny (model prog w) A (Builtin.«tuple.__gt__» ⟨[.ref a, .ref b], []⟩) P E s := by
  have I₀ : LtInv s.heap xs ys c true (xs.toList.zip ys.toList) := ⟨_, _, dx, dy, rfl, rx, ry, hc, by rw [Array.length_toList, Array.length_toList, Nat.add_comm]⟩
  clear rx ry hc
  refine both_tup hx hy (wpAny_bind (wpAny_forIn_list _ (fun rest r s' => r.1 = none ∧ s' = s ∧ LtInv s.heap xs ys c true rest) _ ?_ ?_ _ _ ⟨rfl, rfl, I₀⟩))
  · rintro ⟨u, v⟩ rest r s' ⟨hr, rfl, I⟩
    obtain ⟨i, t, j, t', rfl, rfl, hcase⟩ := I.cons
    refine wpAny_bind (wpAny_eqBool_int ?_)
    rcases hcase with ⟨e, I'⟩ | ⟨hne, hc⟩
    · refine wpAny_ite_false (by rw [e, beq_self_eq_true]; rfl) ?_
      exact wpAny_pure ⟨rfl, rfl, I'⟩
    · refine wpAny_ite_true (by rw [beq_eq_false_iff_ne.mpr hne]; rfl) ?_
      rw [show c = decide (j < i) from hc] at h
      exact wpAny_bind (wpAny_rule (wpAny_bind (gt_int (wpAny_bind (wpAny_pure (wpAny_pure (wpAny_pure h)))))))
  · rintro ⟨r1, r2⟩ s' ⟨hr, rfl, I⟩
    simp only at hr
    subst hr
    refine wpAny_pure ?_
    obtain ⟨hc, hl⟩ := I.nil
    show P (.done (.ret (.bool (decide (xs.size > ys.size))))) s'
    rw [decide_eq_false (by rw [hl]; exact Nat.lt_irrefl _), ← hc]; exact h
end
end Mine

namespace Mine
open PySem PySem.Calls PySem.Spec PyProof.Rows

section
variable {X : Cfg} {A : Around} {E : Value → Shared → Prop} {s : Shared} {S : List Addr} {l : List Env} {Q : Value → Shared → Prop}

theorem sp_int {i : Int} {t : Tok} {k : Nat} (w : W X s) (hk : s.toks ≤ k) (h : Sp X RelV S l s Q E (.ok (.int i))) : Q (.int i t) { s with toks := k } := h _ _ (Ok.tk w hk) (.int i t)
theorem sp_bool {b : Bool} (w : W X s) (h : Sp X RelV S l s Q E (.ok (.bool b))) : Q (.bool b) s := h _ _ (Ok.refl w) (.bool b)
theorem sp_str {x : Str} {t : Tok} {k : Nat} (w : W X s) (hk : s.toks ≤ k) (hz : x.length ≤ limit) (h : Sp X RelV S l s Q E (.ok (.str x))) : Q (.str x t) { s with toks := k } := h _ _ (Ok.tk w hk) (.str x t hz)

theorem str_append (x y : Str) : x ++ y = ⟨(sl x ++ sl y).toArray⟩ := by
  show Str.append x y = _
  unfold Str.append
  congr 1
  apply Array.toList_inj.mp
  simp [sl]
theorem sl_length (x : Str) : (sl x).length = x.length := by simp [sl, Str.length]

theorem Sp.ne {α β : Type} {Rel : Shared → β → α → Prop} {Q : β → Shared → Prop} {r : R α} (h : Sp X Rel S l s Q E r) : r ≠ .stuck := fun e => by rw [e] at h; exact h
theorem Rd.intI {h : Heap} {v : Value} {a : Int} (r : Rd h v (.int a)) : ∃ t, v = .int a t := by cases r; exact ⟨_, rfl⟩
theorem Rd.strI {h : Heap} {v : Value} {a : Str} (r : Rd h v (.str a)) : ∃ t, v = .str a t := by cases r; exact ⟨_, rfl⟩
theorem Rd.tupI {h : Heap} {v : Value} {a : List PyData} (r : Rd h v (.tuple a)) : ∃ p o vs n, v = .ref p ∧ h.get? p = some o ∧ o.cls = .type "tuple" ∧ o.data = .seq vs n ∧ RdAll h vs.toList a := by
  cases r with
  | tuple ho hc hd z ra => exact ⟨_, _, _, _, rfl, ho, hc, hd, ra⟩

theorem bin_el {P : BOp → PyData → PyData → Prop} {op : BOp} {x y : PyData} (h : binop op x y ≠ .stuck) (k1 : ∀ a b, P op (.int a) (.int b)) (k2 : ∀ a b, P .add (.str a) (.str b)) (k3 : ∀ a b, P .mul (.str a) (.int b))
    (k4 : ∀ a b, P .add (.tuple a) (.tuple b)) (k5 : ∀ a b, P .mul (.tuple a) (.int b)) : P op x y := by
  cases op with
  | add =>
    cases x with
    | int a => cases y with
      | int b => exact k1 a b
      | _ => exact absurd rfl h
    | str a => cases y with
      | str b => exact k2 a b
      | _ => exact absurd rfl h
    | tuple a => cases y with
      | tuple b => exact k4 a b
      | _ => exact absurd rfl h
    | _ => exact absurd rfl h
  | mul =>
    cases x with
    | int a => cases y with
      | int b => exact k1 a b
      | _ => exact absurd rfl h
    | str a => cases y with
      | int b => exact k3 a b
      | _ => exact absurd rfl h
    | tuple a => cases y with
      | int b => exact k5 a b
      | _ => exact absurd rfl h
    | _ => exact absurd rfl h
  | _ =>
    cases x with
    | int a => cases y with
      | int b => exact k1 a b
      | _ => exact absurd rfl h
    | _ => exact absurd rfl h
theorem bin_ints {op : BOp} {a b : Int} {t t' : Tok} (w : W X s) (h : Sp X RelV S l s Q E (binop op (.int a) (.int b))) : wpAny (model X.prog X.w) A (binaryOp (opOf op) (.int a t) (.int b t')) Q E s := by
  cases op with
  | add => exact PyProof.Rows.add_int (sp_int w (Nat.le_succ _) h)
  | sub => exact PyProof.Rows.sub_int (sp_int w (Nat.le_succ _) h)
  | mul =>
    obtain ⟨c, h⟩ := when_ok h
    refine PyProof.Rows.mul_int (sp_int w (Nat.le_succ _) h) ?_
    rcases Bool.or_eq_true_iff.mp c with c | c
    · exact IntMulOk.of_left (intBits_small c)
    · exact IntMulOk.of_right (intBits_small c)
  | div =>
    obtain ⟨c, h⟩ := when_ok h
    simp only [Bool.and_eq_true, decide_eq_true_eq] at c
    refine PyProof.Rows.floordiv_int (by first | assumption | exact Nat.le_add_left _ _ | decide | lia) ?_ (.inl (PyProof.noPylong_small (by first | assumption | exact Nat.le_add_left _ _ | decide | lia)))
    rw [Int.fdiv_eq_ediv_of_nonneg _ (by first | assumption | exact Nat.le_add_left _ _ | decide | lia)]
    exact sp_int w (Nat.le_succ _) h
  | mod =>
    obtain ⟨c, h⟩ := when_ok h
    simp only [decide_eq_true_eq] at c
    refine PyProof.Rows.mod_int' (by first | assumption | exact Nat.le_add_left _ _ | decide | lia) ?_
    rw [Int.fmod_eq_emod_of_nonneg _ (by first | assumption | exact Nat.le_add_left _ _ | decide | lia)]
    exact sp_int w (Nat.le_succ _) h
theorem bin_strs {a b : Str} {t t' : Tok} (w : W X s) (h : Sp X RelV S l s Q E (binop .add (.str a) (.str b))) : wpAny (model X.prog X.w) A (binaryOp .Add (.str a t) (.str b t')) Q E s := by
  obtain ⟨c, h⟩ := when_ok h
  simp only [decide_eq_true_eq, sl_length] at c
  refine wpAny_tk (add_str (fun t' tk hk => ?_) (by rw [sizeLine_limit]; exact c))
  rw [str_append]
  exact sp_str w hk (by simp [Str.length, sl] at c ⊢; exact c) h
theorem bin_strint {a : Str} {b : Int} {t t' : Tok} (w : W X s) (h : Sp X RelV S l s Q E (binop .mul (.str a) (.int b))) : wpAny (model X.prog X.w) A (binaryOp .Mult (.str a t) (.int b t')) Q E s := by
  obtain ⟨c, h⟩ := when_ok h
  simp only [Bool.and_eq_true, decide_eq_true_eq, sl_length] at c
  obtain ⟨⟨c1, c2⟩, c3⟩ := c
  refine wpAny_tk (SB.mul ?_ (fun t' tk hk => ?_))
  · refine ⟨by simp; lia, fun h1 _ => ?_, fun h1 _ => ?_⟩
    · have : (16 : Int) ≤ (2 ^ 63 - 1) / b := Int.le_ediv_of_mul_le (by first | assumption | exact Nat.le_add_left _ _ | decide | lia) (by first | assumption | exact Nat.le_add_left _ _ | decide | lia)
      lia
    · unfold Builtin.Str.tooLong
      have : a.length * b.toNat ≤ 16 * 1000 := Nat.mul_le_mul (by first | assumption | exact Nat.le_add_left _ _ | decide | lia) (by first | assumption | exact Nat.le_add_left _ _ | decide | lia)
      have z := sizeLine_eq
      simp only [decide_eq_false_iff_not, gt_iff_lt, Nat.not_lt]; lia
  · rw [txt_mul]
    refine sp_str w hk ?_ h
    have : b.toNat * a.length ≤ 1000 * 16 := Nat.mul_le_mul (by first | assumption | exact Nat.le_add_left _ _ | decide | lia) (by first | assumption | exact Nat.le_add_left _ _ | decide | lia)
    rw [show (⟨(List.replicate b.toNat (sl a)).flatten.toArray⟩ : Str).length = b.toNat * a.length by rw [← sl_length, sl_mk, List.toList_toArray, flatten_replicate_length, sl_length]]
    unfold limit; lia
theorem binop_sound {op : BOp} {v u : Value} {x y : PyData} (w : W X s) (rx : Rd s.heap v x) (ry : Rd s.heap u y) (h : Sp X RelV S l s Q E (binop op x y)) :
    wpAny (model X.prog X.w) A (binaryOp (opOf op) v u) Q E s := by
  refine bin_el (P := fun op x y => Rd s.heap v x → Rd s.heap u y → Sp X RelV S l s Q E (binop op x y) → wpAny (model X.prog X.w) A (binaryOp (opOf op) v u) Q E s) h.ne (fun a b rx ry h => ?_) (fun a b rx ry h => ?_) (fun a b rx ry h => ?_) (fun a b rx ry h => ?_) (fun a b rx ry h => ?_) rx ry h
  · obtain ⟨_, rfl⟩ := rx.intI; obtain ⟨_, rfl⟩ := ry.intI; exact bin_ints w h
  · obtain ⟨_, rfl⟩ := rx.strI; obtain ⟨_, rfl⟩ := ry.strI; exact bin_strs w h
  · obtain ⟨_, rfl⟩ := rx.strI; obtain ⟨_, rfl⟩ := ry.intI; exact bin_strint w h
  · obtain ⟨p, o, vs, n, rfl, ho, hc, hd, ra⟩ := rx.tupI
    obtain ⟨p', o', vs', n', rfl, ho', hc', hd', rb⟩ := ry.tupI
    obtain ⟨c, h⟩ := when_ok h
    exact add_tup w ho hc hd ra ho' hc' hd' rb (of_decide_eq_true c) h
  · obtain ⟨p, o, vs, n, rfl, ho, hc, hd, ra⟩ := rx.tupI
    obtain ⟨_, rfl⟩ := ry.intI
    obtain ⟨c, h⟩ := when_ok h
    simp only [Bool.and_eq_true, decide_eq_true_eq] at c
    exact mul_tup w ho hc hd ra c.1.1.1 c.1.1.2 c.1.2 c.2 h
end
end Mine

namespace Mine
open PySem PySem.Calls PySem.Spec PyProof.Rows

theorem ib (a b : Int) : (a == b) = decide (a = b) := by by_cases h : a = b <;> simp [h]
theorem ib_comm (a b : Int) : (a == b) = (b == a) := by rw [ib, ib]; exact decide_eq_decide.mpr ⟨Eq.symm, Eq.symm⟩
theorem flat_lay : ∀ {l : List PyData}, l.all flat = true → PyData.canLayAll0 l = true ∧ PyData.depthAll l = 0
  | [], _ => ⟨rfl, rfl⟩
  | x :: r, h => by
    rw [List.all_cons, Bool.and_eq_true] at h
    obtain ⟨a, b⟩ := flat_lay h.2
    cases x <;> simp [flat] at h <;> simp [PyData.canLayAll0, PyData.canLay0, PyData.depthAll, PyData.depth, a, b]
theorem flat_shaped {l : List PyData} (h : l.all flat = true) : SeqAt.shaped (.tuple l) = true := by
  obtain ⟨a, b⟩ := flat_lay h
  unfold SeqAt.shaped
  simp [PyData.canLay0, PyData.depth, a, b]
theorem feqs_eqv : ∀ {l q : List PyData}, l.all flat = true → q.all flat = true → PyData.eqvAll l q = feqs l q
  | [], [], _, _ => rfl
  | [], _ :: _, _, _ => rfl
  | _ :: _, [], _, _ => rfl
  | x :: r, y :: q, h, h' => by
    rw [List.all_cons, Bool.and_eq_true] at h h'
    have ih := feqs_eqv h.2 h'.2
    cases x <;> simp [flat] at h <;> cases y <;> simp [flat] at h' <;> simp [PyData.eqvAll, PyData.eqv, feqs, ih, ib]
theorem ascii_shaped {x : Str} (h : (sl x).all (fun c => decide (c < 128)) = true) : SeqAt.shaped (.str x) = true := by
  unfold SeqAt.shaped
  simp only [PyData.canLay0, PyData.depth, PyData.strOk, Bool.and_eq_true]
  refine ⟨?_, rfl⟩
  rw [Array.all_eq_true']
  intro c hc
  have := List.all_eq_true.mp h c (by simpa [sl] using hc)
  simp at this ⊢
  lia

theorem shaped_none : SeqAt.shaped .none = true := by decide
theorem shaped_int (i : Int) : SeqAt.shaped (.int i) = true := by simp [SeqAt.shaped, PyData.canLay0, PyData.depth]
theorem shaped_bool (b : Bool) : SeqAt.shaped (.bool b) = true := by simp [SeqAt.shaped, PyData.canLay0, PyData.depth]
theorem cond_some {b c d : Bool} (h : (bif b then some d else none) = some c) : b = true ∧ d = c := by cases b with
  | true => exact ⟨rfl, Option.some.inj h⟩
  | false => cases h
theorem bool_eqv (a b : Bool) : PyData.eqv (.bool a) (.bool b) = decide (a = b) := by cases a <;> cases b <;> rfl
theorem deq_el {P : PyData → PyData → Prop} {x y : PyData} (h : deq x y ≠ none) (k1 : ∀ a b, P (.int a) (.int b)) (k2 : ∀ a b, P (.str a) (.str b)) (k3 : ∀ a b, P (.bool a) (.bool b)) (k4 : P .none .none) (k5 : ∀ a, P .none (.int a)) (k6 : ∀ a, P (.int a) .none)
    (k7 : ∀ a b, P (.str a) (.tuple b)) (k8 : ∀ a b, P (.tuple a) (.str b)) (k9 : ∀ a b, P (.tuple a) (.tuple b)) : P x y := by
  cases x with
  | int a => cases y with
    | int b => exact k1 a b
    | none => exact k6 a
    | _ => exact absurd rfl h
  | str a => cases y with
    | str b => exact k2 a b
    | tuple b => exact k7 a b
    | _ => exact absurd rfl h
  | bool a => cases y with
    | bool b => exact k3 a b
    | _ => exact absurd rfl h
  | none => cases y with
    | none => exact k4
    | int a => exact k5 a
    | _ => exact absurd rfl h
  | tuple a => cases y with
    | str b => exact k8 a b
    | tuple b => exact k9 a b
    | _ => exact absurd rfl h
  | _ => cases y <;> exact absurd rfl h
theorem deq_sound {x y : PyData} {c : Bool} (h : deq x y = some c) : (∃ a b, x = .str a ∧ y = .str b ∧ c = (a == b)) ∨ (SeqAt.shaped x = true ∧ SeqAt.shaped y = true ∧ PyData.eqv x y = c) := by
  revert h
  by_cases ne : deq x y = none
  · rw [ne]; intro h; cases h
  refine deq_el (P := fun x y => deq x y = some c → (∃ a b, x = .str a ∧ y = .str b ∧ c = (a == b)) ∨ (SeqAt.shaped x = true ∧ SeqAt.shaped y = true ∧ PyData.eqv x y = c)) ne (fun a b h => ?_) (fun a b h => ?_) (fun a b h => ?_) (fun h => ?_) (fun a h => ?_) (fun a h => ?_) (fun x l h => ?_) (fun l x h => ?_) (fun a b h => ?_)
  · cases h; exact .inr ⟨shaped_int _, shaped_int _, by rw [PyData.eqv, ib]⟩
  · cases h; exact .inl ⟨_, _, rfl, rfl, by rw [Bool.eq_iff_iff, decide_eq_true_iff, beq_iff_eq]⟩
  · cases h; exact .inr ⟨shaped_bool _, shaped_bool _, bool_eqv a b⟩
  · cases h; exact .inr ⟨shaped_none, shaped_none, rfl⟩
  · cases h; exact .inr ⟨shaped_none, shaped_int _, rfl⟩
  · cases h; exact .inr ⟨shaped_int _, shaped_none, rfl⟩
  · obtain ⟨e, rfl⟩ := cond_some h
    rw [Bool.and_eq_true] at e
    exact .inr ⟨ascii_shaped e.1, flat_shaped e.2, rfl⟩
  · obtain ⟨e, rfl⟩ := cond_some h
    rw [Bool.and_eq_true] at e
    exact .inr ⟨flat_shaped e.2, ascii_shaped e.1, rfl⟩
  · obtain ⟨e, rfl⟩ := cond_some h
    simp only [Bool.and_eq_true] at e
    exact .inr ⟨flat_shaped e.1.1.1, flat_shaped e.1.1.2, by rw [PyData.eqv]; exact feqs_eqv e.1.1.1 e.1.1.2⟩

theorem eqvAll_comm : ∀ (a b : List PyData), a.all flat = true → b.all flat = true → PyData.eqvAll b a = PyData.eqvAll a b
  | [], [], _, _ => rfl
  | [], _ :: _, _, _ => rfl
  | _ :: _, [], _, _ => rfl
  | x :: a, y :: b, ha, hb => by
    rw [List.all_cons, Bool.and_eq_true] at ha hb
    have ih := eqvAll_comm a b ha.2 hb.2
    rw [PyData.eqvAll, PyData.eqvAll, ih]
    congr 1
    cases x with
    | int i => cases y with
      | int j => exact ib_comm j i
      | none => rfl
      | _ => cases hb.1
    | none => cases y with
      | int j => rfl
      | none => rfl
      | _ => cases hb.1
    | _ => cases ha.1
/-- membership, by == -/
theorem memb_sound {d : PyData} (hd : (∃ i, d = .int i) ∨ ∃ t, d = .tuple t) : ∀ {l : List PyData} {c : Bool}, memb d l = some c →
    PyData.canLayAll0 l = true ∧ (l.any fun y => PyData.eqv y d) = c ∧ (l ≠ [] → SeqAt.shaped d = true)
  | [], c, h => by cases h; exact ⟨rfl, rfl, fun q => absurd rfl q⟩
  | e :: r, c, h => by
    unfold memb at h
    cases h1 : deq d e with
    | none => rw [h1] at h; cases h
    | some b =>
      rw [h1, Option.bind_some] at h
      cases h2 : memb d r with
      | none => rw [h2] at h; cases h
      | some b' =>
        rw [h2, Option.map_some] at h
        cases h
        obtain ⟨k1, k2, _⟩ := memb_sound hd h2
        rcases deq_sound h1 with ⟨_, _, rfl, _⟩ | ⟨s1, s2, s3⟩
        · rcases hd with ⟨i, q⟩ | ⟨i, q⟩ <;> cases q
        · have sym : PyData.eqv e d = b := by
            rw [← s3]
            rcases hd with ⟨i, rfl⟩ | ⟨t, rfl⟩
            · cases e with
              | int j => exact ib_comm j i
              | none => rfl
              | _ => cases h1
            · cases e with
              | tuple q =>
                rw [deq_11] at h1
                cases e2 : t.all flat && q.all flat && decide (t.length ≤ 100) && decide (q.length ≤ 100) with
                | false => rw [e2] at h1; cases h1
                | true =>
                  simp only [Bool.and_eq_true] at e2
                  exact eqvAll_comm t q e2.1.1.1 e2.1.1.2
              | str x => rfl
              | _ => cases h1
          refine ⟨?_, ?_, fun _ => s1⟩
          · rw [PyData.canLayAll0, k1, SeqAt.canLay_of_shaped s2]; rfl
          · rw [List.any_cons, sym, k2]

noncomputable def cmpOf : COp → CmpOp
  | .lt => .Lt
  | .le => .LtE
  | .gt => .Gt
  | .ge => .GtE
  | .eq => .Eq
  | .ne => .NotEq
  | .isIn => .In
  | .notIn => .NotIn

theorem subAt_iff (y : List Nat) : ∀ (x : List Nat), subAt y x = true ↔ ∃ i, i + y.length ≤ x.length ∧ (x.drop i).take y.length = y
  | [] => by
    unfold subAt
    cases y with
    | nil => simp
    | cons c y => simp
  | c :: r => by
    unfold subAt
    rw [Bool.or_eq_true, subAt_iff y r, List.isPrefixOf_iff_prefix]
    constructor
    · rintro (h | ⟨i, h1, h2⟩)
      · exact ⟨0, by have := h.length_le; simpa using this, by rw [List.drop_zero]; exact (List.prefix_iff_eq_take.mp h).symm⟩
      · exact ⟨i + 1, by simp; lia, by simpa using h2⟩
    · rintro ⟨i, h1, h2⟩
      cases i with
      | zero => left; rw [List.drop_zero] at h2; rw [← h2]; exact List.take_prefix _ _
      | succ i => right; exact ⟨i, by simp at h1; lia, by simpa using h2⟩

section
variable {X : Cfg} {A : Around} {E : Value → Shared → Prop} {s : Shared} {S : List Addr} {l : List Env} {Q : Value → Shared → Prop}

theorem occ_sub (x y : Str) : (!(Builtin.Str.occurrences x y 0 x.length 1).isEmpty) = subAt (sl y) (sl x) := by
  rw [Bool.eq_iff_iff, StrLaws.found_iff, subAt_iff]
  simp only [StrLaws.subAt_eq, beq_iff_eq, sl_length]

theorem le_el {P : PyData → PyData → Prop} {x y : PyData} (h : cmpop .le x y ≠ .stuck) (k : ∀ a b, P (.int a) (.int b)) : P x y := by
  cases x with
  | int a => cases y with
    | int b => exact k a b
    | _ => exact absurd rfl h
  | _ => exact absurd rfl h
theorem ge_el {P : PyData → PyData → Prop} {x y : PyData} (h : cmpop .ge x y ≠ .stuck) (k : ∀ a b, P (.int a) (.int b)) : P x y := by
  cases x with
  | int a => cases y with
    | int b => exact k a b
    | _ => exact absurd rfl h
  | _ => exact absurd rfl h
theorem lt_el {P : PyData → PyData → Prop} {x y : PyData} (h : cmpop .lt x y ≠ .stuck) (k : ∀ a b, P (.int a) (.int b)) (k' : ∀ a b, P (.tuple a) (.tuple b)) : P x y := by
  cases x with
  | int a => cases y with
    | int b => exact k a b
    | _ => exact absurd rfl h
  | tuple a => cases y with
    | tuple b => exact k' a b
    | _ => exact absurd rfl h
  | _ => exact absurd rfl h
theorem gt_el {P : PyData → PyData → Prop} {x y : PyData} (h : cmpop .gt x y ≠ .stuck) (k : ∀ a b, P (.int a) (.int b)) (k' : ∀ a b, P (.tuple a) (.tuple b)) : P x y := by
  cases x with
  | int a => cases y with
    | int b => exact k a b
    | _ => exact absurd rfl h
  | tuple a => cases y with
    | tuple b => exact k' a b
    | _ => exact absurd rfl h
  | _ => exact absurd rfl h
theorem in_el {P : PyData → PyData → Prop} {x y : PyData} (h : cmpop .isIn x y ≠ .stuck ∨ cmpop .notIn x y ≠ .stuck) (k : ∀ a b, P (.str a) (.str b)) (k' : ∀ a b, P (.int a) (.tuple b)) (k'' : ∀ a b, P (.tuple a) (.tuple b)) : P x y := by
  cases x with
  | str a => cases y with
    | str b => exact k a b
    | _ => exact (h.elim (fun q => q rfl) fun q => q rfl).elim
  | int a => cases y with
    | tuple b => exact k' a b
    | _ => exact (h.elim (fun q => q rfl) fun q => q rfl).elim
  | tuple a => cases y with
    | tuple b => exact k'' a b
    | _ => exact (h.elim (fun q => q rfl) fun q => q rfl).elim
  | _ => exact (h.elim (fun q => q rfl) fun q => q rfl).elim
theorem eq_sound {v u : Value} {x y : PyData} (w : W X s) (rx : Rd s.heap v x) (ry : Rd s.heap u y) (hu : A.units + 70 < cLine) (h : Sp X RelV S l s Q E (cmpop .eq x y)) :
    wpAny (model X.prog X.w) A (compareOp .Eq v u) Q E s := by
  rw [cmpop_1] at h
  cases e : deq x y with
  | none => rw [e] at h; exact h.elim
  | some c =>
    rw [e] at h
    rcases deq_sound e with ⟨a, b, rfl, rfl, rfl⟩ | ⟨s1, s2, s3⟩
    · obtain ⟨_, rfl⟩ := rx.strI; obtain ⟨_, rfl⟩ := ry.strI; exact PyProof.Rows.eq_str (sp_bool w h)
    · obtain ⟨as, ra⟩ := rx.reads
      obtain ⟨bs, rb⟩ := ry.reads
      refine eq_dataH ra rb s1 s2 (Nat.lt_of_le_of_lt (Nat.add_le_add_left (by decide) _) hu) ?_
      rw [s3]; exact sp_bool w h
theorem ne_sound {v u : Value} {x y : PyData} (w : W X s) (rx : Rd s.heap v x) (ry : Rd s.heap u y) (hu : A.units + 70 < cLine) (h : Sp X RelV S l s Q E (cmpop .ne x y)) :
    wpAny (model X.prog X.w) A (compareOp .NotEq v u) Q E s := by
  rw [cmpop_2] at h
  cases e : deq x y with
  | none => rw [e] at h; exact h.elim
  | some c =>
    rw [e] at h
    rcases deq_sound e with ⟨a, b, rfl, rfl, rfl⟩ | ⟨s1, s2, s3⟩
    · obtain ⟨_, rfl⟩ := rx.strI; obtain ⟨_, rfl⟩ := ry.strI; exact PyProof.Rows.ne_str (sp_bool w h)
    · obtain ⟨as, ra⟩ := rx.reads
      obtain ⟨bs, rb⟩ := ry.reads
      refine ne_dataH ra rb s1 s2 (Nat.lt_of_le_of_lt (Nat.add_le_add_left (by decide) _) hu) ?_
      rw [s3]; exact sp_bool w h
theorem lt_sound {v u : Value} {x y : PyData} (w : W X s) (hu : A.units + 70 < cLine) (ne : cmpop .lt x y ≠ .stuck) : Rd s.heap v x → Rd s.heap u y → Sp X RelV S l s Q E (cmpop .lt x y) →
    wpAny (model X.prog X.w) A (compareOp .Lt v u) Q E s := by
  refine lt_el (P := fun x y => Rd s.heap v x → Rd s.heap u y → Sp X RelV S l s Q E (cmpop .lt x y) → wpAny (model X.prog X.w) A (compareOp .Lt v u) Q E s) ne (fun a b rx ry h => ?_) fun a b rx ry h => ?_
  · obtain ⟨_, rfl⟩ := rx.intI; obtain ⟨_, rfl⟩ := ry.intI; exact PyProof.Rows.lt_int (sp_bool w h)
  · obtain ⟨p, o, vs, n, rfl, ho, hc, hd, ra⟩ := rx.tupI
    obtain ⟨p', o', vs', n', rfl, ho', hc', hd', rb⟩ := ry.tupI
    rw [cmpop_7] at h
    cases e : tlt a b with
    | none => rw [e] at h; exact h.elim
    | some c =>
      rw [e] at h
      exact wpAny_richCompare_same_room (op := .Lt) (T := "tuple") ⟨_, ho, hc⟩ ⟨_, ho', hc'⟩ PySem.F.slot_tuple_lt
        (wpAny_call_entry PySem.F.slot_tuple_lt ⟨_, ho, hc⟩ PySem.F.entry_tuple_lt (tuple_lt_tree ⟨_, ho, hc, _, hd⟩ ⟨_, ho', hc', _, hd'⟩ ra rb e ⟨_, rfl, (fun q => nomatch q), sp_bool w h⟩) (PySem.F.args_tuple_lt_2 _ _)) (by lia)
theorem gt_sound {v u : Value} {x y : PyData} (w : W X s) (hu : A.units + 70 < cLine) (ne : cmpop .gt x y ≠ .stuck) : Rd s.heap v x → Rd s.heap u y → Sp X RelV S l s Q E (cmpop .gt x y) →
    wpAny (model X.prog X.w) A (compareOp .Gt v u) Q E s := by
  refine gt_el (P := fun x y => Rd s.heap v x → Rd s.heap u y → Sp X RelV S l s Q E (cmpop .gt x y) → wpAny (model X.prog X.w) A (compareOp .Gt v u) Q E s) ne (fun a b rx ry h => ?_) fun a b rx ry h => ?_
  · obtain ⟨_, rfl⟩ := rx.intI; obtain ⟨_, rfl⟩ := ry.intI; exact PyProof.Rows.gt_int (sp_bool w h)
  · obtain ⟨p, o, vs, n, rfl, ho, hc, hd, ra⟩ := rx.tupI
    obtain ⟨p', o', vs', n', rfl, ho', hc', hd', rb⟩ := ry.tupI
    rw [cmpop_8] at h
    cases e : tlt b a with
    | none => rw [e] at h; exact h.elim
    | some c =>
      rw [e] at h
      exact wpAny_richCompare_same_room (op := .Gt) (T := "tuple") ⟨_, ho, hc⟩ ⟨_, ho', hc'⟩ PySem.F.slot_tuple_gt
        (wpAny_call_entry PySem.F.slot_tuple_gt ⟨_, ho, hc⟩ PySem.F.entry_tuple_gt (tuple_gt_tree ⟨_, ho, hc, _, hd⟩ ⟨_, ho', hc', _, hd'⟩ ra rb e ⟨_, rfl, (fun q => nomatch q), sp_bool w h⟩) (PySem.F.args_tuple_gt_2 _ _)) (by lia)
theorem in_sound {v u : Value} {x y : PyData} (w : W X s) (hu : A.units + 70 < cLine) (ne : cmpop .isIn x y ≠ .stuck) : Rd s.heap v x → Rd s.heap u y → Sp X RelV S l s Q E (cmpop .isIn x y) →
    wpAny (model X.prog X.w) A (compareOp .In v u) Q E s := by
  refine in_el (P := fun x y => Rd s.heap v x → Rd s.heap u y → Sp X RelV S l s Q E (cmpop .isIn x y) → wpAny (model X.prog X.w) A (compareOp .In v u) Q E s) (.inl ne) (fun a b rx ry h => ?_) (fun a b rx ry h => ?_) fun a b rx ry h => ?_
  · obtain ⟨_, rfl⟩ := rx.strI; obtain ⟨_, rfl⟩ := ry.strI; exact in_str (by rw [occ_sub]; exact sp_bool w h)
  · obtain ⟨as, ra⟩ := rx.reads
    obtain ⟨bs, rb⟩ := ry.reads
    obtain ⟨_, _, _, _, rfl, _⟩ := ry.tupI
    rw [cmpop_11] at h
    cases e : memb (.int a) b with
    | none => rw [e] at h; exact h.elim
    | some c =>
      rw [e] at h
      obtain ⟨k1, k2, _⟩ := memb_sound (.inl ⟨_, rfl⟩) e
      refine SeqAt.in_tuple_reads rb ra k1 rfl ?_ (by rw [k2]; exact sp_bool w h)
      have : (PyData.int a).depth = 0 := rfl
      lia
  · obtain ⟨as, ra⟩ := rx.reads
    obtain ⟨bs, rb⟩ := ry.reads
    obtain ⟨_, _, _, _, rfl, _⟩ := ry.tupI
    rw [cmpop_13] at h
    cases e : memb (.tuple a) b with
    | none => rw [e] at h; exact h.elim
    | some c =>
      rw [e] at h
      obtain ⟨hne, h⟩ := when_ok h
      obtain ⟨k1, k2, k3⟩ := memb_sound (.inr ⟨_, rfl⟩) e
      have k3 := k3 (by rintro rfl; cases hne)
      refine SeqAt.in_tuple_reads rb ra k1 (SeqAt.canLay_of_shaped k3) ?_ (by rw [k2]; exact sp_bool w h)
      have := SeqAt.depth_of_shaped k3
      lia
theorem notIn_sound {v u : Value} {x y : PyData} (w : W X s) (hu : A.units + 70 < cLine) (ne : cmpop .notIn x y ≠ .stuck) : Rd s.heap v x → Rd s.heap u y → Sp X RelV S l s Q E (cmpop .notIn x y) →
    wpAny (model X.prog X.w) A (compareOp .NotIn v u) Q E s := by
  refine in_el (P := fun x y => Rd s.heap v x → Rd s.heap u y → Sp X RelV S l s Q E (cmpop .notIn x y) → wpAny (model X.prog X.w) A (compareOp .NotIn v u) Q E s) (.inr ne) (fun a b rx ry h => ?_) (fun a b rx ry h => ?_) fun a b rx ry h => ?_
  · obtain ⟨_, rfl⟩ := rx.strI; obtain ⟨_, rfl⟩ := ry.strI; exact notIn_str (by rw [occ_sub]; exact sp_bool w h)
  · obtain ⟨as, ra⟩ := rx.reads
    obtain ⟨bs, rb⟩ := ry.reads
    obtain ⟨_, _, _, _, rfl, _⟩ := ry.tupI
    rw [cmpop_12] at h
    cases e : memb (.int a) b with
    | none => rw [e] at h; exact h.elim
    | some c =>
      rw [e] at h
      obtain ⟨k1, k2, _⟩ := memb_sound (.inl ⟨_, rfl⟩) e
      refine SeqAt.notIn_tuple_reads rb ra k1 rfl ?_ (by rw [k2]; exact sp_bool w h)
      have : (PyData.int a).depth = 0 := rfl
      lia
  · obtain ⟨as, ra⟩ := rx.reads
    obtain ⟨bs, rb⟩ := ry.reads
    obtain ⟨_, _, _, _, rfl, _⟩ := ry.tupI
    rw [cmpop_14] at h
    cases e : memb (.tuple a) b with
    | none => rw [e] at h; exact h.elim
    | some c =>
      rw [e] at h
      obtain ⟨hne, h⟩ := when_ok h
      obtain ⟨k1, k2, k3⟩ := memb_sound (.inr ⟨_, rfl⟩) e
      have k3 := k3 (by rintro rfl; cases hne)
      refine SeqAt.notIn_tuple_reads rb ra k1 (SeqAt.canLay_of_shaped k3) ?_ (by rw [k2]; exact sp_bool w h)
      have := SeqAt.depth_of_shaped k3
      lia
theorem cmpop_sound {op : COp} {v u : Value} {x y : PyData} (w : W X s) (rx : Rd s.heap v x) (ry : Rd s.heap u y) (hu : A.units + 70 < cLine) (h : Sp X RelV S l s Q E (cmpop op x y)) :
    wpAny (model X.prog X.w) A (compareOp (cmpOf op) v u) Q E s := by
  cases op with
  | eq => exact eq_sound w rx ry hu h
  | ne => exact ne_sound w rx ry hu h
  | lt => exact lt_sound w hu h.ne rx ry h
  | gt => exact gt_sound w hu h.ne rx ry h
  | le =>
    revert rx ry h
    exact fun rx ry h => le_el (P := fun x y => Rd s.heap v x → Rd s.heap u y → Sp X RelV S l s Q E (cmpop .le x y) → wpAny (model X.prog X.w) A (compareOp .LtE v u) Q E s) h.ne (fun a b rx ry h => by
      obtain ⟨_, rfl⟩ := rx.intI; obtain ⟨_, rfl⟩ := ry.intI; exact PyProof.Rows.le_int (sp_bool w h)) rx ry h
  | ge =>
    exact ge_el (P := fun x y => Rd s.heap v x → Rd s.heap u y → Sp X RelV S l s Q E (cmpop .ge x y) → wpAny (model X.prog X.w) A (compareOp .GtE v u) Q E s) h.ne (fun a b rx ry h => by
      obtain ⟨_, rfl⟩ := rx.intI; obtain ⟨_, rfl⟩ := ry.intI; exact PyProof.Rows.ge_int (sp_bool w h)) rx ry h
  | isIn => exact in_sound w hu h.ne rx ry h
  | notIn => exact notIn_sound w hu h.ne rx ry h
end
end Mine

namespace Mine
open PySem PySem.Calls PySem.Spec PyProof.Rows

theorem idx_seq (i : Int) (n : Nat) : seqIndex? i n = idxAt i n := by
  unfold seqIndex? idxAt
  by_cases h : 0 ≤ i
  · simp only [show ¬ (i < 0) by first | assumption | exact Nat.le_add_left _ _ | decide | lia, if_false, if_pos h]
    by_cases h2 : i < n
    · simp [h, h2]
    · simp [h2]
  · simp only [show i < 0 by first | assumption | exact Nat.le_add_left _ _ | decide | lia, if_true, if_neg h]
    by_cases h2 : 0 ≤ i + n
    · have : i + n < n := by first | assumption | exact Nat.le_add_left _ _ | decide | lia
      simp [h2, this]
    · simp [h2]
theorem idxAt_bounds {i : Int} {n k : Nat} (h : idxAt i n = some k) : -(n : Int) ≤ i ∧ i < n ∧ k < n := by
  unfold idxAt at h
  split at h
  · split at h
    · cases h; lia
    · cases h
  · split at h
    · cases h; lia
    · cases h

/-- an index that is no slice -/
noncomputable def noSlice : Expr → Bool
  | .Slice .. => false
  | _ => true
theorem subscripted_plain {e : Expr} (h : noSlice e = true) (o i : Value) : subscripted e false o i = operate [o, i] (getItem o i) := by
  cases e <;> first | rfl | cases h

/-- a slice's two ends -/
noncomputable def ends (l u : Option Int) (n : Nat) : Nat × Nat := ((l.map (bound · n)).getD 0, (u.map (bound · n)).getD n)

theorem clip_bound (i : Int) (n : Nat) : max 0 (min (if i < 0 then i + n else i) (n : Int)) = (bound i n : Int) := by
  unfold bound
  split <;> lia
theorem clip_bound' (i : Int) (n : Nat) : (if i < 0 then max (i + n) 0 else min i n) = (bound i n : Int) := by
  unfold bound
  split <;> lia
theorem bound_le (i : Int) (n : Nat) : bound i n ≤ n ∨ n < bound i n := by first | assumption | exact Nat.le_add_left _ _ | decide | lia

theorem cut_drop {α : Type} (l : List α) (a b : Nat) (hab : a ≤ b) : (l.drop a).take (b - a) = cut l a b := by
  unfold cut
  rw [List.drop_take]
theorem cut_none {α : Type} (l : List α) (a b : Nat) (hab : ¬ a < b) : cut l a b = [] := by
  unfold cut
  rw [List.drop_of_length_le (by simp; lia)]

theorem ends_hi {l u : Option Int} {n : Nat} : (ends l u n).1 ≤ n ∧ (ends l u n).2 ≤ n := by
  have b : ∀ i, bound i n ≤ n := fun i => by unfold bound; split <;> lia
  unfold ends
  constructor
  · cases l <;> simp [b]
  · cases u <;> simp [b]

theorem slice_str_ok (x : Str) (l u : Option Int) : (Builtin.Str.strSliceIndices l u 1 x.length).filterMap (x.cps[·]?) = cut (sl x) (ends l u (sl x).length).1 (ends l u (sl x).length).2 := by
  rw [sl_length]
  have e : Builtin.Str.strSliceIndices l u 1 x.length = Builtin.Str.strSliceIndices (some ((ends l u x.length).1 : Int)) (some ((ends l u x.length).2 : Int)) 1 x.length := by
    obtain ⟨h1, h2⟩ := @ends_hi l u x.length
    have self : ∀ k : Nat, k ≤ x.length → max 0 (min (if (k : Int) < 0 then (k : Int) + x.length else (k : Int)) (x.length : Int)) = (k : Int) := by
      intro k hk; rw [if_neg (by first | assumption | exact Nat.le_add_left _ _ | decide | lia)]; lia
    unfold Builtin.Str.strSliceIndices
    simp only [show ((1 : Int) > 0) = True from by simp, if_true]
    congr 1
    · refine Eq.trans ?_ (self _ h1).symm
      cases l with
      | none => rfl
      | some i => exact clip_bound i x.length
    · refine Eq.trans ?_ (self _ h2).symm
      cases u with
      | none => rfl
      | some i => exact clip_bound i x.length
  rw [e]
  obtain ⟨h1, h2⟩ := @ends_hi l u x.length
  by_cases h : (ends l u x.length).1 ≤ (ends l u x.length).2
  · rw [StrLaws.sliced_plain x h h2, cut_drop _ _ _ h]
  · rw [cut_none _ _ _ (by first | assumption | exact Nat.le_add_left _ _ | decide | lia)]
    have self : ∀ k : Nat, k ≤ x.length → max 0 (min (if (k : Int) < 0 then (k : Int) + x.length else (k : Int)) (x.length : Int)) = (k : Int) := by
      intro k hk; rw [if_neg (by first | assumption | exact Nat.le_add_left _ _ | decide | lia)]; lia
    generalize (ends l u x.length).1 = a at h1 h
    generalize (ends l u x.length).2 = b at h2 h
    unfold Builtin.Str.strSliceIndices sliceRange
    simp only [show ((1 : Int) > 0) = True from by simp, if_true]
    rw [self a h1, self b h2, if_neg (by first | assumption | exact Nat.le_add_left _ _ | decide | lia)]
    rfl

section
variable {X : Cfg} {A : Around} {E : Value → Shared → Prop} {s : Shared} {S : List Addr} {l : List Env} {Q : Value → Shared → Prop}

theorem index_sound {value slice : Expr} {v u : Value} {x y : PyData} (w : W X s) (rx : Rd s.heap v x) (ry : Rd s.heap u y) (hs : noSlice slice = true) (h : Sp X RelV S l s Q E (index x y)) :
    wpAny (model X.prog X.w) A (subscriptTail value slice v u) Q E s := by
  cases ry with
  | int i t =>
    cases rx with
    | tuple ho hc hd z ra =>
      rename_i vs n xs
      rw [index_1] at h
      cases e : idxAt i xs.length with
      | none => rw [e] at h; exact h.elim
      | some k =>
        rw [e, R.ofOpt_some, R.bind_ok] at h
        cases e2 : xs[k]? with
        | none => rw [e2] at h; exact h.elim
        | some d =>
          rw [e2] at h
          have hl := ra.length
          rw [Array.length_toList] at hl
          obtain ⟨b1, b2, b3⟩ := idxAt_bounds e
          obtain ⟨xv, q1, q2⟩ := ra.get k d e2
          have ht : IsTup s.heap _ vs := ⟨_, ho, hc, _, hd⟩
          refine tail_any ht.typeIs PyProof.Rows.slot_tuple_getitem.lookup (getItem_tuple ht (by first | assumption | exact Nat.le_add_left _ _ | decide | lia) (by first | assumption | exact Nat.le_add_left _ _ | decide | lia) (j := k) (by rw [hl, idx_seq]; exact e) (x := xv) (by simpa using q1) ?_) (subscripted_plain hs _ _)
          exact h _ _ (Ok.refl w) q2
    | list ho hc hd z ra =>
      rename_i vs n xs
      rw [index_2] at h
      by_cases h0 : 0 ≤ i
      · rw [decide_eq_true h0, cond_true] at h
        cases e : idxAt i xs.length with
        | none => rw [e] at h; exact h.elim
        | some k =>
          rw [e, R.ofOpt_some, R.bind_ok] at h
          cases e2 : xs[k]? with
          | none => rw [e2] at h; exact h.elim
          | some d =>
            rw [e2] at h
            have hl := ra.length
            rw [Array.length_toList] at hl
            obtain ⟨b1, b2, b3⟩ := idxAt_bounds e
            obtain ⟨xv, q1, q2⟩ := ra.get k d e2
            have hk : k = i.toNat := by
              unfold idxAt at e
              rw [if_pos h0, if_pos b2] at e
              exact (Option.some.inj e).symm
            subst hk
            have ht : s.heap.IsList _ vs := ⟨_, ho, hc, _, hd⟩
            refine tail_any ht.typeIs PySem.F.slot_list_getitem.lookup (wpAny_getItem_list ht h0 (by first | assumption | exact Nat.le_add_left _ _ | decide | lia) (by simpa using q1) ?_) (subscripted_plain hs _ _)
            exact h _ _ (Ok.refl w) q2
      · rw [decide_eq_false h0, cond_false] at h; exact h.elim
    | str x t' z =>
      rw [index_3] at h
      cases e : idxAt i (sl x).length with
      | none => rw [e] at h; exact h.elim
      | some k =>
        rw [e, R.ofOpt_some, R.bind_ok] at h
        cases e2 : (sl x)[k]? with
        | none => rw [e2] at h; exact h.elim
        | some c =>
          rw [e2, R.ofOpt_some, R.bind_ok] at h
          obtain ⟨b1, b2, b3⟩ := idxAt_bounds e
          rw [sl_length] at e b1 b2 b3
          unfold limit at z
          refine tail_any (typeIs_str s x t') PyProof.Rows.slot_str_getitem.lookup (PyProof.Rows.getItem_str (c := c) (by simp; lia) ?_ (sp_str w (Nat.le_succ _) (by show (#[c] : Array Nat).size ≤ limit; unfold limit; simp) h)) (subscripted_plain hs _ _)
          rw [idx_seq, e, Option.bind_some]
          simpa [sl] using e2
    | _ => exact h.elim
  | _ => cases rx <;> exact h.elim

theorem part_sound {v : Value} {p : Option Int} {Q : Option Int → Shared → Prop} (hp : IsPart v p) (h : Q p s) : wpAny (model X.prog X.w) A (Builtin.Slice.slicePartIndex v) Q E s := by
  cases hp with
  | none => exact slicePart_none h
  | int i u => exact slicePart_int h

theorem adjust_ends (lo hi : Option Int) (n : Nat) : Builtin.Slice.sliceAdjust lo hi 1 (n : Int) = (((ends lo hi n).1 : Int), ((ends lo hi n).2 : Int)) := by
  have one : ∀ (p : Option Int) (d : Nat), (p.elim (d : Int) fun i => if i < 0 then max (i + n) 0 else min i n) = (((p.map (bound · n)).getD d : Nat) : Int) := fun p d => by
    cases p with
    | none => rfl
    | some i => exact clip_bound' i n
  refine Prod.ext ?_ ?_
  · cases lo with
    | none => rfl
    | some i => exact one (some i) 0
  · cases hi with
    | none => rfl
    | some i => exact one (some i) n
theorem places_nat (a b : Nat) : Builtin.Slice.slicePlaces (a : Int) (b : Int) 1 = b - a := by
  show (if (a : Int) < b then ((b : Int) - a - 1) / 1 + 1 else 0).toNat = b - a
  rw [Int.ediv_one]
  by_cases h : (a : Int) < b
  · rw [if_pos h]; lia
  · rw [if_neg h]; lia
theorem applied_sound {a : Addr} {vl vu : Value} {lo hi : Option Int} {n : Nat} {Q : Int × Int × Nat → Shared → Prop} (hs : s.heap.IsSliceOf a vl vu .none) (hl : IsPart vl lo) (hu : IsPart vu hi)
    (h : Q (((ends lo hi n).1 : Int), 1, (ends lo hi n).2 - (ends lo hi n).1) s) : wpAny (model X.prog X.w) A (Builtin.Slice.sliceApplied (.ref a) (pure (n : Int))) Q E s := by
  have three : ∀ {R : Value × Value × Value → Shared → Prop}, R (vl, vu, .none) s → wpAny (model X.prog X.w) A (Builtin.Slice.sliceFields (.ref a)) R E s := fun r => by
    obtain ⟨_, g, _, d⟩ := hs
    exact wpAny_bind (wpAny_field g d rfl (wpAny_bind (wpAny_field g d rfl (wpAny_bind (wpAny_field g d rfl (wpAny_pure r))))))
  have fin : wpAny (model X.prog X.w) A (pure (((Builtin.Slice.sliceAdjust lo hi 1 (n : Int)).1, (1 : Int), Builtin.Slice.slicePlaces (Builtin.Slice.sliceAdjust lo hi 1 (n : Int)).1 (Builtin.Slice.sliceAdjust lo hi 1 (n : Int)).2 1) : Int × Int × Nat)) Q E s := by
    rw [adjust_ends, places_nat]; exact wpAny_pure h
  exact wpAny_bind (three (wpAny_bind (part_sound .none (wpAny_bind (m := Builtin.Slice.slicePartIndex vl) (part_sound hl (wpAny_bind (part_sound hu (wpAny_bind (wpAny_pure fin)))))))))

theorem range_pick {α : Type} (l : List α) (a : Nat) : ∀ k : Nat, (List.range k).filterMap (fun j => l[a + j]?) = (l.drop a).take k
  | 0 => rfl
  | k + 1 => by
    rw [List.range_succ, List.filterMap_append, range_pick l a k, List.take_add_one, List.getElem?_drop]
    cases h : l[a + k]? <;> simp [h]
theorem pick_cut (xs : Array Value) (a b : Nat) : ((List.range (b - a)).filterMap fun (k : Nat) => xs[((a : Int) + (k : Int) * 1).toNat]?).toArray = (cut xs.toList a b).toArray := by
  have same : (fun (k : Nat) => xs[((a : Int) + (k : Int) * 1).toNat]?) = fun k => xs.toList[a + k]? := funext fun k => by
    rw [Int.mul_one, ← Int.natCast_add, Int.toNat_natCast, Array.getElem?_toList]
  unfold cut
  rw [same, range_pick, List.drop_take]

theorem cut_le {α : Type} (l : List α) (a b : Nat) : (cut l a b).length ≤ l.length := by
  unfold cut; rw [List.length_drop, List.length_take]; lia

theorem tuple_slice_sound {t a : Addr} {o : Obj} {vs : Array Value} {n : Nat} {xs : List PyData} {vl vu : Value} {lo hi : Option Int} (w : W X s) (ho : s.heap.get? t = some o) (hc : o.cls = .type "tuple") (hd : o.data = .seq vs n) (z : vs.size ≤ 1048576) (ra : RdAll s.heap vs.toList xs)
    (hs : s.heap.IsSliceOf a vl vu .none) (hl : IsPart vl lo) (hu : IsPart vu hi) (h : Sp X RelV S l s Q E (.ok (.tuple (cut xs (ends lo hi xs.length).1 (ends lo hi xs.length).2)))) :
    wpAny (model X.prog X.w) A (getItem (.ref t) (.ref a)) Q E s := by
  have ht : IsTup s.heap t vs := ⟨_, ho, hc, _, hd⟩
  have hlen := ra.length
  rw [Array.length_toList] at hlen
  rw [← hlen] at h
  have rc : RdAll s.heap (cut vs.toList (ends lo hi vs.size).1 (ends lo hi vs.size).2) (cut xs (ends lo hi vs.size).1 (ends lo hi vs.size).2) := (ra.take _).drop _
  have hcl : (cut vs.toList (ends lo hi vs.size).1 (ends lo hi vs.size).2).length ≤ vs.size := Nat.le_trans (cut_le vs.toList (ends lo hi vs.size).1 (ends lo hi vs.size).2) (Nat.le_of_eq Array.length_toList)
  have zz := sizeLine_eq
  have hdrop : sizeOk (.seq (cut vs.toList (ends lo hi vs.size).1 (ends lo hi vs.size).2).toArray) := by
    show (cut vs.toList (ends lo hi vs.size).1 (ends lo hi vs.size).2).toArray.size ≤ sizeLine
    rw [List.size_toArray]; lia
  refine wpAny_holding (wpAny_bind (wpAny_sequenceKey ht.typeIs (by decide) (wpAny_bind (wpAny_callSpecial?_slot ht.typeIs PyProof.Rows.slot_tuple_getitem (wpAny_call_entry PyProof.Rows.slot_tuple_getitem ht.typeIs PyProof.Rows.entry_tuple_getitem ?_ (PyProof.Rows.args_tuple_getitem _ _))))))
  refine wpAny_bind (m := Builtin.Tuple.tupleItemsOf (.ref t)) (tupleItemsOf_ ht (wpAny_bind (wpAny_typeOf (T := "slice") (hs.imp fun _ r => ⟨r.1, r.2.1⟩) ?_)))
  rw [if_pos (by decide)]
  refine wpAny_bind (applied_sound hs hl hu ?_)
  obtain ⟨he1, he2⟩ := @ends_hi lo hi vs.size
  have hnew := tuple_new w (vs := cut vs.toList (ends lo hi vs.size).1 (ends lo hi vs.size).2) (by first | assumption | exact Nat.le_add_left _ _ | decide | lia) rc h
  show wpAny _ _ (if (((ends lo hi vs.size).1 : Int) == 0 && (1 : Int) == 1 && ((ends lo hi vs.size).2 - (ends lo hi vs.size).1) == vs.size) = true then _ else _) _ _ s
  have last : wpAny (model X.prog X.w) A.in1 (do
      let r ← Builtin.Tuple.tupleExact ((List.range ((ends lo hi vs.size).2 - (ends lo hi vs.size).1)).filterMap fun (k : Nat) => vs[(((ends lo hi vs.size).1 : Int) + (k : Int) * 1).toNat]?).toArray
      ret r) (fun fin s' => ∃ v, fin = Fin.done (Flow.ret v) ∧ wpAny (model X.prog X.w) A (pure v) Q E s') E s := by
    rw [pick_cut vs]
    exact wpAny_bind (m := Builtin.Tuple.tupleExact _) (wpAny_newObj_type (wpAny_pure ⟨_, rfl, wpAny_pure hnew⟩) hdrop)
  by_cases hcond : (((ends lo hi vs.size).1 : Int) == 0 && (1 : Int) == 1 && ((ends lo hi vs.size).2 - (ends lo hi vs.size).1) == vs.size) = true
  · rw [if_pos hcond]
    simp only [Bool.and_eq_true, beq_iff_eq] at hcond
    have c1 : (ends lo hi vs.size).1 = 0 := by first | assumption | exact Nat.le_add_left _ _ | decide | lia
    have c2 : (ends lo hi vs.size).2 = vs.size := by first | assumption | exact Nat.le_add_left _ _ | decide | lia
    rw [c1, c2] at h
    have ec : cut xs 0 vs.size = xs := by unfold cut; rw [List.drop_zero, List.take_of_length_le (by first | assumption | exact Nat.le_add_left _ _ | decide | lia)]
    rw [ec] at h
    refine wpAny_bind (m := Builtin.Tuple.tupleIsExact _) ?_
    unfold Builtin.Tuple.tupleIsExact
    refine wpAny_bind (wpAny_typeOf ht.typeIs (wpAny_pure ?_))
    rw [if_pos (by decide)]
    first
      | exact wpAny_bind (wpAny_rule (wpAny_pure ⟨_, rfl, wpAny_pure (h _ _ (Ok.refl w) (.tuple ho hc hd z ra))⟩))
      | exact wpAny_bind (wpAny_rule (wpAny_bind (wpAny_pure (wpAny_pure ⟨_, rfl, wpAny_pure (h _ _ (Ok.refl w) (.tuple ho hc hd z ra))⟩))))
  · rw [if_neg hcond]
    exact last
end
end Mine

set_option maxRecDepth 100000
namespace Mine
open PySem PySem.Calls PySem.Spec PyProof.Rows PySem.NumText


section
variable {M : Model} {A : Around} {E : Value → Shared → Prop} {s : Shared} {Q : Value → Shared → Prop}
theorem numeral_reads {v : Value} {t : List Nat} {n : Int} (short : (t.takeWhile (· != 0)).length ≤ 640) (worth : (int_private% "readNumeral") 0 10 (t.takeWhile (· != 0)) = (int_private% "Numeral.value") n)
    (whole : ((t.takeWhile (· != 0)).length == t.length) = true) (h : Q (.int n s.toks) { s with toks := s.toks + 1 }) : wpAny M A ((int_private% "intFromText") v t 10) Q E s := by
  refine wpAny_ite_true (c := (t.takeWhile (· != 0)).length ≤ 640) (decide_eq_true short) (wpAny_bind (wpAny_pure ?_))
  dsimp only
  rw [worth]
  exact wpAny_ite_true (decide_eq_true whole) (wpAny_mkInt h)
end
theorem noMeth : ∀ m ∈ ["__int__", "__index__", "__trunc__"], typeLookup (.type "str") m = pure none := by
  intro m hm
  rw [typeLookup_type, builtinLookup_eq_fast]
  rcases List.mem_cons.mp hm with rfl | hm
  · kernel_rfl
  rcases List.mem_cons.mp hm with rfl | hm
  · kernel_rfl
  · cases List.mem_singleton.mp hm; kernel_rfl
set_option maxHeartbeats 4000000 in
theorem int_new_text {x : Str} {u : Tok} {n : Int} (hl : x.length ≤ 640) (hn : intText? x = some n) : Gives (Builtin.«int.__new__» ⟨[.type "int", .str x u], []⟩) (.int n) := by
  have fits := Nat.le_trans (seen_length x) hl
  have reads : ∃ m, intText? x = some m ∧ ((numSeenOf x).length == (numTextOf x).length) = true ∧ (int_private% "readNumeral") 0 10 (numSeenOf x) = (int_private% "Numeral.value") m := (read0 x fits).resolve_right fun r => by rw [hn] at r; exact absurd r.1 (fun q => by cases q)
  obtain ⟨m, em, wh, wo⟩ := reads
  obtain rfl : n = m := Option.some.inj (hn.symm.trans em)
  refine .of_wp fun M A E st Q fin => ?_
  have i1 := noMeth "__int__" List.mem_cons_self
  have i2 := noMeth "__index__" (List.mem_cons_of_mem _ List.mem_cons_self)
  have i3 := noMeth "__trunc__" (List.mem_cons_of_mem _ (List.mem_cons_of_mem _ List.mem_cons_self))
  have below := F.conv_sub_int
  have here := F.madeHere_int
  cases st with | mk heap gens drawn toks os
  wp_walk using numeral_reads (v := .str x u) fits wo wh
  exact ⟨_, rfl, fin⟩
end Mine

namespace Mine
open PySem PySem.Calls PySem.Spec PyProof.Rows

section
variable {X : Cfg} {A : Around} {E : Value → Shared → Prop} {s : Shared} {S : List Addr} {l : List Env} {Q : Value → Shared → Prop}

theorem part_value {v : Value} {p : Option Int} (h : IsPart v p) : ∃ q : Option (Int × Tok), v = partValue q ∧ q.map (·.1) = p := by
  cases h with
  | none => exact ⟨none, rfl, rfl⟩
  | int i t => exact ⟨some (i, t), rfl, rfl⟩

theorem sliceIdx_length (l u : Option Int) (n : Nat) : (Builtin.Str.strSliceIndices l u 1 n).length = (ends l u n).2 - (ends l u n).1 := by
  have key : ∀ a b : Nat, (sliceRange (a : Int) (b : Int) 1).length = b - a := by
    intro a b
    unfold sliceRange
    simp only [show ((1 : Int) > 0) = True from by simp, if_true, Int.ediv_one, List.length_map, List.length_range]
    split <;> lia
  rw [← key]
  unfold Builtin.Str.strSliceIndices ends
  simp only [show ((1 : Int) > 0) = True from by simp, if_true]
  congr 2
  · cases l with
    | none => rfl
    | some i => exact clip_bound i n
  · cases u with
    | none => rfl
    | some i => exact clip_bound i n

theorem slice_sound {value : Expr} {lower upper : Option Expr} {p : Pos} {v : Value} {x : PyData} {a : Addr} {vl vu : Value} {lo hi : Option Int} (w : W X s) (rx : Rd s.heap v x)
    (hs : s.heap.IsSliceOf a vl vu .none) (hl : IsPart vl lo) (hu : IsPart vu hi) (h : Sp X RelV S l s Q E (sliceBy x (ends lo hi))) :
    wpAny (model X.prog X.w) A (subscriptTail value (.Slice lower upper none p) v (.ref a)) Q E s := by
  cases rx with
  | str x t z =>
    obtain ⟨ql, rfl, rfl⟩ := part_value hl
    obtain ⟨qu, rfl, rfl⟩ := part_value hu
    have hs' : s.heap.IsSlice a ql qu none := hs
    refine tail_any (typeIs_str s x t) PyProof.Rows.slot_str_getitem.lookup (wpAny_getItem_str_slice hs' (by decide) ?_) rfl
    rw [sliceBy_1, ← slice_str_ok] at h
    have hlen : ((Builtin.Str.strSliceIndices (ql.map (·.1)) (qu.map (·.1)) 1 x.length).filterMap (x.cps[·]?)).length ≤ x.length := by
      rw [slice_str_ok, ← sl_length]; exact cut_le _ _ _
    unfold sliceMade
    split
    · rename_i hc
      simp only [Bool.and_eq_true, beq_iff_eq] at hc
      -- the whole text
      have e : (Builtin.Str.strSliceIndices (ql.map (·.1)) (qu.map (·.1)) 1 x.length).filterMap (x.cps[·]?) = sl x := by
        have hc2 : (Builtin.Str.strSliceIndices (ql.map (·.1)) (qu.map (·.1)) 1 x.length).length = x.length := hc.2
        have := slice_str_ok x (ql.map (·.1)) (qu.map (·.1))
        have lens := sliceIdx_length (ql.map (·.1)) (qu.map (·.1)) x.length
        obtain ⟨h1, h2⟩ := @ends_hi (ql.map (·.1)) (qu.map (·.1)) x.length
        rw [this, sl_length]
        have c1 : (ends (ql.map (·.1)) (qu.map (·.1)) x.length).1 = 0 := by first | assumption | exact Nat.le_add_left _ _ | decide | lia
        have c2 : (ends (ql.map (·.1)) (qu.map (·.1)) x.length).2 = x.length := by first | assumption | exact Nat.le_add_left _ _ | decide | lia
        rw [c1, c2]
        unfold cut
        rw [List.drop_zero, List.take_of_length_le (by rw [sl_length]; exact Nat.le_refl _)]
      rw [e] at h
      exact h _ _ (Ok.refl w) (.str x t z)
    · refine ⟨?_, sp_str w (Nat.le_succ _) ?_ h⟩
      · show (List.toArray _).size ≤ sizeLine
        rw [sizeLine_limit, List.size_toArray]; exact Nat.le_trans hlen z
      · show (List.toArray _).size ≤ limit
        rw [List.size_toArray]; exact Nat.le_trans hlen z
  | tuple ho hc hd z ra =>
    rename_i t o vs n xs
    have ht : IsTup s.heap t vs := ⟨_, ho, hc, _, hd⟩
    exact tail_any ht.typeIs PyProof.Rows.slot_tuple_getitem.lookup (tuple_slice_sound w ho hc hd z ra hs hl hu h) rfl
  | _ => exact h.elim

theorem call_text {x : Str} {t : Tok} {m : Int} (hn : PySem.intText? x = some m) (hl : x.length ≤ 640) (h : Q (.int m s.toks) { s with toks := s.toks + 1 }) : wpAny (model X.prog X.w) A (call (.type "int") [.str x t]) Q E s :=
  call_int_1 (int_new_text hl hn).meets (show (Made.int m).post _ s from ⟨rfl, h⟩)
/-- a builtin of one argument -/
noncomputable def nameOf1 : B1 → Value
  | .len => .builtin "len"
  | .str => .type "str"
  | .int => .type "int"
  | .abs => .builtin "abs"
  | .ord => .builtin "ord"

theorem digitsVal_nat (cs : List Nat) (h : PySem.NumText.AllDigits cs) : ((PySem.NumText.digitsVal cs : Nat) : Int) = digitsVal cs := by
  have go : ∀ (cs : List Nat) (a : Nat) (b : Int), (∀ c ∈ cs, 48 ≤ c ∧ c ≤ 57) → (a : Int) = b → ((cs.foldl (fun acc c => acc * 10 + (c - 48)) a : Nat) : Int) = cs.foldl (fun (a : Int) (c : Nat) => a * 10 + ((c : Int) - 48)) b := by
    intro cs
    induction cs with
    | nil => intro a b _ e; exact e
    | cons c r ih =>
      intro a b hd e
      simp only [List.foldl_cons]
      refine ih _ _ (fun d hd' => hd d (List.mem_cons_of_mem _ hd')) ?_
      have := hd c (List.mem_cons_self)
      lia
  exact go cs 0 0 h rfl

theorem itoa_len_nat : ∀ (k n : Nat), n < 10 ^ (k + 1) → (itoa (n : Int)).length ≤ k + 1
  | 0, n, h => by rw [itoa_lt (by first | assumption | exact Nat.le_add_left _ _ | decide | lia)]; simp
  | k + 1, n, h => by
    by_cases q : n < 10
    · rw [itoa_lt q]; simp
    · rw [itoa_ge (by first | assumption | exact Nat.le_add_left _ _ | decide | lia)]
      have := itoa_len_nat k (n / 10) (by rw [Nat.pow_succ] at h; lia)
      rw [List.length_append, List.length_singleton]; lia
theorem itoa_fits {i : Int} (h : i.natAbs < 4611686018427387904) : (itoa i).length ≤ limit := by
  unfold limit
  match i, h with
  | .ofNat n, h =>
    have := itoa_len_nat 20 n (by have : (Int.ofNat n).natAbs = n := rfl; lia)
    exact Nat.le_trans this (by decide)
  | .negSucc n, h =>
    rw [itoa_neg]
    have := itoa_len_nat 20 (n + 1) (by have : (Int.negSucc n).natAbs = n + 1 := rfl; lia)
    rw [List.length_cons]; lia

theorem app1_sound {f : B1} {v : Value} {x : PyData} (w : W X s) (rx : Rd s.heap v x) (h : Sp X RelV S l s Q E (app1 f x)) :
    wpAny (model X.prog X.w) A (call (nameOf1 f) [v]) Q E s := by
  cases rx with
  | int i t =>
    cases f with
    | str =>
      obtain ⟨c, h⟩ := when_ok h
      refine wpAny_tk (PySem.P.str_of_int ?_ (fun hk => ?_))
      · unfold smallI at c
        simp only [Bool.and_eq_true, decide_eq_true_eq] at c
        by_cases h0 : i.natAbs = 0
        · rw [h0]; decide
        · have : i.natAbs.log2 < 62 := (Nat.log2_lt h0).mpr (by first | assumption | exact Nat.le_add_left _ _ | decide | lia)
          lia
      · refine sp_str w hk ?_ h
        unfold smallI at c
        simp only [Bool.and_eq_true, decide_eq_true_eq] at c
        have e : sl (Str.ofString (toString i)) = itoa i := rfl
        show (Str.ofString (toString i)).length ≤ limit
        rw [← sl_length, e]
        exact itoa_fits (by first | assumption | exact Nat.le_add_left _ _ | decide | lia)
    | abs => exact wpAny_tk (call_abs_int fun u tk hk => sp_int w hk h)
    | _ => exact h.elim
  | str x t z =>
    cases f with
    | len =>
      rw [app1_1, sl_length] at h
      unfold limit at z
      exact PyProof.Rows.len_str (by first | assumption | exact Nat.le_add_left _ _ | decide | lia) (sp_int w (by first | assumption | exact Nat.le_add_left _ _ | decide | lia) h)
    | int =>
      obtain ⟨c, h⟩ := when_ok h
      simp only [Bool.and_eq_true, decide_eq_true_eq, List.all_eq_true] at c
      have hd : PySem.NumText.AllDigits x.cps.toList := fun d hd => by
        have := c.2 d hd
        unfold digit at this
        simp only [Bool.and_eq_true, decide_eq_true_eq] at this
        exact this
      have hl : x.length ≤ 18 := by rw [← sl_length]; exact c.1.2
      refine call_text (PySem.intText_digits hd (fun e => ?_) (by first | assumption | exact Nat.le_add_left _ _ | decide | lia)) (by first | assumption | exact Nat.le_add_left _ _ | decide | lia) ?_
      · have := c.1.1; rw [show sl x = x.cps.toList from rfl, e] at this; simp at this
      · rw [digitsVal_nat _ hd]
        exact sp_int w (Nat.le_succ _) h
    | ord =>
      obtain ⟨⟨cs⟩⟩ := x
      match cs, z, h with
      | [c], z, h => exact PySem.P.ord_of_char (sp_int w (Nat.le_succ _) h)
      | [], _, h => exact h.elim
      | _ :: _ :: _, _, h => exact h.elim
    | _ => exact h.elim
  | list ho hc hd z ra =>
    cases f with
    | len =>
      have := ra.length
      rw [Array.length_toList] at this
      rw [app1_3, ← this] at h
      exact PyProof.Rows.len_list ⟨_, ho, hc, _, hd⟩ (by first | assumption | exact Nat.le_add_left _ _ | decide | lia) (sp_int w (by first | assumption | exact Nat.le_add_left _ _ | decide | lia) h)
    | _ => exact h.elim
  | tuple ho hc hd z ra =>
    cases f with
    | len =>
      have := ra.length
      rw [Array.length_toList] at this
      rw [app1_2, ← this] at h
      exact PyProof.Rows.len_tuple ⟨_, ho, hc, _, hd⟩ (by first | assumption | exact Nat.le_add_left _ _ | decide | lia) (sp_int w (by first | assumption | exact Nat.le_add_left _ _ | decide | lia) h)
    | _ => exact h.elim
  | _ => cases f <;> exact h.elim

noncomputable def nameOf2 : B2 → Value
  | .min => .builtin "min"
  | .max => .builtin "max"
theorem app2_sound {f : B2} {v u : Value} {x y : PyData} (w : W X s) (hh : A.handled = none) (rx : Rd s.heap v x) (ry : Rd s.heap u y) (h : Sp X RelV S l s Q E (app2 f x y)) :
    wpAny (model X.prog X.w) A (call (nameOf2 f) [v, u]) Q E s := by
  cases rx with
  | int a t =>
    cases ry with
    | int b t' =>
      cases f with
      | min =>
        refine wpAny_tk (min_two_ints hh fun h' tk hk htk => ?_)
        have := h (if b < a then .int b t' else .int a t) _ (Ok.keeps w htk hk)
        split <;> rename_i q <;> simp only [q, if_true, if_false] at this <;> exact this (by constructor)
      | max =>
        refine wpAny_tk (max_two_ints hh fun h' tk hk htk => ?_)
        have := h (if b > a then .int b t' else .int a t) _ (Ok.keeps w htk hk)
        split <;> rename_i q <;> simp only [q, if_true, if_false, gt_iff_lt] at this <;> exact this (by constructor)
    | _ => cases f <;> exact h.elim
  | _ => cases f <;> exact h.elim

/-- a type's name -/
noncomputable def tyName : Ty → String
  | .int => "int" | .str => "str" | .tuple => "tuple" | .bool => "bool"
noncomputable def tyOfD : PyData → String
  | .none => "NoneType" | .bool _ => "bool" | .int _ => "int" | .str _ => "str" | .list _ => "list" | .tuple _ => "tuple" | _ => "dict"
theorem typeCall_sound {v : Value} {x : PyData} (rx : Rd s.heap v x) (h : Q (.type (tyOfD x)) s) : wpAny (model X.prog X.w) A (call (.type "type") [v]) Q E s := by
  cases rx with
  | none => exact call_type_of (Tx := "NoneType") rfl (by decide +kernel) h
  | bool b => exact call_type_of (Tx := "bool") rfl (by decide +kernel) h
  | int i t => exact call_type_of (Tx := "int") rfl (by decide +kernel) h
  | str x t z => exact call_type_of (Tx := "str") rfl (by decide +kernel) h
  | list ho hc hd z ra => exact call_type_of (Tx := "list") ⟨_, ho, hc⟩ (by decide +kernel) h
  | tuple ho hc hd z ra => exact call_type_of (Tx := "tuple") ⟨_, ho, hc⟩ (by decide +kernel) h
theorem typeIs_sound {x : PyData} {t : Ty} {v : Value} (rx : Rd s.heap v x) (h : Q (.bool (typeIs x t)) s) : wpAny (model X.prog X.w) A (compareOp .Is (.type (tyOfD x)) (.type (tyName t))) Q E s := by
  cases rx <;> cases t <;> first
    | exact wpAny_is_self (by rfl) h
    | exact wpAny_is_other (by rfl) (fun q => by simp [tyOfD, tyName] at q) h
end
end Mine

namespace Mine
open PySem PySem.Calls PySem.Spec PyProof.Rows PySem.Builtin.Str

section
variable {X : Cfg} {A : Around} {E : Value → Shared → Prop} {s : Shared} {S : List Addr} {l : List Env} {Q : Value → Shared → Prop}

theorem contains_sl (c : Str) (n : Nat) : c.cps.contains n = (sl c).contains n := by
  unfold sl
  rw [Array.contains_toList]

theorem takeDrop (p : Nat → Bool) : ∀ x : List Nat, (x.takeWhile p).length + (x.dropWhile p).length = x.length
  | [] => rfl
  | a :: r => by
    have := takeDrop p r
    simp only [List.takeWhile, List.dropWhile]
    cases p a <;> simp <;> lia
theorem dropWhile_drop (p : Nat → Bool) : ∀ x : List Nat, x.dropWhile p = x.drop (x.takeWhile p).length
  | [] => rfl
  | a :: r => by
    have := dropWhile_drop p r
    simp only [List.takeWhile, List.dropWhile]
    cases p a <;> simp [this]

theorem rstrip_text (x c : Str) : Txt.rstripChars x c = ⟨(rstripL (sl c) (sl x)).toArray⟩ := by
  have e : (fun n => c.cps.contains n) = fun n => (sl c).contains n := by funext n; exact contains_sl c n
  have e2 : Txt.rstripChars x c = Txt.stripBy (fun n => c.cps.contains n) false true x := rfl
  rw [e2, e]
  have main : strSub x 0 (x.length - ((sl x).reverse.takeWhile fun n => (sl c).contains n).length) = ⟨(rstripL (sl c) (sl x)).toArray⟩ := by
    unfold strSub rstripL
    congr 1
    apply Array.toList_inj.mp
    rw [dropWhile_drop, List.drop_reverse, List.reverse_reverse, sl_length]
    simp [sl]
  unfold Txt.stripBy
  split
  · rename_i h
    simp only [stripSame, stripLo, stripHi, Bool.and_eq_true, beq_iff_eq, Bool.false_eq_true, if_false, if_true, List.drop_zero] at h
    rw [← main]
    have h2 : x.length - ((sl x).reverse.takeWhile fun n => (sl c).contains n).length = x.length := h.2
    rw [h2]
    unfold strSub
    have : x.cps.extract 0 x.length = x.cps := by
      apply Array.toList_inj.mp
      simp [Str.length]
    rw [this]
  · rw [← main]
    simp only [stripped, stripLo, stripHi, Bool.false_eq_true, if_false, if_true, List.drop_zero]

theorem rstripL_le (cs x : List Nat) : (rstripL cs x).length ≤ x.length := by
  unfold rstripL
  rw [List.length_reverse]
  have := takeDrop (fun c => cs.contains c) x.reverse
  rw [List.length_reverse] at this
  lia

theorem rstrip_sound {v u : Value} {x y : PyData} (w : W X s) (rx : Rd s.heap v x) (ry : Rd s.heap u y) (h : Sp X RelV S l s Q E (rstripD x y)) :
    wpAny (model X.prog X.w) A (call (.builtin "str.rstrip") [v, u]) Q E s := by
  cases rx with
  | str x t z =>
    cases ry with
    | str y t' z' =>
      refine wpAny_tk (SC.rstripChars (fun t' k hk => ?_) (by rw [sizeLine_limit]; exact z))
      rw [rstrip_text]
      refine sp_str w hk ?_ h
      show (rstripL (sl y) (sl x)).toArray.size ≤ limit
      rw [List.size_toArray]
      exact Nat.le_trans (rstripL_le _ _) (by rw [sl_length]; exact z)
    | _ => exact h.elim
  | _ => cases ry <;> exact h.elim

theorem strs_values {h : Heap} : ∀ {vs : List Value} {ds : List PyData} {q : List (List Nat)}, RdAll h vs ds → strsOf ds = some q → ∃ l : List (Str × Tok), vs = strValues l ∧ l.map (fun p => sl p.1) = q
  | _, _, _, .nil, e => by cases e; exact ⟨[], rfl, rfl⟩
  | _, _, _, .cons r rs, e => by
    cases r with
    | str x t z =>
      simp only [strsOf, Option.map_eq_some_iff] at e
      obtain ⟨q', e1, rfl⟩ := e
      obtain ⟨l, rfl, rfl⟩ := strs_values rs e1
      exact ⟨(x, t) :: l, rfl, rfl⟩
    | _ => cases e

theorem join_text (sp : Str) : ∀ l : List Str, sl (Str.join sp l) = joinL (sl sp) (l.map sl)
  | [] => rfl
  | [x] => rfl
  | x :: y :: r => by
    have e : Str.join sp (x :: y :: r) = x ++ sp ++ Str.join sp (y :: r) := rfl
    rw [e, str_append, str_append]
    have := join_text sp (y :: r)
    simp only [sl, List.map_cons, List.toList_toArray] at this ⊢
    rw [this]; rfl
theorem joinL_total (sp : List Nat) : ∀ l : List (List Nat), l ≠ [] → (joinL sp l).length + sp.length = (l.map List.length).sum + l.length * sp.length
  | [], h => (h rfl).elim
  | [x], _ => by simp [joinL]
  | x :: y :: r, _ => by
    have := joinL_total sp (y :: r) (by simp)
    simp only [joinL, List.length_append, List.map_cons, List.sum_cons, List.length_cons] at this ⊢
    rw [Nat.add_mul, Nat.one_mul]
    lia

theorem join_core {a : Addr} {sp : Str} {t : Tok} {lv : List (Str × Tok)} {o : Obj} {n : Nat} (w : W X s) (ho : s.heap.get? a = some o) (hc : o.cls = .type "list" ∨ o.cls = .type "tuple") (hd : o.data = .seq (strValues lv).toArray n)
    (hz : (joinL (sl sp) (lv.map fun p => sl p.1)).length + (sl sp).length ≤ limit) (hne : lv ≠ []) (h : Sp X RelV S l s Q E (.ok (dS (joinL (sl sp) (lv.map fun p => sl p.1))))) :
    wpAny (model X.prog X.w) A (call (.builtin "str.join") [.str sp t, .ref a]) Q E s := by
  have hfit : tooLong ((lv.map (·.1)).toArray.foldl (· + ·.length + sp.length) 0) = false := by
    rw [StrLaws.joinTotal]
    have := joinL_total (sl sp) (lv.map fun p => sl p.1) (by simpa using hne)
    unfold tooLong
    rw [decide_eq_false_iff_not, sizeLine_limit]
    rw [this] at hz
    simp only [List.map_map, List.length_map, sl_length] at hz
    have e : (List.length ∘ fun p : Str × Tok => sl p.1) = ((fun x : Str => x.length) ∘ fun p : Str × Tok => p.1) := by funext p; exact sl_length _
    rw [e] at hz
    simp only [List.map_map, List.length_map]
    lia
  have heq : Txt.join sp (lv.map (·.1)) = ⟨(joinL (sl sp) (lv.map fun p => sl p.1)).toArray⟩ := by
    have : Txt.join sp (lv.map (·.1)) = Str.join sp (lv.map (·.1)) := StrLaws.glued_eq_join _ _
    rw [this]
    have e := join_text sp (lv.map (·.1))
    rw [List.map_map] at e
    have e' : (sl ∘ fun p : Str × Tok => p.1) = fun p : Str × Tok => sl p.1 := rfl
    rw [e'] at e
    rw [← e]
  have hlen := joinFit_length hfit
  have M : Meets (Builtin.«str.join» ⟨[.str sp t, .ref a], []⟩) (fun _ R s' => s' = s ∧ (joinMade sp lv).post (fun v s'' => R (.ok (.ret v)) s'') s') := by
    obtain ⟨other, htree⟩ := join_tree sp t a
    intro prog w' A' R s' ⟨es, hpost⟩
    subst es
    rw [htree]
    have hT : ∃ T, s'.TypeIs (.ref a) T ∧ (Value.type T == .type "list" || Value.type T == .type "tuple") = true := by
      rcases hc with hc | hc
      · exact ⟨"list", ⟨o, ho, hc⟩, rfl⟩
      · exact ⟨"tuple", ⟨o, ho, hc⟩, rfl⟩
    obtain ⟨T, hT, hT2⟩ := hT
    refine wpAny_bind (wpAny_typeOf hT ?_)
    rw [if_pos hT2]
    unfold seqItems?
    refine wpAny_bind (wpAny_bind (wpAny_load ho ?_))
    rw [hd]
    refine wpAny_pure ?_
    show wpAny _ _ (joinTail sp (strValues lv).toArray.toList) _ _ s'
    rw [List.toList_toArray]
    have g : Gives (joinTail sp (strValues lv)) (joinMade sp lv) := by
      have g0 := gives_joinTail sp lv hfit
      cases lv with
      | nil => exact g0
      | cons p r => cases r with
        | nil => exact g0
        | cons q r' => exact g0
    exact g prog w' A' R s' hpost
  refine wpAny_tk (call_meets F.slot_str_join (typeIs_str _ _ _) F.entry_str_join (F.args_str_join_2 _ _) M ⟨rfl, post_join lv ⟨hlen, fun t' k hk => ?_⟩⟩)
  rw [heq] at hlen ⊢
  exact sp_str w hk (by rw [← sizeLine_limit]; exact hlen) h

theorem join_sound {v u : Value} {x y : PyData} (w : W X s) (rx : Rd s.heap v x) (ry : Rd s.heap u y) (h : Sp X RelV S l s Q E (joinD x y)) :
    wpAny (model X.prog X.w) A (call (.builtin "str.join") [v, u]) Q E s := by
  cases rx with
  | str x t z =>
    cases ry with
    | tuple ho hc hd z' ra =>
      rename_i a o vs n xs
      rw [joinD_1] at h
      cases e : strsOf xs with
      | none => rw [e] at h; exact h.elim
      | some q =>
        rw [e, R.ofOpt_some, R.bind_ok] at h
        obtain ⟨c, h⟩ := when_ok h
        simp only [Bool.and_eq_true, decide_eq_true_eq] at c
        obtain ⟨lv, ev, rfl⟩ := strs_values ra e
        have hd' : o.data = .seq (strValues lv).toArray n := by rw [hd, ← ev]
        exact join_core w ho (.inr hc) hd' c.1.1 (fun q => by rw [q] at c; simp at c) h
    | list ho hc hd z' ra =>
      rename_i a o vs n xs
      rw [joinD_2] at h
      cases e : strsOf xs with
      | none => rw [e] at h; exact h.elim
      | some q =>
        rw [e, R.ofOpt_some, R.bind_ok] at h
        obtain ⟨c, h⟩ := when_ok h
        simp only [Bool.and_eq_true, decide_eq_true_eq] at c
        obtain ⟨lv, ev, rfl⟩ := strs_values ra e
        have hd' : o.data = .seq (strValues lv).toArray n := by rw [hd, ← ev]
        exact join_core w ho (.inl hc) hd' c.1.1 (fun q => by rw [q] at c; simp at c) h
    | _ => exact h.elim
  | _ => cases ry <;> exact h.elim
end
end Mine

namespace Mine
open PySem
noncomputable def pick (i n : Nat) (k : i = n → Bool) : Bool := if h : i = n then k h else false
theorem pick_inv {i n : Nat} {k : i = n → Bool} (h : pick i n k = true) : i = n := by
  unfold pick at h
  by_cases q : i = n
  · exact q
  · rw [dif_neg q] at h; cases h

noncomputable def onName (k : Str → Bool) (e : Expr) : Bool := pick e.ctorIdx 23 fun q => Expr.Name.elim (motive_1 := fun _ => Bool) e q fun x _ => k x
theorem onName_inv {k : Str → Bool} {e : Expr} (h : onName k e = true) : ∃ x p, e = .Name x p ∧ k x = true :=
  Expr.Name.elim (motive_1 := fun e => onName k e = true → ∃ x p, e = .Name x p ∧ k x = true) e (pick_inv h) (fun x p h => ⟨x, p, rfl, h⟩) h

noncomputable def onConst (k : Const → Bool) (e : Expr) : Bool := pick e.ctorIdx 19 fun q => Expr.Constant.elim (motive_1 := fun _ => Bool) e q fun x _ _ => k x
theorem onConst_inv {k : Const → Bool} {e : Expr} (h : onConst k e = true) : ∃ x n p, e = .Constant x n p ∧ k x = true :=
  Expr.Constant.elim (motive_1 := fun e => onConst k e = true → ∃ x n p, e = .Constant x n p ∧ k x = true) e (pick_inv h) (fun x n p h => ⟨x, n, p, rfl, h⟩) h

noncomputable def onBin (k : Expr → Operator → Expr → Bool) (e : Expr) : Bool := pick e.ctorIdx 2 fun q => Expr.BinOp.elim (motive_1 := fun _ => Bool) e q fun x o y _ => k x o y
theorem onBin_inv {k : Expr → Operator → Expr → Bool} {e : Expr} (h : onBin k e = true) : ∃ x o y p, e = .BinOp x o y p ∧ k x o y = true :=
  Expr.BinOp.elim (motive_1 := fun e => onBin k e = true → ∃ x o y p, e = .BinOp x o y p ∧ k x o y = true) e (pick_inv h) (fun x o y p h => ⟨x, o, y, p, rfl, h⟩) h

noncomputable def onUn (k : UnaryOp → Expr → Bool) (e : Expr) : Bool := pick e.ctorIdx 3 fun q => Expr.UnaryOp.elim (motive_1 := fun _ => Bool) e q fun o x _ => k o x
theorem onUn_inv {k : UnaryOp → Expr → Bool} {e : Expr} (h : onUn k e = true) : ∃ o x p, e = .UnaryOp o x p ∧ k o x = true :=
  Expr.UnaryOp.elim (motive_1 := fun e => onUn k e = true → ∃ o x p, e = .UnaryOp o x p ∧ k o x = true) e (pick_inv h) (fun o x p h => ⟨o, x, p, rfl, h⟩) h

noncomputable def onBoolOp (k : BoolOp → List Expr → Pos → Bool) (e : Expr) : Bool := pick e.ctorIdx 0 fun q => Expr.BoolOp.elim (motive_1 := fun _ => Bool) e q fun o xs p => k o xs p
theorem onBoolOp_inv {k : BoolOp → List Expr → Pos → Bool} {e : Expr} (h : onBoolOp k e = true) : ∃ o xs p, e = .BoolOp o xs p ∧ k o xs p = true :=
  Expr.BoolOp.elim (motive_1 := fun e => onBoolOp k e = true → ∃ o xs p, e = .BoolOp o xs p ∧ k o xs p = true) e (pick_inv h) (fun o xs p h => ⟨o, xs, p, rfl, h⟩) h

noncomputable def onIfE (k : Expr → Expr → Expr → Bool) (e : Expr) : Bool := pick e.ctorIdx 5 fun q => Expr.IfExp.elim (motive_1 := fun _ => Bool) e q fun x y z _ => k x y z
theorem onIfE_inv {k : Expr → Expr → Expr → Bool} {e : Expr} (h : onIfE k e = true) : ∃ x y z p, e = .IfExp x y z p ∧ k x y z = true :=
  Expr.IfExp.elim (motive_1 := fun e => onIfE k e = true → ∃ x y z p, e = .IfExp x y z p ∧ k x y z = true) e (pick_inv h) (fun x y z p h => ⟨x, y, z, p, rfl, h⟩) h

noncomputable def onTup (k : List Expr → Nat → Pos → Bool) (e : Expr) : Bool := pick e.ctorIdx 25 fun q => Expr.Tuple.elim (motive_1 := fun _ => Bool) e q fun xs n p => k xs n p
theorem onTup_inv {k : List Expr → Nat → Pos → Bool} {e : Expr} (h : onTup k e = true) : ∃ xs n p, e = .Tuple xs n p ∧ k xs n p = true :=
  Expr.Tuple.elim (motive_1 := fun e => onTup k e = true → ∃ xs n p, e = .Tuple xs n p ∧ k xs n p = true) e (pick_inv h) (fun xs n p h => ⟨xs, n, p, rfl, h⟩) h

noncomputable def onList (k : List Expr → Bool) (e : Expr) : Bool := pick e.ctorIdx 24 fun q => Expr.List.elim (motive_1 := fun _ => Bool) e q fun xs _ => k xs
theorem onList_inv {k : List Expr → Bool} {e : Expr} (h : onList k e = true) : ∃ xs p, e = .List xs p ∧ k xs = true :=
  Expr.List.elim (motive_1 := fun e => onList k e = true → ∃ xs p, e = .List xs p ∧ k xs = true) e (pick_inv h) (fun xs p h => ⟨xs, p, rfl, h⟩) h

noncomputable def onCmp (k : Expr → List CmpOp → List Expr → Bool) (e : Expr) : Bool := pick e.ctorIdx 15 fun q => Expr.Compare.elim (motive_1 := fun _ => Bool) e q fun x os rs _ => k x os rs
theorem onCmp_inv {k : Expr → List CmpOp → List Expr → Bool} {e : Expr} (h : onCmp k e = true) : ∃ x os rs p, e = .Compare x os rs p ∧ k x os rs = true :=
  Expr.Compare.elim (motive_1 := fun e => onCmp k e = true → ∃ x os rs p, e = .Compare x os rs p ∧ k x os rs = true) e (pick_inv h) (fun x os rs p h => ⟨x, os, rs, p, rfl, h⟩) h

noncomputable def onSub (k : Expr → Expr → Bool) (e : Expr) : Bool := pick e.ctorIdx 21 fun q => Expr.Subscript.elim (motive_1 := fun _ => Bool) e q fun x y _ => k x y
theorem onSub_inv {k : Expr → Expr → Bool} {e : Expr} (h : onSub k e = true) : ∃ x y p, e = .Subscript x y p ∧ k x y = true :=
  Expr.Subscript.elim (motive_1 := fun e => onSub k e = true → ∃ x y p, e = .Subscript x y p ∧ k x y = true) e (pick_inv h) (fun x y p h => ⟨x, y, p, rfl, h⟩) h

noncomputable def onSlice (k : Option Expr → Option Expr → Option Expr → Bool) (e : Expr) : Bool := pick e.ctorIdx 26 fun q => Expr.Slice.elim (motive_1 := fun _ => Bool) e q fun x y z _ => k x y z
theorem onSlice_inv {k : Option Expr → Option Expr → Option Expr → Bool} {e : Expr} (h : onSlice k e = true) : ∃ x y z p, e = .Slice x y z p ∧ k x y z = true :=
  Expr.Slice.elim (motive_1 := fun e => onSlice k e = true → ∃ x y z p, e = .Slice x y z p ∧ k x y z = true) e (pick_inv h) (fun x y z p h => ⟨x, y, z, p, rfl, h⟩) h

noncomputable def onCall (k : Expr → List Expr → List Keyword → Pos → Bool) (e : Expr) : Bool := pick e.ctorIdx 16 fun q => Expr.Call.elim (motive_1 := fun _ => Bool) e q fun f xs ks p => k f xs ks p
theorem onCall_inv {k : Expr → List Expr → List Keyword → Pos → Bool} {e : Expr} (h : onCall k e = true) : ∃ f xs ks p, e = .Call f xs ks p ∧ k f xs ks p = true :=
  Expr.Call.elim (motive_1 := fun e => onCall k e = true → ∃ f xs ks p, e = .Call f xs ks p ∧ k f xs ks p = true) e (pick_inv h) (fun f xs ks p h => ⟨f, xs, ks, p, rfl, h⟩) h

noncomputable def onAttr (k : Expr → Str → Pos → Bool) (e : Expr) : Bool := pick e.ctorIdx 20 fun q => Expr.Attribute.elim (motive_1 := fun _ => Bool) e q fun x n p => k x n p
theorem onAttr_inv {k : Expr → Str → Pos → Bool} {e : Expr} (h : onAttr k e = true) : ∃ x n p, e = .Attribute x n p ∧ k x n p = true :=
  Expr.Attribute.elim (motive_1 := fun e => onAttr k e = true → ∃ x n p, e = .Attribute x n p ∧ k x n p = true) e (pick_inv h) (fun x n p h => ⟨x, n, p, rfl, h⟩) h

noncomputable def onReturn (k : Option Expr → Bool) (e : Stmt) : Bool := pick e.ctorIdx 3 fun q => Stmt.Return.elim (motive_2 := fun _ => Bool) e q fun x _ => k x
theorem onReturn_inv {k : Option Expr → Bool} {e : Stmt} (h : onReturn k e = true) : ∃ x p, e = .Return x p ∧ k x = true :=
  Stmt.Return.elim (motive_2 := fun e => onReturn k e = true → ∃ x p, e = .Return x p ∧ k x = true) e (pick_inv h) (fun x p h => ⟨x, p, rfl, h⟩) h

noncomputable def onAssign (k : List Expr → Expr → Bool) (e : Stmt) : Bool := pick e.ctorIdx 5 fun q => Stmt.Assign.elim (motive_2 := fun _ => Bool) e q fun ts v _ => k ts v
theorem onAssign_inv {k : List Expr → Expr → Bool} {e : Stmt} (h : onAssign k e = true) : ∃ ts v p, e = .Assign ts v p ∧ k ts v = true :=
  Stmt.Assign.elim (motive_2 := fun e => onAssign k e = true → ∃ ts v p, e = .Assign ts v p ∧ k ts v = true) e (pick_inv h) (fun ts v p h => ⟨ts, v, p, rfl, h⟩) h

noncomputable def onIfS (k : Expr → List Stmt → List Stmt → Bool) (e : Stmt) : Bool := pick e.ctorIdx 12 fun q => Stmt.If.elim (motive_2 := fun _ => Bool) e q fun x y z _ => k x y z
theorem onIfS_inv {k : Expr → List Stmt → List Stmt → Bool} {e : Stmt} (h : onIfS k e = true) : ∃ x y z p, e = .If x y z p ∧ k x y z = true :=
  Stmt.If.elim (motive_2 := fun e => onIfS k e = true → ∃ x y z p, e = .If x y z p ∧ k x y z = true) e (pick_inv h) (fun x y z p h => ⟨x, y, z, p, rfl, h⟩) h

noncomputable def onWhile (k : Expr → List Stmt → List Stmt → Bool) (e : Stmt) : Bool := pick e.ctorIdx 11 fun q => Stmt.While.elim (motive_2 := fun _ => Bool) e q fun x y z _ => k x y z
theorem onWhile_inv {k : Expr → List Stmt → List Stmt → Bool} {e : Stmt} (h : onWhile k e = true) : ∃ x y z p, e = .While x y z p ∧ k x y z = true :=
  Stmt.While.elim (motive_2 := fun e => onWhile k e = true → ∃ x y z p, e = .While x y z p ∧ k x y z = true) e (pick_inv h) (fun x y z p h => ⟨x, y, z, p, rfl, h⟩) h

noncomputable def onFor (k : Expr → Expr → List Stmt → List Stmt → Bool) (e : Stmt) : Bool := pick e.ctorIdx 9 fun q => Stmt.For.elim (motive_2 := fun _ => Bool) e q fun t x y z _ => k t x y z
theorem onFor_inv {k : Expr → Expr → List Stmt → List Stmt → Bool} {e : Stmt} (h : onFor k e = true) : ∃ t x y z p, e = .For t x y z p ∧ k t x y z = true :=
  Stmt.For.elim (motive_2 := fun e => onFor k e = true → ∃ t x y z p, e = .For t x y z p ∧ k t x y z = true) e (pick_inv h) (fun t x y z p h => ⟨t, x, y, z, p, rfl, h⟩) h

noncomputable def onRaise (k : Option Expr → Option Expr → Bool) (e : Stmt) : Bool := pick e.ctorIdx 16 fun q => Stmt.Raise.elim (motive_2 := fun _ => Bool) e q fun x y _ => k x y
theorem onRaise_inv {k : Option Expr → Option Expr → Bool} {e : Stmt} (h : onRaise k e = true) : ∃ x y p, e = .Raise x y p ∧ k x y = true :=
  Stmt.Raise.elim (motive_2 := fun e => onRaise k e = true → ∃ x y p, e = .Raise x y p ∧ k x y = true) e (pick_inv h) (fun x y p h => ⟨x, y, p, rfl, h⟩) h

noncomputable def onTry (k : List Stmt → List ExceptHandler → List Stmt → List Stmt → Bool) (e : Stmt) : Bool := pick e.ctorIdx 17 fun q => Stmt.Try.elim (motive_2 := fun _ => Bool) e q fun b hs o f _ => k b hs o f
theorem onTry_inv {k : List Stmt → List ExceptHandler → List Stmt → List Stmt → Bool} {e : Stmt} (h : onTry k e = true) : ∃ b hs o f p, e = .Try b hs o f p ∧ k b hs o f = true :=
  Stmt.Try.elim (motive_2 := fun e => onTry k e = true → ∃ b hs o f p, e = .Try b hs o f p ∧ k b hs o f = true) e (pick_inv h) (fun b hs o f p h => ⟨b, hs, o, f, p, rfl, h⟩) h

noncomputable def onHandler (k : Option Expr → Option Str → List Stmt → Bool) : ExceptHandler → Bool
  | .ExceptHandler t n b _ => k t n b
theorem onHandler_inv {k : Option Expr → Option Str → List Stmt → Bool} {e : ExceptHandler} (h : onHandler k e = true) : ∃ t n b p, e = .ExceptHandler t n b p ∧ k t n b = true := by
  cases e; exact ⟨_, _, _, _, rfl, h⟩

section
variable {α : Type}
noncomputable def on0 : List α → Bool
  | [] => true
  | _ :: _ => false
theorem on0_inv {l : List α} (h : on0 l = true) : l = [] := by cases l <;> first | rfl | cases h
noncomputable def onCons (k : α → List α → Bool) : List α → Bool
  | [] => false
  | x :: r => k x r
theorem onCons_inv {k : α → List α → Bool} {l : List α} (h : onCons k l = true) : ∃ x r, l = x :: r ∧ k x r = true := by cases l <;> first | exact ⟨_, _, rfl, h⟩ | cases h
theorem both {a b : Bool} (h : (a && b) = true) : a = true ∧ b = true := (Bool.and_eq_true_iff).mp h
noncomputable def on1 (k : α → Bool) : List α → Bool := onCons fun x r => on0 r && k x
theorem on1_inv {k : α → Bool} {l : List α} (h : on1 k l = true) : ∃ x, l = [x] ∧ k x = true := by
  obtain ⟨x, r, rfl, h0⟩ := onCons_inv h
  obtain ⟨h1, h2⟩ := both h0
  rw [on0_inv h1]
  exact ⟨x, rfl, h2⟩
noncomputable def on2 (k : α → α → Bool) : List α → Bool := onCons fun x r => on1 (k x) r
theorem on2_inv {k : α → α → Bool} {l : List α} (h : on2 k l = true) : ∃ x y, l = [x, y] ∧ k x y = true := by
  obtain ⟨x, r, rfl, h1⟩ := onCons_inv h
  obtain ⟨y, rfl, h2⟩ := on1_inv h1
  exact ⟨x, y, rfl, h2⟩
noncomputable def on2r (k : α → α → List α → Bool) : List α → Bool := onCons fun x r => onCons (k x) r
theorem on2r_inv {k : α → α → List α → Bool} {l : List α} (h : on2r k l = true) : ∃ x y r, l = x :: y :: r ∧ k x y r = true := by
  obtain ⟨x, r, rfl, h1⟩ := onCons_inv h
  obtain ⟨y, q, rfl, h2⟩ := onCons_inv h1
  exact ⟨x, y, q, rfl, h2⟩
noncomputable def onSome (k : α → Bool) : Option α → Bool
  | none => false
  | some a => k a
theorem onSome_inv {k : α → Bool} {o : Option α} (h : onSome k o = true) : ∃ a, o = some a ∧ k a = true := by cases o <;> first | exact ⟨_, rfl, h⟩ | cases h
noncomputable def onNone : Option α → Bool
  | none => true
  | some _ => false
theorem onNone_inv {o : Option α} (h : onNone o = true) : o = none := by cases o <;> first | rfl | cases h
end
noncomputable def isUSub (o : UnaryOp) : Bool := pick o.ctorIdx 3 fun _ => true
theorem isUSub_inv {o : UnaryOp} (h : isUSub o = true) : o = .USub := UnaryOp.USub.elim (motive := fun o => o = .USub) o (pick_inv h) rfl
noncomputable def isNot (o : UnaryOp) : Bool := pick o.ctorIdx 1 fun _ => true
theorem isNot_inv {o : UnaryOp} (h : isNot o = true) : o = .Not := UnaryOp.Not.elim (motive := fun o => o = .Not) o (pick_inv h) rfl
noncomputable def isAnd (o : BoolOp) : Bool := pick o.ctorIdx 0 fun _ => true
theorem isAnd_inv {o : BoolOp} (h : isAnd o = true) : o = .And := BoolOp.And.elim (motive := fun o => o = .And) o (pick_inv h) rfl
noncomputable def isOr (o : BoolOp) : Bool := pick o.ctorIdx 1 fun _ => true
theorem isOr_inv {o : BoolOp} (h : isOr o = true) : o = .Or := BoolOp.Or.elim (motive := fun o => o = .Or) o (pick_inv h) rfl
noncomputable def isIs (o : CmpOp) : Bool := pick o.ctorIdx 6 fun _ => true
theorem isIs_inv {o : CmpOp} (h : isIs o = true) : o = .Is := CmpOp.Is.elim (motive := fun o => o = .Is) o (pick_inv h) rfl
noncomputable def isIsNot (o : CmpOp) : Bool := pick o.ctorIdx 7 fun _ => true
theorem isIsNot_inv {o : CmpOp} (h : isIsNot o = true) : o = .IsNot := CmpOp.IsNot.elim (motive := fun o => o = .IsNot) o (pick_inv h) rfl
noncomputable def isNoneK (o : Const) : Bool := pick o.ctorIdx 0 fun _ => true
theorem isNoneK_inv {o : Const} (h : isNoneK o = true) : o = .none := Const.none.elim (motive := fun o => o = .none) o (pick_inv h) rfl
noncomputable def onStrK (o : Const) : Bool := pick o.ctorIdx 5 fun _ => true
theorem onStrK_inv {o : Const} (h : onStrK o = true) : ∃ x, o = .str x := Const.str.elim (motive := fun o => ∃ x, o = .str x) o (pick_inv h) fun x => ⟨x, rfl⟩
noncomputable def isNoneC (e : Expr) : Bool := onConst isNoneK e
theorem isNoneC_inv {e : Expr} (h : isNoneC e = true) : ∃ n p, e = .Constant .none n p := by
  obtain ⟨k, n, p, rfl, h1⟩ := onConst_inv h
  rw [isNoneK_inv h1]
  exact ⟨n, p, rfl⟩
noncomputable def isStrE (e : Expr) : Bool := onConst onStrK e
theorem isStrE_inv {e : Expr} (h : isStrE e = true) : ∃ x n p, e = .Constant (.str x) n p := by
  obtain ⟨k, n, p, rfl, h1⟩ := onConst_inv h
  obtain ⟨x, rfl⟩ := onStrK_inv h1
  exact ⟨x, n, p, rfl⟩
end Mine

namespace Mine
open PySem PySem.Calls PySem.Spec PyProof.Rows PySem.W

/-- what a function's text is read with: the names of the table's functions, the constants of the module, the function's own names, its scope -/
structure Cx where
  fns : List Str
  gl : List (Str × PyData)
  ns : List Str
  sc : Scope
  ext : PE → Expr → Bool

noncomputable def bts : List (Str × Value) := [("len", .builtin "len"), ("str", .type "str"), ("int", .type "int"), ("abs", .builtin "abs"), ("ord", .builtin "ord"), ("min", .builtin "min"), ("max", .builtin "max"),
  ("type", .type "type"), ("tuple", .type "tuple"), ("bool", .type "bool"), ("all", .builtin "all"), ("any", .builtin "any"), ("zip", .type "zip"), ("range", .type "range"), ("ValueError", .type "ValueError")]

noncomputable def tyValue : Ty → Value
  | .int => .type "int" | .str => .type "str" | .tuple => .type "tuple" | .bool => .type "bool"

noncomputable def plainArg : Expr → Bool
  | .Starred .. => false
  | _ => true
noncomputable def noSuper : Expr → Bool
  | .Call (.Name _ _) [] [] _ => false
  | _ => true

noncomputable def kindIs (c : Cx) (x : Str) (k : NameKind) : Bool := c.sc.names.lookup x == some k && !(x == ("__debug__" : Str))
/-- a name of a built-in -/
noncomputable def isBt (c : Cx) (x : Str) (v : Value) : Bool := kindIs c x .globalImplicit && bts.lookup x == some v

/-- a datum of a kind -/
noncomputable def dNone (e : PyData) : Bool := pick e.ctorIdx 0 fun _ => true
theorem dNone_inv {e : PyData} (h : dNone e = true) : e = .none := PyData.none.elim (motive_1 := fun e => e = .none) e (pick_inv h) rfl
noncomputable def onB' (k : Bool → Bool) (e : PyData) : Bool := pick e.ctorIdx 1 fun q => PyData.bool.elim (motive_1 := fun _ => Bool) e q k
theorem onB_inv {k : Bool → Bool} {e : PyData} (h : onB' k e = true) : ∃ x, e = .bool x ∧ k x = true :=
  PyData.bool.elim (motive_1 := fun e => onB' k e = true → ∃ x, e = .bool x ∧ k x = true) e (pick_inv h) (fun x h => ⟨x, rfl, h⟩) h
noncomputable def onI' (k : Int → Bool) (e : PyData) : Bool := pick e.ctorIdx 2 fun q => PyData.int.elim (motive_1 := fun _ => Bool) e q k
theorem onI_inv {k : Int → Bool} {e : PyData} (h : onI' k e = true) : ∃ x, e = .int x ∧ k x = true :=
  PyData.int.elim (motive_1 := fun e => onI' k e = true → ∃ x, e = .int x ∧ k x = true) e (pick_inv h) (fun x h => ⟨x, rfl, h⟩) h
noncomputable def onS' (k : Str → Bool) (e : PyData) : Bool := pick e.ctorIdx 3 fun q => PyData.str.elim (motive_1 := fun _ => Bool) e q k
theorem onS_inv {k : Str → Bool} {e : PyData} (h : onS' k e = true) : ∃ x, e = .str x ∧ k x = true :=
  PyData.str.elim (motive_1 := fun e => onS' k e = true → ∃ x, e = .str x ∧ k x = true) e (pick_inv h) (fun x h => ⟨x, rfl, h⟩) h
noncomputable def onL' (k : List PyData → Bool) (e : PyData) : Bool := pick e.ctorIdx 4 fun q => PyData.list.elim (motive_1 := fun _ => Bool) e q k
theorem onL_inv {k : List PyData → Bool} {e : PyData} (h : onL' k e = true) : ∃ x, e = .list x ∧ k x = true :=
  PyData.list.elim (motive_1 := fun e => onL' k e = true → ∃ x, e = .list x ∧ k x = true) e (pick_inv h) (fun x h => ⟨x, rfl, h⟩) h
noncomputable def onT' (k : List PyData → Bool) (e : PyData) : Bool := pick e.ctorIdx 5 fun q => PyData.tuple.elim (motive_1 := fun _ => Bool) e q k
theorem onT_inv {k : List PyData → Bool} {e : PyData} (h : onT' k e = true) : ∃ x, e = .tuple x ∧ k x = true :=
  PyData.tuple.elim (motive_1 := fun e => onT' k e = true → ∃ x, e = .tuple x ∧ k x = true) e (pick_inv h) (fun x h => ⟨x, rfl, h⟩) h
noncomputable def onCB' (k : Bool → Bool) (e : Const) : Bool := pick e.ctorIdx 1 fun q => Const.bool.elim (motive := fun _ => Bool) e q k
theorem onCB_inv {k : Bool → Bool} {e : Const} (h : onCB' k e = true) : ∃ x, e = .bool x ∧ k x = true :=
  Const.bool.elim (motive := fun e => onCB' k e = true → ∃ x, e = .bool x ∧ k x = true) e (pick_inv h) (fun x h => ⟨x, rfl, h⟩) h
noncomputable def onCI' (k : Int → Bool) (e : Const) : Bool := pick e.ctorIdx 2 fun q => Const.int.elim (motive := fun _ => Bool) e q k
theorem onCI_inv {k : Int → Bool} {e : Const} (h : onCI' k e = true) : ∃ x, e = .int x ∧ k x = true :=
  Const.int.elim (motive := fun e => onCI' k e = true → ∃ x, e = .int x ∧ k x = true) e (pick_inv h) (fun x h => ⟨x, rfl, h⟩) h
noncomputable def onCS' (k : Str → Bool) (e : Const) : Bool := pick e.ctorIdx 5 fun q => Const.str.elim (motive := fun _ => Bool) e q k
theorem onCS_inv {k : Str → Bool} {e : Const} (h : onCS' k e = true) : ∃ x, e = .str x ∧ k x = true :=
  Const.str.elim (motive := fun e => onCS' k e = true → ∃ x, e = .str x ∧ k x = true) e (pick_inv h) (fun x h => ⟨x, rfl, h⟩) h
noncomputable def constOk : PyData → Const → Bool
  | .none, k => isNoneK k
  | .bool a, k => onCB' (fun b => a == b) k
  | .int a, k => onCI' (fun b => a == b) k
  | .str a, k => onCS' (fun b => a == b && decide (a.length ≤ limit)) k
  | .list _, _ => false
  | .tuple _, _ => false
  | .dict _, _ => false

mutual
noncomputable def dEq : PyData → PyData → Bool
  | .none, b => dNone b
  | .bool a, b => onB' (fun b => a == b) b
  | .int a, b => onI' (fun b => a == b) b
  | .str a, b => onS' (fun b => a == b) b
  | .list a, b => onL' (fun b => dEqs a b) b
  | .tuple a, b => onT' (fun b => dEqs a b) b
  | .dict _, _ => false
noncomputable def dEqs : List PyData → List PyData → Bool
  | [], b => on0 b
  | a :: r, b => onCons (fun b q => dEq a b && dEqs r q) b
end
mutual
theorem dEq_eq : ∀ {a b : PyData}, dEq a b = true → a = b
  | .none, b, h => (dNone_inv h).symm
  | .bool a, b, h => by obtain ⟨x, rfl, k⟩ := onB_inv h; rw [beq_iff_eq.mp k]
  | .int a, b, h => by obtain ⟨x, rfl, k⟩ := onI_inv h; rw [beq_iff_eq.mp k]
  | .str a, b, h => by obtain ⟨x, rfl, k⟩ := onS_inv h; rw [beq_iff_eq.mp k]
  | .list a, b, h => by obtain ⟨x, rfl, k⟩ := onL_inv h; rw [dEqs_eq k]
  | .tuple a, b, h => by obtain ⟨x, rfl, k⟩ := onT_inv h; rw [dEqs_eq k]
theorem dEqs_eq : ∀ {a b : List PyData}, dEqs a b = true → a = b
  | [], b, h => (on0_inv h).symm
  | a :: r, b, h => by
    obtain ⟨x, q, rfl, k⟩ := onCons_inv h
    rw [dEq_eq (both k).1, dEqs_eq (both k).2]
end
noncomputable def isD (d : PyData) : Option PyData → Bool := onSome fun d' => dEq d' d

noncomputable def isCall (e : Expr) : Bool := onCall (fun _ _ _ _ => true) e
noncomputable def isStrC (p : PE) : Bool := pick p.ctorIdx 1 fun q => PE.cst.elim (motive_1 := fun _ => Bool) p q fun d => onS' (fun _ => true) d
/-- what is left of a chain of tests -/
noncomputable def rest (o : BoolOp) (p : Pos) (y : Expr) : List Expr → Expr
  | [] => y
  | z :: q => .BoolOp o (y :: z :: q) p
/-- type(x) -/
noncomputable def isTyC (c : Cx) (k : Expr → Bool) (e : Expr) : Bool := onCall (fun f xs ks _ => onName (fun f => isBt c f (.type "type")) f && on0 ks && on1 (fun x => plainArg x && k x) xs) e
theorem isTyC_inv {c : Cx} {k : Expr → Bool} {e : Expr} (h : isTyC c k e = true) : ∃ f fp x cp, e = .Call (.Name f fp) [x] [] cp ∧ isBt c f (.type "type") = true ∧ plainArg x = true ∧ k x = true := by
  obtain ⟨f, xs, ks, cp, rfl, k7⟩ := onCall_inv h
  obtain ⟨k8, k9⟩ := both k7
  obtain ⟨k10, k11⟩ := both k8
  obtain ⟨f', fp, rfl, ok1⟩ := onName_inv k10
  obtain rfl := on0_inv k11
  obtain ⟨x, rfl, k12⟩ := on1_inv k9
  obtain ⟨ok2, ok3⟩ := both k12
  exact ⟨_, _, _, _, rfl, ok1, ok2, ok3⟩
mutual
/-- an expression of the program stands for a piece of the little language -/
noncomputable def okE (c : Cx) : PE → Expr → Bool
  | .loc i, e => onName (fun x => c.ns[i]? == some x && kindIs c x .local) e
  | .cst d, e => onConst (fun k => constOk d k) e || onName (fun x => kindIs c x .globalImplicit && isD d (c.gl.lookup x)) e
  | .bin op a b, e => onBin (fun l o r => o == opOf op && okE c a l && okE c b r) e
  | .neg a, e => onUn (fun o x => isUSub o && okE c a x) e
  | .not a, e => onUn (fun o x => isNot o && okE c a x) e
  | .and a b, e => onBoolOp (fun o xs p => isAnd o && on2r (fun x y r => okE c a x && okE c b (rest .And p y r)) xs) e
  | .or a b, e => onBoolOp (fun o xs p => isOr o && on2r (fun x y r => okE c a x && okE c b (rest .Or p y r)) xs) e
  | .ite t a b, e => onIfE (fun x y z => okE c t x && okE c a y && okE c b z) e
  | .tup es, e => onTup (fun xs _ _ => okEs c es xs && decide (xs.length ≤ 100)) e
  | .lst es, e => onList (fun xs => okEs c es xs && decide (xs.length ≤ 100)) e
  | .cmp op a b, e => onCmp (fun l os rs => on1 (fun o => on1 (fun r => o == cmpOf op && !(behindInMarks o r) && okE c a l && okE c b r) rs) os) e
  | .chain o₁ o₂ a b d, e => onCmp (fun l os rs => on2 (fun p q => on2 (fun r t => p == cmpOf o₁ && q == cmpOf o₂ && !(behindInMarks q t) && okE c a l && okE c b r && okE c d t) rs) os) e
  | .isNone a, e => onCmp (fun l os rs => on1 isIs os && on1 isNoneC rs && okE c a l) e
  | .isNotNone a, e => onCmp (fun l os rs => on1 isIsNot os && on1 isNoneC rs && okE c a l) e
  | .typeIs a t, e => onCmp (fun l os rs => on1 isIs os && on1 (onName fun g => isBt c g (tyValue t)) rs && isTyC c (fun x => okE c a x) l) e
  | .idx a i, e => onSub (fun v s => noSlice s && okE c a v && okE c i s) e
  | .sliceTo a hi, e => onSub (fun v s => onSlice (fun x y z => onNone x && onNone z && onSome (fun u => okE c a v && okE c hi u) y) s) e
  | .sliceFrom a lo, e => onSub (fun v s => onSlice (fun x y z => onNone y && onNone z && onSome (fun u => okE c a v && okE c lo u) x) s) e
  | .slice a lo hi, e => onSub (fun v s => onSlice (fun x y z => onNone z && onSome (fun u => onSome (fun t => okE c a v && okE c lo u && okE c hi t) y) x) s) e
  | .call f args, e => onCall (fun g xs ks _ => onName (fun x => c.fns[f]? == some x && kindIs c x .globalImplicit) g && on0 ks && okEs c args xs) e
  | .b1 f a, e => onCall (fun g xs ks _ => onName (fun x => isBt c x (nameOf1 f)) g && on0 ks && on1 (fun y => plainArg y && okE c a y) xs) e
  | .b2 f a b, e => onCall (fun g xs ks _ => onName (fun x => isBt c x (nameOf2 f)) g && on0 ks && on2 (fun y z => plainArg y && plainArg z && okE c a y && okE c b z) xs) e
  | .join a b, e => onCall (fun g xs ks p => on0 ks && isStrC a && onAttr (fun o n ap => n == ("join" : Str) && noSuper o && ap.endLine == p.line && okE c a o) g && on1 (fun y => plainArg y && okE c b y) xs) e
  | .rstrip a b, e => onCall (fun g xs ks p => on0 ks && isStrC b && onAttr (fun o n ap => n == ("rstrip" : Str) && noSuper o && ap.endLine == p.line && okE c a o) g && on1 (fun y => plainArg y && okE c b y) xs) e
  | .replace a b d, e => isCall e && c.ext (.replace a b d) e
  | .dget ks vs k d, e => isCall e && c.ext (.dget ks vs k d) e
  | .all a b, e => isCall e && c.ext (.all a b) e
  | .anyZip a b d, e => isCall e && c.ext (.anyZip a b d) e
noncomputable def okEs (c : Cx) : List PE → List Expr → Bool
  | [], l => on0 l
  | p :: ps, l => onCons (fun e es => plainArg e && okE c p e && okEs c ps es) l
end
end Mine

namespace Mine
open PySem PySem.Calls PySem.Spec PyProof.Rows PySem.W

/-- what is known of the module's names -/
structure Gx (X : Cfg) (c : Cx) (Fa : Nat → Addr) : Prop where
  names : ∃ mg mb, X.H.Ns mainGlobals mg ∧ X.H.Ns builtinsNs mb ∧
    (∀ f x, c.fns[f]? = some x → mg x = some (.ref (Fa f)) ∧ ∃ o fd, X.H.get? (Fa f) = some o ∧ o.data = .func fd) ∧
    (∀ x d, c.gl.lookup x = some d → ∃ v, mg x = some v ∧ Rd X.H v d) ∧
    (∀ x v, bts.lookup x = some v → mg x = none ∧ mb x = some v)

/-- the state of a frame -/
structure Here (X : Cfg) (c : Cx) (env : Env) (l : List Env) (L : Addr) (ρ : Env') (s : Shared) : Prop where
  w : W X s
  ff : s.heap.FunFrames X.H (env :: l)
  fm : ∃ m, s.heap.Ns L m ∧ ∀ (i : Nat) (d : PyData), ρ[i]? = some (some d) → ∃ x v, c.ns[i]? = some x ∧ m x = some v ∧ Rd s.heap v d

section
variable {X : Cfg} {c : Cx} {env : Env} {l : List Env} {L : Addr} {ρ : Env'} {s s' : Shared} {Fa : Nat → Addr} {C : Calls} {A : Around}
theorem Here.step (h : Here X c env l L ρ s) (o : Ok X [] s s') : Here X c env l L ρ s' := by
  refine ⟨o.2, funFrames_xt o.1 h.ff (fun _ q => by cases q), ?_⟩
  obtain ⟨m, n, k⟩ := h.fm
  refine ⟨m, o.1.ns n (fun q => by cases q), fun i d e => ?_⟩
  obtain ⟨x, v, e1, e2, r⟩ := k i d e
  exact ⟨x, v, e1, e2, r.xt o.1⟩

theorem Wh.ns {h : Heap} {a : Addr} {m : Str → Option Value} (x : Wh X h) (n : X.H.Ns a m) : h.Ns a m := by
  obtain ⟨o, es, ep, ho, hd, r⟩ := n
  exact ⟨o, es, ep, x.old _ _ ho (.inr fun vs q => by rw [hd] at q; cases q), hd, r⟩
theorem Wh.rd {h : Heap} {v : Value} {d : PyData} (x : Wh X h) (r : Rd X.H v d) : Rd h v d :=
  r.move fun b o vs n e hd hc => ⟨o.slots, x.old _ _ e (.inl hc)⟩
theorem Wh.get {h : Heap} {a : Addr} {o : Obj} (x : Wh X h) (e : X.H.get? a = some o) (k : ∀ vs, o.data ≠ .fields vs) : h.get? a = some o := x.old _ _ e (.inr k)

/-- what stands still while a function's text runs -/
structure Sit (X : Cfg) (c : Cx) (Fa : Nat → Addr) (C : Calls) (A : Around) (env : Env) (l : List Env) (L : Addr) : Prop where
  G : Gx X c Fa
  ev : ∃ q a cd, env = envOf q c.sc L a cd
  kind : c.sc.kind = .function
  new : X.H.get? L = none
  fr : A.frames = some (env :: l)
  hh : A.handled = none
  units : A.units + 80 < cLine
  call : ∀ (f : Nat) (vs : List Value) (ds : List PyData) (s : Shared) (Q : Value → Shared → Prop) (E : Value → Shared → Prop), s.heap.FunFrames X.H (env :: l) → W X s → RdAll s.heap vs ds → Sp X RelV [] (env :: l) s Q E (C f ds) →
    wpAny (model X.prog X.w) A (call (.ref (Fa f)) vs) Q E s
  ext : ∀ (p : PE) (e : Expr) (ρ : Env') (s : Shared) (Q : Value → Shared → Prop) (E : Value → Shared → Prop), c.ext p e = true → Here X c env l L ρ s → Sp X RelV [] (env :: l) s Q E (Mine.ev C p ρ) → wpAny (model X.prog X.w) A (eval e env) Q E s

theorem kindIs_eq {x : Str} {k : NameKind} (h : kindIs c x k = true) : c.sc.names.lookup x = some k ∧ (x == ("__debug__" : Str)) = false := by
  unfold kindIs at h
  simp only [Bool.and_eq_true, beq_iff_eq, Bool.not_eq_true'] at h
  exact h

variable {E : Value → Shared → Prop} {Q : Value → Shared → Prop}
theorem load_local {x : Str} {p : Pos} {i : Nat} (T : Sit X c Fa C A env l L) (h : Here X c env l L ρ s) (h1 : c.ns[i]? = some x) (h2 : kindIs c x .local = true) (sp : Sp X RelV [] (env :: l) s Q E (getL ρ i)) :
    wpAny (model X.prog X.w) A (eval (.Name x p) env) Q E s := by
  obtain ⟨m, n, k⟩ := h.fm
  unfold getL at sp
  split at sp
  · rename_i d e
    obtain ⟨y, v, e1, e2, r⟩ := k i d e
    rw [h1] at e1; cases e1
    obtain ⟨q, a, cd, rfl⟩ := T.ev
    obtain ⟨k1, k2⟩ := kindIs_eq h2
    exact wpAny_Name (wpAny_loadName_local T.kind k1 n e2 (sp _ _ (Ok.refl h.w) r)) k2
  · exact sp.elim

theorem load_fn {x : Str} {p : Pos} {f : Nat} (T : Sit X c Fa C A env l L) (w : W X s) (h1 : c.fns[f]? = some x) (h2 : kindIs c x .globalImplicit = true) (h : Q (.ref (Fa f)) s) :
    wpAny (model X.prog X.w) A (eval (.Name x p) env) Q E s := by
  obtain ⟨mg, mb, g, b, fn, gd, bt⟩ := T.G.names
  obtain ⟨q, a, cd, rfl⟩ := T.ev
  obtain ⟨k1, k2⟩ := kindIs_eq h2
  exact Name_function_global T.kind k1 (loadGlobal_global (env := envOf q c.sc L a cd) (w.h.ns g) (fn f x h1).1 h) k2
theorem load_gl {x : Str} {p : Pos} {d : PyData} (T : Sit X c Fa C A env l L) (w : W X s) (h1 : c.gl.lookup x = some d) (h2 : kindIs c x .globalImplicit = true) (sp : Sp X RelV [] (env :: l) s Q E (.ok d)) :
    wpAny (model X.prog X.w) A (eval (.Name x p) env) Q E s := by
  obtain ⟨mg, mb, g, b, fn, gd, bt⟩ := T.G.names
  obtain ⟨v, e1, r⟩ := gd x d h1
  obtain ⟨q, a, cd, rfl⟩ := T.ev
  obtain ⟨k1, k2⟩ := kindIs_eq h2
  exact Name_function_global T.kind k1 (loadGlobal_global (env := envOf q c.sc L a cd) (w.h.ns g) e1 (sp _ _ (Ok.refl w) (w.h.rd r))) k2
theorem load_bt {x : Str} {p : Pos} {v : Value} (T : Sit X c Fa C A env l L) (w : W X s) (h1 : isBt c x v = true) (h : Q v s) :
    wpAny (model X.prog X.w) A (eval (.Name x p) env) Q E s := by
  unfold isBt at h1
  simp only [Bool.and_eq_true, beq_iff_eq] at h1
  obtain ⟨mg, mb, g, b, fn, gd, bt⟩ := T.G.names
  obtain ⟨e1, e2⟩ := bt x v h1.2
  obtain ⟨q, a, cd, rfl⟩ := T.ev
  obtain ⟨k1, k2⟩ := kindIs_eq h1.1
  exact Name_function_global T.kind k1 (loadGlobal_builtin (env := envOf q c.sc L a cd) (w.h.ns g) e1 (w.h.ns b) e2 h) k2

theorem star_plain {e : Expr} {rest : List Expr} {env : Env} (h : plainArg e = true) : starEach (e :: rest) env = (false, eval e env) :: starEach rest env := by
  cases e <;> first | rfl | cases h

theorem const_sound {d : PyData} {k : Const} {n : Nat} {p : Pos} (w : W X s) (hk : constOk d k = true) (sp : Sp X RelV [] (env :: l) s Q E (.ok d)) : wpAny (model X.prog X.w) A (eval (.Constant k n p) env) Q E s := by
  cases d with
  | none => rw [isNoneK_inv hk]; exact wpAny_Constant_none (sp _ _ (Ok.refl w) .none)
  | bool a => obtain ⟨x, rfl, q⟩ := onCB_inv hk; rw [← beq_iff_eq.mp q]; exact wpAny_Constant_bool (sp _ _ (Ok.refl w) (.bool _))
  | int a => obtain ⟨x, rfl, q⟩ := onCI_inv hk; rw [← beq_iff_eq.mp q]; exact wpAny_Constant_int (sp_int w (Nat.le_succ _) sp)
  | str a => obtain ⟨x, rfl, q⟩ := onCS_inv hk; rw [← beq_iff_eq.mp (both q).1]; exact wpAny_Constant_str (sp_str w (Nat.le_succ _) (of_decide_eq_true (both q).2) sp)
  | _ => cases hk

/-- the truth of a datum -/
theorem truthy_sound {v : Value} {d : PyData} {Q : Bool → Shared → Prop} (w : W X s) (r : Rd s.heap v d) (sp : Sp X RelB [] (env :: l) s Q E (truthy d)) : wpAny (model X.prog X.w) A (PySem.truthy v) Q E s := by
  cases r with
  | bool b => exact wpAny_truthy_bool (sp _ _ (Ok.refl w) rfl)
  | _ => exact sp.elim

end
end Mine

namespace Mine
open PySem PySem.Calls PySem.Spec PyProof.Rows PySem.W

section
variable {X : Cfg} {c : Cx} {env : Env} {l : List Env} {L : Addr} {ρ : Env'} {Fa : Nat → Addr} {C : Calls} {A : Around}

noncomputable def EvOk (X : Cfg) (c : Cx) (C : Calls) (A : Around) (env : Env) (l : List Env) (L : Addr) (ρ : Env') (p : PE) : Prop :=
  ∀ (e : Expr) (s : Shared) (Q : Value → Shared → Prop) (E : Value → Shared → Prop), okE c p e = true → Here X c env l L ρ s → Sp X RelV [] (env :: l) s Q E (ev C p ρ) → wpAny (model X.prog X.w) A (eval e env) Q E s
noncomputable def TestOk (X : Cfg) (c : Cx) (C : Calls) (A : Around) (env : Env) (l : List Env) (L : Addr) (ρ : Env') (p : PE) : Prop :=
  ∀ (e : Expr) (s : Shared) (Q : Bool → Shared → Prop) (E : Value → Shared → Prop), okE c p e = true → Here X c env l L ρ s → Sp X RelB [] (env :: l) s Q E ((ev C p ρ).bind truthy) → wpAny (model X.prog X.w) A (isTrue e env (eval e env)) Q E s
noncomputable def EvsOk (X : Cfg) (c : Cx) (C : Calls) (A : Around) (env : Env) (l : List Env) (L : Addr) (ρ : Env') (ps : List PE) : Prop :=
  ∀ (es : List Expr) (pos : Pos) (s : Shared) (Q : List Value → Shared → Prop) (E : Value → Shared → Prop), okEs c ps es = true → Here X c env l L ρ s → Sp X RelVs [] (env :: l) s Q E (evs C ps ρ) → wpAny (model X.prog X.w) A (spliced (backTo pos (starEach es env))) Q E s

theorem nilS {env : Env} {l : List Env} : ∀ a ∈ ([] : List Addr), a ∈ fr (env :: l) := fun _ q => by cases q

theorem spExc {α β γ δ : Type} {Rel : Shared → β → α → Prop} {Rel' : Shared → δ → γ → Prop} {S : List Addr} {s : Shared} {Q : β → Shared → Prop} {Q' : δ → Shared → Prop} {E : Value → Shared → Prop} {b : Bool} (h : Sp X Rel S l s Q E (.exc b)) : Sp X Rel' S l s Q' E (.exc b) := by
  cases b <;> exact h
theorem Sp.bindE {α β γ δ : Type} {Rel : Shared → β → α → Prop} {Rel' : Shared → δ → γ → Prop} {S : List Addr} {s : Shared} {Q : β → Shared → Prop} {E : Value → Shared → Prop} {Q' : δ → Shared → Prop} {r : R γ} {f : γ → R α} (x : Sp X Rel S l s Q E (r.bind f)) (hS : ∀ a ∈ S, a ∈ fr l)
    (k : ∀ c v s₁, r = .ok c → Ok X S s s₁ → Rel' s₁ v c → Sp X Rel S l s₁ Q E (f c) → Q' v s₁) : Sp X Rel' S l s Q' E r := by
  match r, x with
  | .ok c, x => exact fun v s' o rel => k c v s' rfl o rel (Sp.pre x o hS)
  | .exc false, x => exact x
  | .exc true, x => exact x
theorem okEs_length {c : Cx} : ∀ {ps : List PE} {es : List Expr}, okEs c ps es = true → ps.length = es.length
  | [], es, h => by rw [on0_inv h]; rfl
  | p :: ps, es, h => by
    obtain ⟨e, r, rfl, k⟩ := onCons_inv h
    exact congrArg (· + 1) (okEs_length (both k).2)
theorem either {a b : Bool} (h : (a || b) = true) : a = true ∨ b = true := Bool.or_eq_true_iff.mp h
theorem notT {b : Bool} (h : (!b) = true) : b = false := by cases b <;> first | rfl | cases h
theorem isStrC_ev {a : PE} (h : isStrC a = true) (C : Calls) (ρ : Env') : ∃ x, ev C a ρ = .ok (.str x) :=
  PE.cst.elim (motive_1 := fun a => isStrC a = true → ∃ x, ev C a ρ = .ok (.str x)) a (pick_inv h) (fun d h => by obtain ⟨x, rfl, _⟩ := onS_inv h; exact ⟨x, rfl⟩) h
theorem evs_length {C : Calls} {ρ : Env'} : ∀ {ps : List PE} {ds : List PyData}, evs C ps ρ = .ok ds → ds.length = ps.length
  | [], ds, h => by simp only [evs] at h; cases h; rfl
  | p :: ps, ds, h => by
    simp only [evs] at h
    cases e : ev C p ρ with
    | ok d =>
      rw [e, R.bind_ok] at h
      cases e2 : evs C ps ρ with
      | ok q =>
        rw [e2, R.bind_ok] at h
        cases h
        simp [evs_length e2]
      | exc b => rw [e2] at h; cases h
      | stuck => rw [e2] at h; cases h
    | exc b => rw [e] at h; cases h
    | stuck => rw [e] at h; cases h
/-- a test whose truth is its value's -/
theorem test_plain {p : PE} {e : Expr} {s : Shared} {Q : Bool → Shared → Prop} {E : Value → Shared → Prop} (he : isTrue e env (eval e env) = (do let v ← eval e env; standAt e.pos; holding [v] (PySem.truthy v)))
    (i : EvOk X c C A env l L ρ p) (ok : okE c p e = true) (h : Here X c env l L ρ s) (sp : Sp X RelB [] (env :: l) s Q E ((ev C p ρ).bind truthy)) : wpAny (model X.prog X.w) A (isTrue e env (eval e env)) Q E s :=
  isTrue_plain (i e s _ E ok h (Sp.bind sp nilS fun d v s₁ o r sp' => truthy_sound o.2 r sp')) he

theorem method_one {o e : Expr} {name : Str} {apos pos : Pos} {env : Env} (h1 : noSuper o = true) (h2 : (apos.endLine == pos.line) = true) (h3 : plainArg e = true) :
    eval (.Call (.Attribute o name apos) [e] [] pos) env = (do
      let ov ← eval o env
      standAt apos.atName
      let (f, first) ← holding [ov] (getMethod ov name (do return (← importBound o env).getD true))
      callWith pos f first (backTo pos (starEach [e] env)) []) := by
  have ha : attributeBase o name env (eval o env) = eval o env := by
    unfold attributeBase
    split
    · cases h1
    · rfl
  show (do
    let ov ← attributeBase o name env (eval o env)
    standAt apos.atName
    methodCall o name apos pos env ov ([e].length + 0) (backTo pos (starEach [e] env)) (backToKw pos (keywordEach [] env))) = _
  rw [ha]
  rw [star_plain h3]
  unfold methodCall calleeOf methodCallPos
  have hf : methodCallForm ([e].length + 0) (backTo pos ((false, eval e env) :: starEach [] env)) (backToKw pos (keywordEach [] env)) = true := rfl
  rw [hf]
  simp only [if_true, Bool.not_true, Bool.false_or, h2]
  rfl

theorem ofNone {d : PyData} {h : Heap} {v : Value} (r : Rd h v d) : (v == Value.none) = (match d with | .none => true | _ => false) := by
  cases r <;> rfl

theorem typeIs_is {t : Ty} : tyValue t = .type (tyName t) := by cases t <;> rfl

theorem callWith_fn {f : Nat} {es : List Expr} {pos : Pos} {ps : List PE} {s : Shared} {Q : Value → Shared → Prop} {E : Value → Shared → Prop} (T : Sit X c Fa C A env l L) (x : Str) (hx : c.fns[f]? = some x) (i : EvsOk X c C A env l L ρ ps) (ok : okEs c ps es = true) (h : Here X c env l L ρ s)
    (sp : Sp X RelV [] (env :: l) s Q E ((evs C ps ρ).bind fun ds => C f ds)) : wpAny (model X.prog X.w) A (callWith pos (.ref (Fa f)) [] (backTo pos (starEach es env)) []) Q E s := by
  obtain ⟨mg, mb, g, b, fn, gd, bt⟩ := T.G.names
  obtain ⟨_, o, fd, ho, hd⟩ := fn f x hx
  have main : wpAny (model X.prog X.w) A (spliced (backTo pos (starEach es env))) (fun vs s₁ => (s₁.heap.get? (Fa f) = some o ∧ o.data = .func fd) ∧ wpAny (model X.prog X.w) A (call (.ref (Fa f)) vs) Q E s₁) E s :=
    i es pos s _ E ok h (Sp.bind sp nilS fun ds vs s₁ o₁ r sp' => ⟨⟨o₁.2.h.get ho (fun vs q => by rw [hd] at q; cases q), hd⟩, T.call f vs ds s₁ Q E (h.step o₁).ff o₁.2 r sp'⟩)
  cases es with
  | nil =>
    cases ps with
    | cons p ps => cases ok
    | nil =>
      refine callWith_function (o := o) (fd := fd) (PyProof.Rows.evalArgs_none ⟨⟨h.w.h.get ho (fun vs q => by rw [hd] at q; cases q), hd⟩, ?_⟩)
      exact T.call f [] [] s Q E h.ff h.w .nil sp
  | cons e rest =>
    cases ps with
    | nil => cases ok
    | cons p ps =>
      have ok' := both (show (plainArg e && okE c p e && okEs c ps rest) = true from ok)
      rw [star_plain (both ok'.1).1] at main ⊢
      exact callWith_function (o := o) (fd := fd) (evalArgs_plain main)

theorem callWith_n1 {f : B1} {e : Expr} {pos : Pos} {s : Shared} {Q : Value → Shared → Prop} {E : Value → Shared → Prop} (main : ∀ ps : Pos, wpAny (model X.prog X.w) A (spliced (backTo ps (starEach [e] env))) (fun vs s₁ => wpAny (model X.prog X.w) A (call (nameOf1 f) vs) Q E s₁) E s) (hp : plainArg e = true) :
    wpAny (model X.prog X.w) A (callWith pos (nameOf1 f) [] (backTo pos (starEach [e] env)) []) Q E s := by
  match f, main with
  | .len, main => exact callWith_builtin1 (id := "len") (main _) (star_plain hp)
  | .str, main => exact PyProof.Rows.callWith_type1 (T := "str") (main _) (star_plain hp)
  | .int, main => exact PyProof.Rows.callWith_type1 (T := "int") (main _) (star_plain hp)
  | .abs, main => exact callWith_builtin1 (id := "abs") (main _) (star_plain hp)
  | .ord, main => exact callWith_builtin1 (id := "ord") (main _) (star_plain hp)
theorem callWith_n2 {f : B2} {e d : Expr} {pos : Pos} {s : Shared} {Q : Value → Shared → Prop} {E : Value → Shared → Prop} (main : ∀ ps : Pos, wpAny (model X.prog X.w) A (spliced (backTo ps (starEach [e, d] env))) (fun vs s₁ => wpAny (model X.prog X.w) A (call (nameOf2 f) vs) Q E s₁) E s) (hp : plainArg e = true) (hq : plainArg d = true) :
    wpAny (model X.prog X.w) A (callWith pos (nameOf2 f) [] (backTo pos (starEach [e, d] env)) []) Q E s := by
  match f, main with
  | .min, main => exact callWith_builtin1 (id := "min") (main _) (star_plain hp) (by rw [star_plain hq]; rfl)
  | .max, main => exact callWith_builtin1 (id := "max") (main _) (star_plain hp) (by rw [star_plain hq]; rfl)

theorem assocR {α β γ : Type} (r : R α) (f : α → R β) (g : β → R γ) : (r.bind f).bind g = r.bind fun x => (f x).bind g := by cases r <;> rfl

@[elab_as_elim] theorem inv_loc {P : Expr → Prop} {e : Expr} {i : Nat} (ok : okE c (.loc i) e = true) (k : ∀ x p, c.ns[i]? = some x → kindIs c x .local = true → P (.Name x p)) : P e := by
  obtain ⟨x, p, rfl, k0⟩ := onName_inv ok
  obtain ⟨k1, ok2⟩ := both k0
  have ok1 := beq_iff_eq.mp k1
  exact k x p ok1 ok2
@[elab_as_elim] theorem inv_bin {P : Expr → Prop} {e : Expr} {op : BOp} {a b : PE} (ok : okE c (.bin op a b) e = true) (k : ∀ l r p, okE c a l = true → okE c b r = true → P (.BinOp l (opOf op) r p)) : P e := by
  obtain ⟨_, o, _, _, rfl, k0⟩ := onBin_inv ok
  obtain ⟨k1, ok3⟩ := both k0
  obtain ⟨k2, ok2⟩ := both k1
  obtain rfl := beq_iff_eq.mp k2
  exact k _ _ _ ok2 ok3
@[elab_as_elim] theorem inv_neg {P : Expr → Prop} {e : Expr} {a : PE} (ok : okE c (.neg a) e = true) (k : ∀ x p, okE c a x = true → P (.UnaryOp .USub x p)) : P e := by
  obtain ⟨o, x, p, rfl, k0⟩ := onUn_inv ok
  obtain ⟨k1, ok2⟩ := both k0
  obtain rfl := isUSub_inv k1
  exact k _ _ ok2
@[elab_as_elim] theorem inv_not {P : Expr → Prop} {e : Expr} {a : PE} (ok : okE c (.not a) e = true) (k : ∀ x p, okE c a x = true → P (.UnaryOp .Not x p)) : P e := by
  obtain ⟨o, x, p, rfl, k0⟩ := onUn_inv ok
  obtain ⟨k1, ok2⟩ := both k0
  obtain rfl := isNot_inv k1
  exact k _ _ ok2
@[elab_as_elim] theorem inv_and {P : Expr → Prop} {e : Expr} {a b : PE} (ok : okE c (.and a b) e = true) (k : ∀ x y r p, okE c a x = true → okE c b (rest .And p y r) = true → P (.BoolOp .And (x :: y :: r) p)) : P e := by
  obtain ⟨o, xs, p, rfl, k0⟩ := onBoolOp_inv ok
  obtain ⟨k1, k2⟩ := both k0
  obtain rfl := isAnd_inv k1
  obtain ⟨x, y, r, rfl, k3⟩ := on2r_inv k2
  obtain ⟨ok1, ok2⟩ := both k3
  exact k _ _ _ _ ok1 ok2
@[elab_as_elim] theorem inv_or {P : Expr → Prop} {e : Expr} {a b : PE} (ok : okE c (.or a b) e = true) (k : ∀ x y r p, okE c a x = true → okE c b (rest .Or p y r) = true → P (.BoolOp .Or (x :: y :: r) p)) : P e := by
  obtain ⟨o, xs, p, rfl, k0⟩ := onBoolOp_inv ok
  obtain ⟨k1, k2⟩ := both k0
  obtain rfl := isOr_inv k1
  obtain ⟨x, y, r, rfl, k3⟩ := on2r_inv k2
  obtain ⟨ok1, ok2⟩ := both k3
  exact k _ _ _ _ ok1 ok2
@[elab_as_elim] theorem inv_ite {P : Expr → Prop} {e : Expr} {t a b : PE} (ok : okE c (.ite t a b) e = true) (k : ∀ x y z p, okE c t x = true → okE c a y = true → okE c b z = true → P (.IfExp x y z p)) : P e := by
  obtain ⟨x, y, z, p, rfl, k0⟩ := onIfE_inv ok
  obtain ⟨k1, ok3⟩ := both k0
  obtain ⟨ok1, ok2⟩ := both k1
  exact k _ _ _ _ ok1 ok2 ok3
@[elab_as_elim] theorem inv_tup {P : Expr → Prop} {e : Expr} {es : List PE} (ok : okE c (.tup es) e = true) (k : ∀ xs n p, okEs c es xs = true → xs.length ≤ 100 → P (.Tuple xs n p)) : P e := by
  obtain ⟨xs, n, p, rfl, k0⟩ := onTup_inv ok
  obtain ⟨ok1, k1⟩ := both k0
  have ok2 := of_decide_eq_true k1
  exact k _ _ _ ok1 ok2
@[elab_as_elim] theorem inv_lst {P : Expr → Prop} {e : Expr} {es : List PE} (ok : okE c (.lst es) e = true) (k : ∀ xs p, okEs c es xs = true → xs.length ≤ 100 → P (.List xs p)) : P e := by
  obtain ⟨xs, p, rfl, k0⟩ := onList_inv ok
  obtain ⟨ok1, k1⟩ := both k0
  have ok2 := of_decide_eq_true k1
  exact k _ _ ok1 ok2
@[elab_as_elim] theorem inv_cmp {P : Expr → Prop} {e : Expr} {op : COp} {a b : PE} (ok : okE c (.cmp op a b) e = true) (k : ∀ l r p, behindInMarks (cmpOf op) r = false → okE c a l = true → okE c b r = true → P (.Compare l [cmpOf op] [r] p)) : P e := by
  obtain ⟨l', os, rs, p, rfl, k0⟩ := onCmp_inv ok
  obtain ⟨o, rfl, k1⟩ := on1_inv k0
  obtain ⟨r, rfl, k2⟩ := on1_inv k1
  obtain ⟨k3, ok4⟩ := both k2
  obtain ⟨k4, ok3⟩ := both k3
  obtain ⟨k5, k6⟩ := both k4
  obtain rfl := beq_iff_eq.mp k5
  have ok2 := notT k6
  exact k _ _ _ ok2 ok3 ok4
@[elab_as_elim] theorem inv_chain {P : Expr → Prop} {e : Expr} {o₁ o₂ : COp} {a b d : PE} (ok : okE c (.chain o₁ o₂ a b d) e = true) (k : ∀ l r t p, behindInMarks (cmpOf o₂) t = false → okE c a l = true → okE c b r = true → okE c d t = true → P (.Compare l [cmpOf o₁, cmpOf o₂] [r, t] p)) : P e := by
  obtain ⟨l', os, rs, p, rfl, k0⟩ := onCmp_inv ok
  obtain ⟨p1, p2, rfl, k1⟩ := on2_inv k0
  obtain ⟨r1, r2, rfl, k2⟩ := on2_inv k1
  obtain ⟨k3, ok6⟩ := both k2
  obtain ⟨k4, ok5⟩ := both k3
  obtain ⟨k5, ok4⟩ := both k4
  obtain ⟨k6, k7⟩ := both k5
  obtain ⟨k8, k9⟩ := both k6
  obtain rfl := beq_iff_eq.mp k8
  obtain rfl := beq_iff_eq.mp k9
  have ok3 := notT k7
  exact k _ _ _ _ ok3 ok4 ok5 ok6
@[elab_as_elim] theorem inv_isNone {P : Expr → Prop} {e : Expr} {a : PE} (ok : okE c (.isNone a) e = true) (k : ∀ l n q p, okE c a l = true → P (.Compare l [.Is] [.Constant .none n q] p)) : P e := by
  obtain ⟨l', os, rs, p, rfl, k0⟩ := onCmp_inv ok
  obtain ⟨k1, ok2⟩ := both k0
  obtain ⟨k2, k3⟩ := both k1
  obtain ⟨o, rfl, k4⟩ := on1_inv k2
  obtain rfl := isIs_inv k4
  obtain ⟨r, rfl, k5⟩ := on1_inv k3
  obtain ⟨n, q, rfl⟩ := isNoneC_inv k5
  exact k _ _ _ _ ok2
@[elab_as_elim] theorem inv_isNotNone {P : Expr → Prop} {e : Expr} {a : PE} (ok : okE c (.isNotNone a) e = true) (k : ∀ l n q p, okE c a l = true → P (.Compare l [.IsNot] [.Constant .none n q] p)) : P e := by
  obtain ⟨l', os, rs, p, rfl, k0⟩ := onCmp_inv ok
  obtain ⟨k1, ok2⟩ := both k0
  obtain ⟨k2, k3⟩ := both k1
  obtain ⟨o, rfl, k4⟩ := on1_inv k2
  obtain rfl := isIsNot_inv k4
  obtain ⟨r, rfl, k5⟩ := on1_inv k3
  obtain ⟨n, q, rfl⟩ := isNoneC_inv k5
  exact k _ _ _ _ ok2
@[elab_as_elim] theorem inv_typeIs {P : Expr → Prop} {e : Expr} {a : PE} {t : Ty} (ok : okE c (.typeIs a t) e = true) (k : ∀ f fp x cp g gp p, isBt c f (.type "type") = true → plainArg x = true → okE c a x = true → isBt c g (tyValue t) = true → P (.Compare (.Call (.Name f fp) [x] [] cp) [.Is] [.Name g gp] p)) : P e := by
  obtain ⟨l', os, rs, p, rfl, k0⟩ := onCmp_inv ok
  obtain ⟨k1, k2⟩ := both k0
  obtain ⟨k3, k4⟩ := both k1
  obtain ⟨o, rfl, k5⟩ := on1_inv k3
  obtain rfl := isIs_inv k5
  obtain ⟨r, rfl, k6⟩ := on1_inv k4
  obtain ⟨g, gp, rfl, ok4⟩ := onName_inv k6
  obtain ⟨f, fp, x, cp, rfl, ok1, ok2, ok3⟩ := isTyC_inv k2
  exact k _ _ _ _ _ _ _ ok1 ok2 ok3 ok4
@[elab_as_elim] theorem inv_idx {P : Expr → Prop} {e : Expr} {a i : PE} (ok : okE c (.idx a i) e = true) (k : ∀ v u p, noSlice u = true → okE c a v = true → okE c i u = true → P (.Subscript v u p)) : P e := by
  obtain ⟨v', s', p, rfl, k0⟩ := onSub_inv ok
  obtain ⟨k1, ok3⟩ := both k0
  obtain ⟨ok1, ok2⟩ := both k1
  exact k _ _ _ ok1 ok2 ok3
@[elab_as_elim] theorem inv_sliceTo {P : Expr → Prop} {e : Expr} {a hi : PE} (ok : okE c (.sliceTo a hi) e = true) (k : ∀ v u q p, okE c a v = true → okE c hi u = true → P (.Subscript v (.Slice none (some u) none q) p)) : P e := by
  obtain ⟨v', s', p, rfl, k0⟩ := onSub_inv ok
  obtain ⟨x, y, z, q, rfl, k1⟩ := onSlice_inv k0
  obtain ⟨k2, k3⟩ := both k1
  obtain ⟨k4, k5⟩ := both k2
  obtain rfl := onNone_inv k4
  obtain rfl := onNone_inv k5
  obtain ⟨u', rfl, k6⟩ := onSome_inv k3
  obtain ⟨ok1, ok2⟩ := both k6
  exact k _ _ _ _ ok1 ok2
@[elab_as_elim] theorem inv_sliceFrom {P : Expr → Prop} {e : Expr} {a lo : PE} (ok : okE c (.sliceFrom a lo) e = true) (k : ∀ v u q p, okE c a v = true → okE c lo u = true → P (.Subscript v (.Slice (some u) none none q) p)) : P e := by
  obtain ⟨v', s', p, rfl, k0⟩ := onSub_inv ok
  obtain ⟨x, y, z, q, rfl, k1⟩ := onSlice_inv k0
  obtain ⟨k2, k3⟩ := both k1
  obtain ⟨k4, k5⟩ := both k2
  obtain rfl := onNone_inv k4
  obtain rfl := onNone_inv k5
  obtain ⟨u', rfl, k6⟩ := onSome_inv k3
  obtain ⟨ok1, ok2⟩ := both k6
  exact k _ _ _ _ ok1 ok2
@[elab_as_elim] theorem inv_slice {P : Expr → Prop} {e : Expr} {a lo hi : PE} (ok : okE c (.slice a lo hi) e = true) (k : ∀ v u t q p, okE c a v = true → okE c lo u = true → okE c hi t = true → P (.Subscript v (.Slice (some u) (some t) none q) p)) : P e := by
  obtain ⟨v', s', p, rfl, k0⟩ := onSub_inv ok
  obtain ⟨x, y, z, q, rfl, k1⟩ := onSlice_inv k0
  obtain ⟨k2, k3⟩ := both k1
  obtain rfl := onNone_inv k2
  obtain ⟨u', rfl, k4⟩ := onSome_inv k3
  obtain ⟨t', rfl, k5⟩ := onSome_inv k4
  obtain ⟨k6, ok3⟩ := both k5
  obtain ⟨ok1, ok2⟩ := both k6
  exact k _ _ _ _ _ ok1 ok2 ok3
@[elab_as_elim] theorem inv_call {P : Expr → Prop} {e : Expr} {f : Nat} {args : List PE} (ok : okE c (.call f args) e = true) (k : ∀ x xp xs p, c.fns[f]? = some x → kindIs c x .globalImplicit = true → okEs c args xs = true → P (.Call (.Name x xp) xs [] p)) : P e := by
  obtain ⟨g, xs, ks, p, rfl, k0⟩ := onCall_inv ok
  obtain ⟨k1, ok3⟩ := both k0
  obtain ⟨k2, k3⟩ := both k1
  obtain ⟨x, xp, rfl, k4⟩ := onName_inv k2
  obtain rfl := on0_inv k3
  obtain ⟨k5, ok2⟩ := both k4
  have ok1 := beq_iff_eq.mp k5
  exact k _ _ _ _ ok1 ok2 ok3
@[elab_as_elim] theorem inv_b1 {P : Expr → Prop} {e : Expr} {f : B1} {a : PE} (ok : okE c (.b1 f a) e = true) (k : ∀ x xp y p, isBt c x (nameOf1 f) = true → plainArg y = true → okE c a y = true → P (.Call (.Name x xp) [y] [] p)) : P e := by
  obtain ⟨g, xs, ks, p, rfl, k0⟩ := onCall_inv ok
  obtain ⟨k1, k9⟩ := both k0
  obtain ⟨k2, k3⟩ := both k1
  obtain ⟨x, xp, rfl, ok1⟩ := onName_inv k2
  obtain rfl := on0_inv k3
  obtain ⟨y, rfl, k4⟩ := on1_inv k9
  obtain ⟨ok2, ok3⟩ := both k4
  exact k _ _ _ _ ok1 ok2 ok3
@[elab_as_elim] theorem inv_b2 {P : Expr → Prop} {e : Expr} {f : B2} {a b : PE} (ok : okE c (.b2 f a b) e = true) (k : ∀ x xp y z p, isBt c x (nameOf2 f) = true → plainArg y = true → plainArg z = true → okE c a y = true → okE c b z = true → P (.Call (.Name x xp) [y, z] [] p)) : P e := by
  obtain ⟨g, xs, ks, p, rfl, k0⟩ := onCall_inv ok
  obtain ⟨k1, k9⟩ := both k0
  obtain ⟨k2, k3⟩ := both k1
  obtain ⟨x, xp, rfl, ok1⟩ := onName_inv k2
  obtain rfl := on0_inv k3
  obtain ⟨y, z, rfl, k4⟩ := on2_inv k9
  obtain ⟨k5, ok5⟩ := both k4
  obtain ⟨k6, ok4⟩ := both k5
  obtain ⟨ok2, ok3⟩ := both k6
  exact k _ _ _ _ _ ok1 ok2 ok3 ok4 ok5
@[elab_as_elim] theorem inv_join {P : Expr → Prop} {e : Expr} {a b : PE} (ok : okE c (.join a b) e = true) (k : ∀ o ap y p, isStrC a = true → noSuper o = true → (ap.endLine == p.line) = true → plainArg y = true → okE c a o = true → okE c b y = true → P (.Call (.Attribute o ("join" : Str) ap) [y] [] p)) : P e := by
  obtain ⟨g, xs, ks, p, rfl, k0⟩ := onCall_inv ok
  obtain ⟨k1, k2⟩ := both k0
  obtain ⟨k3, k4⟩ := both k1
  obtain ⟨k5, ok0⟩ := both k3
  obtain rfl := on0_inv k5
  obtain ⟨o, n, ap, rfl, k6⟩ := onAttr_inv k4
  obtain ⟨k7, ok5⟩ := both k6
  obtain ⟨k8, ok3⟩ := both k7
  obtain ⟨k9, ok2⟩ := both k8
  obtain rfl := beq_iff_eq.mp k9
  obtain ⟨y, rfl, k10⟩ := on1_inv k2
  obtain ⟨ok4, ok6⟩ := both k10
  exact k _ _ _ _ ok0 ok2 ok3 ok4 ok5 ok6
@[elab_as_elim] theorem inv_rstrip {P : Expr → Prop} {e : Expr} {a b : PE} (ok : okE c (.rstrip a b) e = true) (k : ∀ o ap y p, isStrC b = true → noSuper o = true → (ap.endLine == p.line) = true → plainArg y = true → okE c a o = true → okE c b y = true → P (.Call (.Attribute o ("rstrip" : Str) ap) [y] [] p)) : P e := by
  obtain ⟨g, xs, ks, p, rfl, k0⟩ := onCall_inv ok
  obtain ⟨k1, k2⟩ := both k0
  obtain ⟨k3, k4⟩ := both k1
  obtain ⟨k5, ok0⟩ := both k3
  obtain rfl := on0_inv k5
  obtain ⟨o, n, ap, rfl, k6⟩ := onAttr_inv k4
  obtain ⟨k7, ok5⟩ := both k6
  obtain ⟨k8, ok3⟩ := both k7
  obtain ⟨k9, ok2⟩ := both k8
  obtain rfl := beq_iff_eq.mp k9
  obtain ⟨y, rfl, k10⟩ := on1_inv k2
  obtain ⟨ok4, ok6⟩ := both k10
  exact k _ _ _ _ ok0 ok2 ok3 ok4 ok5 ok6
set_option maxHeartbeats 1000000 in
mutual
theorem sound (T : Sit X c Fa C A env l L) : ∀ p : PE, EvOk X c C A env l L ρ p ∧ TestOk X c C A env l L ρ p
  | .loc i => by
    have I : EvOk X c C A env l L ρ (.loc i) := fun e s Q E ok h sp => by
      refine inv_loc ok fun x p ok1 ok2 => ?_
      exact load_local T h ok1 ok2 sp
    refine ⟨I, fun e s Q E ok h sp => test_plain ?_ I ok h sp⟩
    exact inv_loc ok fun _ _ _ _ => rfl
  | .cst d => by
    have I : EvOk X c C A env l L ρ (.cst d) := fun e s Q E ok h sp => by
      rcases either ok with q | q
      · obtain ⟨k, n, p, rfl, k0⟩ := onConst_inv q
        exact const_sound h.w k0 sp
      · obtain ⟨x, p, rfl, k0⟩ := onName_inv q
        obtain ⟨ok1, ok2⟩ := both k0
        obtain ⟨d', e', k1⟩ := onSome_inv ok2
        rw [dEq_eq k1] at e'
        exact load_gl T h.w e' ok1 sp
    refine ⟨I, fun e s Q E ok h sp => test_plain ?_ I ok h sp⟩
    rcases either ok with q | q
    · obtain ⟨k, n, p, rfl, k0⟩ := onConst_inv q
      rfl
    · obtain ⟨x, p, rfl, k0⟩ := onName_inv q
      rfl
  | .bin op a b => by
    have ia := (sound T a).1
    have ib := (sound T b).1
    have I : EvOk X c C A env l L ρ (.bin op a b) := fun e s Q E ok h sp => by
      refine inv_bin ok fun l r p ok2 ok3 => ?_
      exact wpAny_BinOp (ia _ _ _ _ ok2 h (Sp.bind sp nilS fun x v s₁ o₁ r₁ sp₁ => ib _ _ _ _ ok3 (h.step o₁) (Sp.bind sp₁ nilS fun y u s₂ o₂ r₂ sp₂ => binop_sound o₂.2 (r₁.xt o₂.1) r₂ sp₂)))
    refine ⟨I, fun e s Q E ok h sp => test_plain ?_ I ok h sp⟩
    exact inv_bin ok fun _ _ _ _ _ => rfl
  | .neg a => by
    have ia := (sound T a).1
    have I : EvOk X c C A env l L ρ (.neg a) := fun e s Q E ok h sp => by
      refine inv_neg ok fun x p ok2 => ?_
      refine UnaryOp_ (ia _ _ _ _ ok2 h (Sp.bind sp nilS fun x v s₁ o₁ r₁ sp₁ => ?_))
      cases r₁ with
      | int i t => exact PyProof.Rows.neg_int (sp_int o₁.2 (Nat.le_succ _) sp₁)
      | _ => exact sp₁.elim
    refine ⟨I, fun e s Q E ok h sp => test_plain ?_ I ok h sp⟩
    exact inv_neg ok fun _ _ _ => rfl
  | .not a => by
    have ia := (sound T a).1
    have ta := (sound T a).2
    refine ⟨fun e s Q E ok h sp => ?_, fun e s Q E ok h sp => ?_⟩
    · refine inv_not ok fun x p ok2 => ?_
      exact UnaryOp_ (ia _ _ _ _ ok2 h (Sp.bind sp nilS fun x v s₁ o₁ r₁ sp₁ => not_of (truthy_sound o₁.2 r₁ (Sp.bind sp₁ nilS fun t t' s₂ o₂ r₂ sp₂ => by cases r₂; exact sp_bool o₂.2 sp₂))))
    · refine inv_not ok fun x p ok2 => ?_
      refine isTrue_not (ta _ _ _ _ ok2 h ?_)
      simp only [ev] at sp
      revert sp
      cases ev C a ρ with
      | ok x =>
        simp only [R.bind_ok]
        cases truthy x with
        | ok b => exact fun sp v s' o r => by cases r; exact sp _ _ o rfl
        | exc b => exact fun sp => spExc sp
        | stuck => exact fun sp => sp
      | exc b => exact fun sp => spExc sp
      | stuck => exact fun sp => sp
  | .and a b => by
    have ia := (sound T a).1
    have ta := (sound T a).2
    have ib := (sound T b).1
    have tb := (sound T b).2
    refine ⟨fun e s Q E ok h sp => ?_, fun e s Q E ok h sp => ?_⟩
    · refine inv_and ok fun x y r p ok1 ok2 => ?_
      refine BoolOp_and (ia _ _ _ _ ok1 h (Sp.bind sp nilS fun d v s₁ o₁ r₁ sp₁ => truthy_sound o₁.2 r₁ (Sp.bind sp₁ nilS fun t t' s₂ o₂ r₂ sp₂ => ?_)))
      cases r₂
      cases t with
      | true =>
        simp only [if_true]
        cases r with
        | nil => exact BoolOp_one (ib _ _ _ _ ok2 ((h.step o₁).step o₂) sp₂)
        | cons z q => exact ib _ _ _ _ ok2 ((h.step o₁).step o₂) sp₂
      | false => exact sp₂ _ _ (Ok.refl o₂.2) (r₁.xt o₂.1)
    · refine inv_and ok fun x y r p ok1 ok2 => ?_
      refine isTrue_and (ta _ _ _ _ ok1 h ?_)
      simp only [ev] at sp
      revert sp
      cases ev C a ρ with
      | ok d =>
        simp only [R.bind_ok]
        cases hd : truthy d with
        | ok t =>
          simp only [R.bind_ok]
          intro sp v s₁ o₁ r₁
          cases r₁
          cases t with
          | true =>
            simp only [if_true]
            have sp' := Sp.pre sp o₁ nilS
            cases r with
            | nil => exact isTrue_and (tb _ _ _ _ ok2 (h.step o₁) ((fun (q : Sp X RelB [] (env :: l) s₁ Q E ((ev C b ρ).bind truthy)) => by
                revert q
                generalize (ev C b ρ).bind truthy = z
                cases z with
                | ok t => intro q v s' o e; cases e; cases t with
                  | true => exact isTrue_and_nil (q _ _ o rfl)
                  | false => exact q _ _ o rfl
                | exc b => exact fun q => spExc q
                | stuck => exact fun q => q) sp'))
            | cons z q => exact tb _ _ _ _ ok2 (h.step o₁) sp'
          | false =>
            have hd' : d = .bool false := by
              unfold truthy at hd; split at hd
              · cases hd; rfl
              · cases hd
            subst hd'
            exact sp _ _ o₁ rfl
        | exc b => exact fun sp => spExc sp
        | stuck => exact fun sp => sp
      | exc b => exact fun sp => spExc sp
      | stuck => exact fun sp => sp
  | .or a b => by
    have ia := (sound T a).1
    have ta := (sound T a).2
    have ib := (sound T b).1
    have tb := (sound T b).2
    refine ⟨fun e s Q E ok h sp => ?_, fun e s Q E ok h sp => ?_⟩
    · refine inv_or ok fun x y r p ok1 ok2 => ?_
      refine BoolOp_or (ia _ _ _ _ ok1 h (Sp.bind sp nilS fun d v s₁ o₁ r₁ sp₁ => truthy_sound o₁.2 r₁ (Sp.bind sp₁ nilS fun t t' s₂ o₂ r₂ sp₂ => ?_)))
      cases r₂
      cases t with
      | false =>
        simp only [Bool.false_eq_true, if_false]
        cases r with
        | nil => exact BoolOp_one (ib _ _ _ _ ok2 ((h.step o₁).step o₂) sp₂)
        | cons z q => exact ib _ _ _ _ ok2 ((h.step o₁).step o₂) sp₂
      | true => exact sp₂ _ _ (Ok.refl o₂.2) (r₁.xt o₂.1)
    · refine inv_or ok fun x y r p ok1 ok2 => ?_
      refine isTrue_or (ta _ _ _ _ ok1 h ?_)
      simp only [ev] at sp
      revert sp
      cases ev C a ρ with
      | ok d =>
        simp only [R.bind_ok]
        cases hd : truthy d with
        | ok t =>
          simp only [R.bind_ok]
          intro sp v s₁ o₁ r₁
          cases r₁
          cases t with
          | false =>
            simp only [Bool.false_eq_true, if_false]
            have sp' := Sp.pre sp o₁ nilS
            cases r with
            | nil => exact isTrue_or (tb _ _ _ _ ok2 (h.step o₁) ((fun (q : Sp X RelB [] (env :: l) s₁ Q E ((ev C b ρ).bind truthy)) => by
                revert q
                generalize (ev C b ρ).bind truthy = z
                cases z with
                | ok t => intro q v s' o e; cases e; cases t with
                  | true => exact q _ _ o rfl
                  | false => exact isTrue_or_nil (q _ _ o rfl)
                | exc b => exact fun q => spExc q
                | stuck => exact fun q => q) sp'))
            | cons z q => exact tb _ _ _ _ ok2 (h.step o₁) sp'
          | true =>
            have hd' : d = .bool true := by
              unfold truthy at hd; split at hd
              · cases hd; rfl
              · cases hd
            subst hd'
            exact sp _ _ o₁ rfl
        | exc b => exact fun sp => spExc sp
        | stuck => exact fun sp => sp
      | exc b => exact fun sp => spExc sp
      | stuck => exact fun sp => sp
  | .ite t a b => by
    have tt := (sound T t).2
    have ia := (sound T a).1
    have ib := (sound T b).1
    have ta := (sound T a).2
    have tb := (sound T b).2
    have assoc : ∀ {α β γ : Type} (r : R α) (f : α → R β) (g : β → R γ), (r.bind f).bind g = r.bind fun x => (f x).bind g := fun r f g => by cases r <;> rfl
    refine ⟨fun e s Q E ok h sp => ?_, fun e s Q E ok h sp => ?_⟩
    · refine inv_ite ok fun x y z p ok1 ok2 ok3 => ?_
      simp only [ev] at sp
      rw [← assoc] at sp
      refine wpAny_IfExp (tt _ _ _ _ ok1 h (Sp.bind sp nilS fun x v s₁ o₁ r₁ sp₁ => ?_))
      cases r₁
      cases x with
      | true => simp only [if_true]; exact ia _ _ _ _ ok2 (h.step o₁) sp₁
      | false => simp only [Bool.false_eq_true, if_false]; exact ib _ _ _ _ ok3 (h.step o₁) sp₁
    · refine inv_ite ok fun x y z p ok1 ok2 ok3 => ?_
      simp only [ev] at sp
      rw [← assoc, assoc] at sp
      refine isTrue_IfExp (tt _ _ _ _ ok1 h (Sp.bind sp nilS fun x v s₁ o₁ r₁ sp₁ => ?_))
      cases r₁
      cases x with
      | true => simp only [if_true]; exact ta _ _ _ _ ok2 (h.step o₁) sp₁
      | false => simp only [Bool.false_eq_true, if_false]; exact tb _ _ _ _ ok3 (h.step o₁) sp₁
  | .tup es => by
    have is := sounds T es
    have I : EvOk X c C A env l L ρ (.tup es) := fun e s Q E ok h sp => by
      refine inv_tup ok fun xs n p ok1 ok2 => ?_
      refine wpAny_Tuple (is _ _ _ _ _ ok1 h (Sp.bindE sp nilS fun ds vs s₁ e₁ o₁ r₁ sp₁ => ?_))
      have hl := okEs_length ok1
      have hl2 := r₁.length
      have hl3 := evs_length e₁
      exact ⟨by rw [sizeLine_limit]; unfold limit; lia, tuple_new o₁.2 (by first | assumption | exact Nat.le_add_left _ _ | decide | lia) r₁ sp₁⟩
    refine ⟨I, fun e s Q E ok h sp => test_plain ?_ I ok h sp⟩
    exact inv_tup ok fun _ _ _ _ _ => rfl
  | .lst es => by
    have is := sounds T es
    have I : EvOk X c C A env l L ρ (.lst es) := fun e s Q E ok h sp => by
      refine inv_lst ok fun xs p ok1 ok2 => ?_
      refine wpAny_List (is _ _ _ _ _ ok1 h (Sp.bindE sp nilS fun ds vs s₁ e₁ o₁ r₁ sp₁ => ?_))
      have hl := okEs_length ok1
      have hl2 := r₁.length
      have hl3 := evs_length e₁
      exact ⟨by rw [sizeLine_limit]; unfold limit; lia, list_new o₁.2 (by first | assumption | exact Nat.le_add_left _ _ | decide | lia) r₁ sp₁⟩
    refine ⟨I, fun e s Q E ok h sp => test_plain ?_ I ok h sp⟩
    exact inv_lst ok fun _ _ _ _ => rfl
  | .cmp op a b => by
    have ia := (sound T a).1
    have ib := (sound T b).1
    have hu : A.units + 70 < cLine := Nat.lt_of_le_of_lt (by first | assumption | exact Nat.le_add_left _ _ | decide | lia) T.units
    refine ⟨fun e s Q E ok h sp => ?_, fun e s Q E ok h sp => ?_⟩
    · refine inv_cmp ok fun l r p ok2 ok3 ok4 => ?_
      exact wpAny_Compare1 (ia _ _ _ _ ok3 h (Sp.bind sp nilS fun x v s₁ o₁ r₁ sp₁ => ib _ _ _ _ ok4 (h.step o₁) (Sp.bind sp₁ nilS fun y u s₂ o₂ r₂ sp₂ => cmpop_sound o₂.2 (r₁.xt o₂.1) r₂ hu sp₂))) ok2
    · refine inv_cmp ok fun l r p ok2 ok3 ok4 => ?_
      simp only [ev] at sp
      rw [assocR] at sp
      refine wpAny_isTrue_Compare1 (ia _ _ _ _ ok3 h (Sp.bind sp nilS fun x v s₁ o₁ r₁ sp₁ => ?_)) ok2
      rw [assocR] at sp₁
      refine ib _ _ _ _ ok4 (h.step o₁) (Sp.bind sp₁ nilS fun y u s₂ o₂ r₂ sp₂ => cmpop_sound o₂.2 (r₁.xt o₂.1) r₂ hu (Sp.bind sp₂ nilS fun z w s₃ o₃ r₃ sp₃ => truthy_sound o₃.2 r₃ sp₃))
  | .chain o₁ o₂ a b d => by
    have ia := (sound T a).1
    have ib := (sound T b).1
    have id := (sound T d).1
    have hu : A.units + 70 < cLine := Nat.lt_of_le_of_lt (by first | assumption | exact Nat.le_add_left _ _ | decide | lia) T.units
    refine ⟨fun e s Q E ok h sp => ?_, fun e s Q E ok h sp => ?_⟩
    · refine inv_chain ok fun l r t p ok3 ok4 ok5 ok6 => ?_
      refine Compare_chain (ia _ _ _ _ ok4 h (Sp.bind sp nilS fun x v s₁ o₁ r₁ sp₁ => chain_link (ib _ _ _ _ ok5 (h.step o₁) (Sp.bind sp₁ nilS fun y u s₂ o₂ r₂ sp₂ => cmpop_sound o₂.2 (r₁.xt o₂.1) r₂ hu
        (Sp.bind sp₂ nilS fun z w s₃ o₃ r₃ sp₃ => truthy_sound o₃.2 r₃ (Sp.bind sp₃ nilS fun t t' s₄ o₄ r₄ sp₄ => ?_)))))) (by simpa [lastMarks] using ok3)
      cases r₄
      cases t with
      | true =>
        simp only [if_true]
        exact chain_last (id _ _ _ _ ok6 ((((h.step o₁).step o₂).step o₃).step o₄) (Sp.bind sp₄ nilS fun k kv s₅ o₅ r₅ sp₅ => cmpop_sound o₅.2 (((r₂.xt o₃.1).xt o₄.1).xt o₅.1) r₅ hu sp₅))
      | false => exact sp₄ _ _ (Ok.refl o₄.2) (r₃.xt o₄.1)
    · refine inv_chain ok fun l r t p ok3 ok4 ok5 ok6 => ?_
      simp only [ev, assocR] at sp
      refine isTrue_chain (ia _ _ _ _ ok4 h (Sp.bind sp nilS fun x v s₁ o₁ r₁ sp₁ => test_link (ib _ _ _ _ ok5 (h.step o₁) (Sp.bind sp₁ nilS fun y u s₂ o₂ r₂ sp₂ => cmpop_sound o₂.2 (r₁.xt o₂.1) r₂ hu
        (Sp.bind sp₂ nilS fun z w s₃ o₃ r₃ sp₃ => truthy_sound o₃.2 r₃ (Sp.bindE sp₃ nilS fun t t' s₄ et o₄ r₄ sp₄ => ?_)))))) (by simpa [lastMarks] using ok3)
      cases r₄
      cases t with
      | true =>
        simp only [if_true]
        rw [assocR] at sp₄
        exact test_last (id _ _ _ _ ok6 ((((h.step o₁).step o₂).step o₃).step o₄) (Sp.bind sp₄ nilS fun k kv s₅ o₅ r₅ sp₅ => cmpop_sound o₅.2 (((r₂.xt o₃.1).xt o₄.1).xt o₅.1) r₅ hu (Sp.bind sp₅ nilS fun z' w' s₆ o₆ r₆ sp₆ => truthy_sound o₆.2 r₆ sp₆)))
      | false =>
        have hz : z = .bool false := by
          unfold truthy at et; split at et
          · cases et; rfl
          · cases et
        subst hz
        exact sp₄ _ _ (Ok.refl o₄.2) rfl
  | .isNone a => by
    have ia := (sound T a).1
    refine ⟨fun e s Q E ok h sp => ?_, fun e s Q E ok h sp => ?_⟩
    · refine inv_isNone ok fun l n q p ok2 => ?_
      refine wpAny_Compare1 (ia _ _ _ _ ok2 h (Sp.bind sp nilS fun x v s₁ o₁ r₁ sp₁ => wpAny_Constant_none (is_none ?_))) rfl
      rw [ofNone r₁]
      revert sp₁
      cases x <;> exact fun sp₁ => sp_bool o₁.2 sp₁
    · refine inv_isNone ok fun l n q p ok2 => ?_
      simp only [ev] at sp
      rw [assocR] at sp
      refine wpAny_isTrue_Compare1 (ia _ _ _ _ ok2 h (Sp.bind sp nilS fun x v s₁ o₁ r₁ sp₁ => wpAny_Constant_none (is_none ?_))) rfl
      rw [ofNone r₁]
      revert sp₁
      cases x <;> exact fun sp₁ => wpAny_truthy_bool (sp₁ _ _ (Ok.refl o₁.2) rfl)
  | .isNotNone a => by
    have ia := (sound T a).1
    refine ⟨fun e s Q E ok h sp => ?_, fun e s Q E ok h sp => ?_⟩
    · refine inv_isNotNone ok fun l n q p ok2 => ?_
      refine wpAny_Compare1 (ia _ _ _ _ ok2 h (Sp.bind sp nilS fun x v s₁ o₁ r₁ sp₁ => wpAny_Constant_none (isNot_none ?_))) rfl
      rw [ofNone r₁]
      revert sp₁
      cases x <;> exact fun sp₁ => sp_bool o₁.2 sp₁
    · refine inv_isNotNone ok fun l n q p ok2 => ?_
      simp only [ev] at sp
      rw [assocR] at sp
      refine wpAny_isTrue_Compare1 (ia _ _ _ _ ok2 h (Sp.bind sp nilS fun x v s₁ o₁ r₁ sp₁ => wpAny_Constant_none (isNot_none ?_))) rfl
      rw [ofNone r₁]
      revert sp₁
      cases x <;> exact fun sp₁ => wpAny_truthy_bool (sp₁ _ _ (Ok.refl o₁.2) rfl)
  | .typeIs a t => by
    have ia := (sound T a).1
    refine ⟨fun e s Q E ok h sp => ?_, fun e s Q E ok h sp => ?_⟩
    · refine inv_typeIs ok fun f fp x cp g gp p ok1 ok2 ok3 ok4 => ?_
      refine wpAny_Compare1 (Call_ (load_bt T h.w ok1 (PyProof.Rows.callWith_type1 (args_cons (ia _ _ _ _ ok3 h (Sp.bind sp nilS fun x v s₁ o₁ r₁ sp₁ => args_nil (typeCall_sound r₁ (load_bt T o₁.2 ok4 ?_)))) (star_plain ok2)) (star_plain ok2)))) rfl
      rw [typeIs_is]
      exact typeIs_sound r₁ (sp_bool o₁.2 sp₁)
    · refine inv_typeIs ok fun f fp x cp g gp p ok1 ok2 ok3 ok4 => ?_
      simp only [ev] at sp
      rw [assocR] at sp
      refine wpAny_isTrue_Compare1 (Call_ (load_bt T h.w ok1 (PyProof.Rows.callWith_type1 (args_cons (ia _ _ _ _ ok3 h (Sp.bind sp nilS fun x v s₁ o₁ r₁ sp₁ => args_nil (typeCall_sound r₁ (load_bt T o₁.2 ok4 ?_)))) (star_plain ok2)) (star_plain ok2)))) rfl
      rw [typeIs_is]
      exact typeIs_sound r₁ (wpAny_truthy_bool (sp₁ _ _ (Ok.refl o₁.2) rfl))
  | .idx a i => by
    have ia := (sound T a).1
    have ii := (sound T i).1
    have I : EvOk X c C A env l L ρ (.idx a i) := fun e s Q E ok h sp => by
      refine inv_idx ok fun v u p ok1 ok2 ok3 => ?_
      exact Subscript_ (ia _ _ _ _ ok2 h (Sp.bind sp nilS fun x v s₁ o₁ r₁ sp₁ => ii _ _ _ _ ok3 (h.step o₁) (Sp.bind sp₁ nilS fun y u s₂ o₂ r₂ sp₂ => index_sound o₂.2 (r₁.xt o₂.1) r₂ ok1 sp₂)))
    refine ⟨I, fun e s Q E ok h sp => test_plain ?_ I ok h sp⟩
    exact inv_idx ok fun _ _ _ _ _ _ => rfl
  | .sliceTo a hi => by
    have ia := (sound T a).1
    have ii := (sound T hi).1
    have I : EvOk X c C A env l L ρ (.sliceTo a hi) := fun e s Q E ok h sp => by
      refine inv_sliceTo ok fun v u q p ok1 ok2 => ?_
      refine Subscript_ (ia _ _ _ _ ok1 h (Sp.bind sp nilS fun x v s₁ o₁ r₁ sp₁ => wpAny_Slice (wpAny_pure (ii _ _ _ _ ok2 (h.step o₁) (Sp.bind sp₁ nilS fun y u s₂ o₂ r₂ sp₂ => wpAny_pure ?_)))))
      cases r₂ with
      | int j t =>
        have hk : Ok X [] s₂ { s₂ with heap := s₂.heap.push { cls := .type "slice", data := .fields #[.none, .int j t, .none] } } := Ok.keeps o₂.2 (Nat.le_refl _) fun b o e => Heap.get?_push_of_some _ e
        exact slice_sound hk.2 ((r₁.xt o₂.1).xt hk.1) (Heap.IsSliceOf.new _ _ _ _) .none (.int j t) (Sp.pre sp₂ hk nilS)
      | _ => exact sp₂.elim
    refine ⟨I, fun e s Q E ok h sp => test_plain ?_ I ok h sp⟩
    exact inv_sliceTo ok fun _ _ _ _ _ _ => rfl
  | .sliceFrom a lo => by
    have ia := (sound T a).1
    have ii := (sound T lo).1
    have I : EvOk X c C A env l L ρ (.sliceFrom a lo) := fun e s Q E ok h sp => by
      refine inv_sliceFrom ok fun v u q p ok1 ok2 => ?_
      refine Subscript_ (ia _ _ _ _ ok1 h (Sp.bind sp nilS fun x v s₁ o₁ r₁ sp₁ => wpAny_Slice (ii _ _ _ _ ok2 (h.step o₁) (Sp.bind sp₁ nilS fun y u s₂ o₂ r₂ sp₂ => wpAny_pure (wpAny_pure ?_)))))
      cases r₂ with
      | int j t =>
        have hk : Ok X [] s₂ { s₂ with heap := s₂.heap.push { cls := .type "slice", data := .fields #[.int j t, .none, .none] } } := Ok.keeps o₂.2 (Nat.le_refl _) fun b o e => Heap.get?_push_of_some _ e
        exact slice_sound hk.2 ((r₁.xt o₂.1).xt hk.1) (Heap.IsSliceOf.new _ _ _ _) (.int j t) .none (Sp.pre sp₂ hk nilS)
      | _ => exact sp₂.elim
    refine ⟨I, fun e s Q E ok h sp => test_plain ?_ I ok h sp⟩
    exact inv_sliceFrom ok fun _ _ _ _ _ _ => rfl
  | .slice a lo hi => by
    have ia := (sound T a).1
    have ii := (sound T lo).1
    have ih := (sound T hi).1
    have I : EvOk X c C A env l L ρ (.slice a lo hi) := fun e s Q E ok h sp => by
      refine inv_slice ok fun v u t q p ok1 ok2 ok3 => ?_
      refine Subscript_ (ia _ _ _ _ ok1 h (Sp.bind sp nilS fun x v s₁ o₁ r₁ sp₁ => wpAny_Slice (ii _ _ _ _ ok2 (h.step o₁) (Sp.bind sp₁ nilS fun y u s₂ o₂ r₂ sp₂ => ih _ _ _ _ ok3 ((h.step o₁).step o₂) (Sp.bind sp₂ nilS fun z u' s₃ o₃ r₃ sp₃ => wpAny_pure ?_)))))
      cases r₂ with
      | int j t =>
        cases r₃ with
        | int k t' =>
          have hk : Ok X [] s₃ { s₃ with heap := s₃.heap.push { cls := .type "slice", data := .fields #[.int j t, .int k t', .none] } } := Ok.keeps o₃.2 (Nat.le_refl _) fun b o e => Heap.get?_push_of_some _ e
          exact slice_sound hk.2 (((r₁.xt o₂.1).xt o₃.1).xt hk.1) (Heap.IsSliceOf.new _ _ _ _) (.int j t) (.int k t') (Sp.pre sp₃ hk nilS)
        | _ => exact sp₃.elim
      | _ => revert sp₃; cases z <;> exact fun sp₃ => sp₃.elim
    refine ⟨I, fun e s Q E ok h sp => test_plain ?_ I ok h sp⟩
    exact inv_slice ok fun _ _ _ _ _ _ _ _ => rfl
  | .call f args => by
    have is := sounds T args
    have I : EvOk X c C A env l L ρ (.call f args) := fun e s Q E ok h sp => by
      refine inv_call ok fun x xp xs p ok1 ok2 ok3 => ?_
      exact Call_ (load_fn T h.w ok1 ok2 (callWith_fn T _ ok1 is ok3 h sp))
    refine ⟨I, fun e s Q E ok h sp => test_plain ?_ I ok h sp⟩
    exact inv_call ok fun _ _ _ _ _ _ _ => rfl
  | .b1 f a => by
    have ia := (sound T a).1
    have I : EvOk X c C A env l L ρ (.b1 f a) := fun e s Q E ok h sp => by
      refine inv_b1 ok fun x xp y p ok1 ok2 ok3 => ?_
      refine Call_ (load_bt T h.w ok1 ?_)
      have main : ∀ ps : Pos, wpAny (model X.prog X.w) A (spliced (backTo ps (starEach [_] env))) (fun vs s₁ => wpAny (model X.prog X.w) A (call (nameOf1 f) vs) Q E s₁) E s := fun ps =>
        args_cons (ia _ _ _ _ ok3 h (Sp.bind sp nilS fun x v s₁ o₁ r₁ sp₁ => args_nil (app1_sound o₁.2 r₁ sp₁))) (star_plain ok2)
      exact callWith_n1 main ok2
    refine ⟨I, fun e s Q E ok h sp => test_plain ?_ I ok h sp⟩
    exact inv_b1 ok fun _ _ _ _ _ _ _ => rfl
  | .b2 f a b => by
    have ia := (sound T a).1
    have ib := (sound T b).1
    have I : EvOk X c C A env l L ρ (.b2 f a b) := fun e s Q E ok h sp => by
      refine inv_b2 ok fun x xp y z p ok1 ok2 ok3 ok4 ok5 => ?_
      refine Call_ (load_bt T h.w ok1 ?_)
      have main : ∀ ps : Pos, wpAny (model X.prog X.w) A (spliced (backTo ps (starEach [_, _] env))) (fun vs s₁ => wpAny (model X.prog X.w) A (call (nameOf2 f) vs) Q E s₁) E s := fun ps =>
        args_cons (ia _ _ _ _ ok4 h (Sp.bind sp nilS fun x v s₁ o₁ r₁ sp₁ => args_cons (ib _ _ _ _ ok5 (h.step o₁) (Sp.bind sp₁ nilS fun y u s₂ o₂ r₂ sp₂ => args_nil (app2_sound o₂.2 T.hh (r₁.xt o₂.1) r₂ sp₂))) (star_plain ok3))) (star_plain ok2)
      exact callWith_n2 main ok2 ok3
    refine ⟨I, fun e s Q E ok h sp => test_plain ?_ I ok h sp⟩
    exact inv_b2 ok fun _ _ _ _ _ _ _ _ _ _ => rfl
  | .join a b => by
    have ia := (sound T a).1
    have ib := (sound T b).1
    have I : EvOk X c C A env l L ρ (.join a b) := fun e s Q E ok h sp => by
      refine inv_join ok fun o ap y p ok0 ok2 ok3 ok4 ok5 ok6 => ?_
      refine MethodCall_ (ia _ _ _ _ ok5 h (Sp.bindE sp nilS fun x v s₁ e₁ o₁ r₁ sp₁ => ?_)) (method_one ok2 ok3 ok4)
      cases r₁ with
      | str z t hz =>
        with_reducible refine GM.join ?_
        show wpAny _ _ (callWith _ (.builtin "str.join") [.str z t] _ _) _ _ _
        exact callWith_method1 (id := "str.join") (first := [.str z t]) (args_cons (ib _ _ _ _ ok6 (h.step o₁) (Sp.bind sp₁ nilS fun y u s₂ o₂ r₂ sp₂ => args_nil (join_sound o₂.2 (.str z t hz) r₂ sp₂))) (star_plain ok4)) (star_plain ok4)
      | _ =>
        obtain ⟨w, q⟩ := isStrC_ev ok0 C ρ
        rw [q] at e₁; cases e₁
    refine ⟨I, fun e s Q E ok h sp => test_plain ?_ I ok h sp⟩
    exact inv_join ok fun _ _ _ _ _ _ _ _ _ _ => rfl
  | .rstrip a b => by
    have ia := (sound T a).1
    have ib := (sound T b).1
    have I : EvOk X c C A env l L ρ (.rstrip a b) := fun e s Q E ok h sp => by
      refine inv_rstrip ok fun o ap y p ok0 ok2 ok3 ok4 ok5 ok6 => ?_
      refine MethodCall_ (ia _ _ _ _ ok5 h (Sp.bindE sp nilS fun x v s₁ e₁ o₁ r₁ sp₁ => ?_)) (method_one ok2 ok3 ok4)
      cases r₁ with
      | str z t hz =>
        with_reducible refine GM.rstrip ?_
        show wpAny _ _ (callWith _ (.builtin "str.rstrip") [.str z t] _ _) _ _ _
        exact callWith_method1 (id := "str.rstrip") (first := [.str z t]) (args_cons (ib _ _ _ _ ok6 (h.step o₁) (Sp.bind sp₁ nilS fun y u s₂ o₂ r₂ sp₂ => args_nil (rstrip_sound o₂.2 (.str z t hz) r₂ sp₂))) (star_plain ok4)) (star_plain ok4)
      | _ =>
        obtain ⟨w, q⟩ := isStrC_ev ok0 C ρ
        rw [q] at sp₁; exact sp₁.elim
    refine ⟨I, fun e s Q E ok h sp => test_plain ?_ I ok h sp⟩
    exact inv_rstrip ok fun _ _ _ _ _ _ _ _ _ _ => rfl
  | .replace a b d => by
    have I : EvOk X c C A env l L ρ (.replace a b d) := fun e s Q E ok h sp => T.ext _ _ _ _ _ _ (Bool.and_eq_true_iff.mp (show (isCall e && c.ext (.replace a b d) e) = true from ok)).2 h sp
    refine ⟨I, fun e s Q E ok h sp => test_plain ?_ I ok h sp⟩
    have q := (Bool.and_eq_true_iff.mp (show (isCall e && c.ext (.replace a b d) e) = true from ok)).1
    obtain ⟨_, _, _, _, rfl, _⟩ := onCall_inv q
    rfl
  | .dget ks vs k d => by
    have I : EvOk X c C A env l L ρ (.dget ks vs k d) := fun e s Q E ok h sp => T.ext _ _ _ _ _ _ (Bool.and_eq_true_iff.mp (show (isCall e && c.ext (.dget ks vs k d) e) = true from ok)).2 h sp
    refine ⟨I, fun e s Q E ok h sp => test_plain ?_ I ok h sp⟩
    have q := (Bool.and_eq_true_iff.mp (show (isCall e && c.ext (.dget ks vs k d) e) = true from ok)).1
    obtain ⟨_, _, _, _, rfl, _⟩ := onCall_inv q
    rfl
  | .all a b => by
    have I : EvOk X c C A env l L ρ (.all a b) := fun e s Q E ok h sp => T.ext _ _ _ _ _ _ (Bool.and_eq_true_iff.mp (show (isCall e && c.ext (.all a b) e) = true from ok)).2 h sp
    refine ⟨I, fun e s Q E ok h sp => test_plain ?_ I ok h sp⟩
    have q := (Bool.and_eq_true_iff.mp (show (isCall e && c.ext (.all a b) e) = true from ok)).1
    obtain ⟨_, _, _, _, rfl, _⟩ := onCall_inv q
    rfl
  | .anyZip a b d => by
    have I : EvOk X c C A env l L ρ (.anyZip a b d) := fun e s Q E ok h sp => T.ext _ _ _ _ _ _ (Bool.and_eq_true_iff.mp (show (isCall e && c.ext (.anyZip a b d) e) = true from ok)).2 h sp
    refine ⟨I, fun e s Q E ok h sp => test_plain ?_ I ok h sp⟩
    have q := (Bool.and_eq_true_iff.mp (show (isCall e && c.ext (.anyZip a b d) e) = true from ok)).1
    obtain ⟨_, _, _, _, rfl, _⟩ := onCall_inv q
    rfl
theorem sounds (T : Sit X c Fa C A env l L) : ∀ ps : List PE, EvsOk X c C A env l L ρ ps
  | [] => fun es pos s Q E ok h sp => by
    cases es with
    | nil => exact args_nil (sp _ _ (Ok.refl h.w) .nil)
    | cons e es => cases ok
  | p :: ps => fun es pos s Q E ok h sp => by
    have ip := (sound T p).1
    have ips := sounds T ps
    cases es with
    | nil => cases ok
    | cons e es =>
      obtain ⟨k0, ok3⟩ := both (show (plainArg e && okE c p e && okEs c ps es) = true from ok)
      obtain ⟨ok1, ok2⟩ := both k0
      refine args_cons (ip _ _ _ _ ok2 h (Sp.bind sp nilS fun d v s₁ o₁ r₁ sp₁ => ips _ _ _ _ _ ok3 (h.step o₁) (Sp.bind sp₁ nilS fun ds vs s₂ o₂ r₂ sp₂ => ?_))) (star_plain ok1)
      exact sp₂ _ _ (Ok.refl o₂.2) (.cons (r₁.xt o₂.1) r₂)
end
end
end Mine

namespace Mine
open PySem PySem.Calls PySem.Spec PyProof.Rows PySem.W

noncomputable def semPure {α : Type} (t : Sem α) : Option α := if h : t.ctorIdx = 0 then some (Sem.pure.elim (motive := fun _ => α) t h fun a => a) else none
theorem semPure_eq {α : Type} {t : Sem α} {a : α} (h : semPure t = some a) : t = pure a := by
  by_cases q : t.ctorIdx = 0
  · exact Sem.pure.elim (motive := fun t => semPure t = some a → t = pure a) t q (fun b h => by cases h; rfl) h
  · rw [semPure, dif_neg q] at h; cases h

noncomputable def noComp : Expr → Bool
  | .ListComp .. => false
  | .SetComp .. => false
  | .DictComp .. => false
  | _ => true
theorem noSwap {v : Expr} {t : Option Expr} {n : Nat} {env : Env} (h : noComp v = true) : swapsWith v t n env = pure false := by
  cases v <;> first | rfl | cases h

noncomputable abbrev env0 (c : Cx) : Env := envOf "" c.sc 0 0 .none

/-- names that stand for slots -/
noncomputable def okNames (c : Cx) : List Nat → List Expr → Bool
  | [], l => on0 l
  | i :: is, l => onCons (fun e es => onName (fun x => c.ns[i]? == some x && kindIs c x .local) e && okNames c is es) l
noncomputable def namesOf : List Expr → List Str
  | .Name x _ :: es => x :: namesOf es
  | _ => []
/-- the stores in their order, or against it -/
noncomputable def okSw (ns : List Str) : Option (List Str) → Bool
  | none => true
  | some l => l == ns
noncomputable def okSwap (c : Cx) (ts : List Expr) (k : Nat) (p : Pos) (v : Expr) : Bool := onSome (okSw (namesOf ts)) (semPure (swappedStores [.Tuple ts k p] v (env0 c)))

noncomputable def handV : PE → Option PyData
  | .cst v => some v
  | .tup [] => some (.tuple [])
  | _ => none
noncomputable def handOk (d : PE) (u : Expr) : Bool := onSome (fun v => onConst (constOk v) u || (onT' on0 v && onTup (fun ts _ _ => on0 ts) u)) (handV d)
noncomputable def okName (c : Cx) (i : Nat) : Expr → Bool := onName fun x => c.ns[i]? == some x && kindIs c x .local
noncomputable def okAsg (c : Cx) (i : Nat) (k : Expr → Bool) (s : Stmt) : Bool := onAssign (fun ts v => on1 (okName c i) ts && noComp v && k v) s
noncomputable def okHand (c : Cx) (k : Stmt → Bool) (h : ExceptHandler) : Bool := onHandler (fun t n b => onSome (onName fun y => isBt c y (.type "ValueError")) t && onNone n && on1 k b) h
noncomputable def isVE (c : Cx) (e : Expr) : Bool := onCall (fun f xs ks _ => onName (fun f => isBt c f (.type "ValueError")) f && on1 isStrE xs && on0 ks) e
mutual
noncomputable def okS (c : Cx) : PS → Stmt → Bool
  | .ret e, s => onReturn (fun o => onSome (fun x => okE c e x) o) s
  | .asg i e, s => okAsg c i (fun v => okE c e v) s
  | .asgT is e, s => onAssign (fun ts v => on1 (onTup fun ts k p => okNames c is ts && decide is.Nodup && noComp v && okSwap c ts k p v && okE c e v) ts) s
  | .ite t b o, s => onIfS (fun x y z => okE c t x && okSs c b y && okSs c o z) s
  | .whl t b, s => onWhile (fun x y z => on0 z && okE c t x && okSs c b y) s
  | .raise, s => onRaise (fun x y => onNone y && onSome (isVE c) x) s
  | .tryAsg i e j d, s => onTry (fun b hs o f => on0 o && on0 f && on1 (fun s => okAsg c i (fun v => okE c e v) s) b && on1 (okHand c (okAsg c j (handOk d))) hs) s
  | .forRange _ _ _ _, _ => false
  | .forTup _ _ _, _ => false
  | .forZip _ _ _ _ _, _ => false
noncomputable def okSs (c : Cx) : List PS → List Stmt → Bool
  | [], l => on0 l
  | p :: ps, l => onCons (fun s ss => okS c p s && okSs c ps ss) l
end

section
variable {X : Cfg} {c : Cx} {env : Env} {l : List Env} {L : Addr} {ρ : Env'} {Fa : Nat → Addr} {C : Calls} {A : Around} {N : Nat} {s : Shared}

noncomputable def RelF (X : Cfg) (c : Cx) (env : Env) (l : List Env) (L : Addr) (s : Shared) (f : Flow) : Fl → Prop
  | .next ρ => f = .next ∧ Here X c env l L ρ s
  | .ret d => ∃ v, f = .ret v ∧ Rd s.heap v d

theorem frS (T : Sit X c Fa C A env l L) : ∀ a ∈ [L], a ∈ fr (env :: l) := fun a q => by
  obtain ⟨n, b, cd, rfl⟩ := T.ev
  rcases List.mem_cons.mp q with rfl | q
  · exact List.mem_filterMap.mpr ⟨_, List.mem_cons_self, rfl⟩
  · cases q

theorem nodup_get {α : Type} : ∀ {l : List α} {i j : Nat} {a : α}, l.Nodup → l[i]? = some a → l[j]? = some a → i = j
  | [], _, _, _, _, h, _ => by simp at h
  | b :: r, 0, 0, _, _, _, _ => rfl
  | b :: r, 0, j + 1, a, nd, h, h' => by
    simp only [List.getElem?_cons_zero, Option.some.injEq] at h
    rw [List.getElem?_cons_succ] at h'
    subst h
    exact absurd (List.mem_of_getElem? h') (List.nodup_cons.mp nd).1
  | b :: r, i + 1, 0, a, nd, h, h' => by
    simp only [List.getElem?_cons_zero, Option.some.injEq] at h'
    rw [List.getElem?_cons_succ] at h
    subst h'
    exact absurd (List.mem_of_getElem? h) (List.nodup_cons.mp nd).1
  | b :: r, i + 1, j + 1, a, nd, h, h' => by
    rw [List.getElem?_cons_succ] at h h'
    rw [nodup_get (List.nodup_cons.mp nd).2 h h']
/-- a name gets a value -/
theorem store_sound {A' : Around} {i : Nat} {x : Str} {v : Value} {d : PyData} {Q : Unit → Shared → Prop} {E : Value → Shared → Prop} (T : Sit X c Fa C A env l L) (nd : c.ns.Nodup) (h : Here X c env l L ρ s) (hx : c.ns[i]? = some x) (hk : kindIs c x .local = true) (r : Rd s.heap v d)
    (k : ∀ s', Ok X [L] s s' → Here X c env l L (ρ.set i (some d)) s' → (∀ u e, Rd s.heap u e → Rd s'.heap u e) → Q () s') : wpAny (model X.prog X.w) A' (storeName env x v) Q E s := by
  obtain ⟨m, n, km⟩ := h.fm
  have T' := T
  obtain ⟨q, a, cd, rfl⟩ := T.ev
  obtain ⟨k1, _⟩ := kindIs_eq hk
  refine wpAny_storeName_local (env := envOf q c.sc L a cd) k1 n (fun h' hn' hs' => ?_) ?_
  · have mv : ∀ u e, Rd s.heap u e → Rd h' u e := fun u e r => r.move (seq_sameBut n hs')
    have xt : Xt [L] s.heap h' := fun b o nb e _ => ⟨o.slots, (hs'.2 b (fun z => nb (by rw [z]; exact List.mem_cons_self))).trans e⟩
    have w' : W X { s with heap := h', toks := s.toks + 1 } := ⟨h.w.h.store n T'.new hs', h.w.gens, h.w.os, Nat.lt_succ_of_lt h.w.toks⟩
    refine k _ ⟨xt, w'⟩ ⟨w', funFrames_xt xt h.ff (fun b hb => by
      rcases List.mem_cons.mp hb with rfl | hb
      · exact ⟨_, hn'⟩
      · cases hb), ⟨_, hn', fun j e ej => ?_⟩⟩ mv
    by_cases hij : i = j
    · subst hij
      rw [List.getElem?_set] at ej
      simp only [if_true] at ej
      split at ej
      · cases ej
        exact ⟨x, v, hx, by simp, mv _ _ r⟩
      · cases ej
    · rw [List.getElem?_set_ne hij] at ej
      obtain ⟨y, u, e1, e2, e3⟩ := km j e ej
      refine ⟨y, u, e1, ?_, mv _ _ e3⟩
      have : y ≠ x := fun z => hij (by
        subst z
        exact nodup_get nd hx e1)
      simp [this, e2]
  · show (c.sc.kind == .class || (c.sc.kind == .module && _)) = false
    rw [T'.kind]; rfl

theorem putAll_set : ∀ {xs : List Nat} {ds : List PyData} {ρ ρ' : Env'} {i : Nat} {d : PyData}, i ∉ xs → putAll xs ds (ρ.set i (some d)) = some ρ' → ∃ ρ₀, putAll xs ds ρ = some ρ₀ ∧ ρ' = ρ₀.set i (some d)
  | [], [], ρ, ρ', i, d, _, h => by
    simp only [putAll] at h; cases h; exact ⟨ρ, rfl, rfl⟩
  | x :: xs, e :: ds, ρ, ρ', i, d, hn, h => by
    simp only [putAll] at h
    rw [List.set_comm _ _ (fun q => hn (by rw [q]; exact List.mem_cons_self))] at h
    obtain ⟨ρ₀, h1, h2⟩ := putAll_set (fun q => hn (List.mem_cons_of_mem _ q)) h
    exact ⟨ρ₀, h1, h2⟩
  | [], _ :: _, _, _, _, _, _, h => by cases h
  | _ :: _, [], _, _, _, _, _, h => by cases h

theorem RdAll.moveAll {h h' : Heap} (mv : ∀ u e, Rd h u e → Rd h' u e) : ∀ {vs : List Value} {ds : List PyData}, RdAll h vs ds → RdAll h' vs ds
  | _, _, .nil => .nil
  | _, _, .cons a b => .cons (mv _ _ a) (RdAll.moveAll mv b)
theorem okName_inv {i : Nat} {e : Expr} (h : okName c i e = true) : ∃ x p, e = .Name x p ∧ c.ns[i]? = some x ∧ kindIs c x .local = true := by
  obtain ⟨x, p, rfl, k⟩ := onName_inv h
  exact ⟨x, p, rfl, beq_iff_eq.mp (both k).1, (both k).2⟩
theorem okAsg_inv {i : Nat} {k : Expr → Bool} {s : Stmt} (h : okAsg c i k s = true) : ∃ x xp v p, s = .Assign [.Name x xp] v p ∧ c.ns[i]? = some x ∧ kindIs c x .local = true ∧ noComp v = true ∧ k v = true := by
  obtain ⟨ts, v, p, rfl, k0⟩ := onAssign_inv h
  obtain ⟨k1, k4⟩ := both k0
  obtain ⟨k2, k3⟩ := both k1
  obtain ⟨t, rfl, k5⟩ := on1_inv k2
  obtain ⟨x, xp, rfl, e1, e2⟩ := okName_inv k5
  exact ⟨x, xp, v, p, rfl, e1, e2, k3, k4⟩
theorem okHand_inv {k : Stmt → Bool} {h : ExceptHandler} (e : okHand c k h = true) : ∃ y yp st hp, h = .ExceptHandler (some (.Name y yp)) none [st] hp ∧ isBt c y (.type "ValueError") = true ∧ k st = true := by
  obtain ⟨ht, hn, hb, hp, rfl, k13⟩ := onHandler_inv e
  obtain ⟨k14, k15⟩ := both k13
  obtain ⟨k16, k17⟩ := both k14
  obtain rfl := onNone_inv k17
  obtain ⟨a3, rfl, k18⟩ := onSome_inv k16
  obtain ⟨y, yp, rfl, ok5⟩ := onName_inv k18
  obtain ⟨a4, rfl, k19⟩ := on1_inv k15
  exact ⟨y, yp, a4, hp, rfl, ok5, k19⟩
theorem isVE_inv {e : Expr} (h : isVE c e = true) : ∃ x xp z n zp q, e = .Call (.Name x xp) [.Constant (.str z) n zp] [] q ∧ isBt c x (.type "ValueError") = true := by
  obtain ⟨f, xs, ks, q, rfl, k4⟩ := onCall_inv h
  obtain ⟨k5, k6⟩ := both k4
  obtain ⟨k7, k8⟩ := both k5
  obtain ⟨fx, fp, rfl, ok1⟩ := onName_inv k7
  obtain rfl := on0_inv k6
  obtain ⟨z, rfl, k9⟩ := on1_inv k8
  obtain ⟨zx, zn, zp, rfl⟩ := isStrE_inv k9
  exact ⟨_, _, _, _, _, _, rfl, ok1⟩
theorem okNames_cons {i : Nat} {is : List Nat} {ts : List Expr} (h : okNames c (i :: is) ts = true) : ∃ x p ts', ts = .Name x p :: ts' ∧ c.ns[i]? = some x ∧ kindIs c x .local = true ∧ okNames c is ts' = true := by
  obtain ⟨e, es, rfl, k⟩ := onCons_inv h
  obtain ⟨k1, k2⟩ := both k
  obtain ⟨x, p, rfl, e1, e2⟩ := okName_inv k1
  exact ⟨x, p, es, rfl, e1, e2, k2⟩
theorem okNames_nil {ts : List Expr} (h : okNames c [] ts = true) : ts = [] := on0_inv h

/-- stores in the order of the names -/
theorem stores_fwd {E : Value → Shared → Prop} (T : Sit X c Fa C A env l L) (nd : c.ns.Nodup) : ∀ (is : List Nat) {ts : List Expr} {vs : List Value} {ds : List PyData} {ρ ρ' : Env'} {s : Shared} {Q : Unit → Shared → Prop}, okNames c is ts = true → putAll is ds ρ = some ρ' → Here X c env l L ρ s → RdAll s.heap vs ds →
    (∀ s', Ok X [L] s s' → Here X c env l L ρ' s' → Q () s') → wpAny (model X.prog X.w) A (assignInOrder ((assignEach ts env).map (·.2)) vs) Q E s := by
  intro is
  induction is with
  | nil =>
    intro ts vs ds ρ ρ' s Q ok hp h rs k
    obtain rfl := okNames_nil ok
    cases ds with
    | nil =>
      simp only [putAll] at hp; cases hp
      exact assignInOrder_nil (k _ (Ok.refl h.w) h)
    | cons d ds => cases hp
  | cons i is ih =>
    intro ts vs ds ρ ρ' s Q ok hp h rs k
    obtain ⟨x, p, ts', rfl, ok1, ok2, ok3⟩ := okNames_cons ok
    cases rs with
    | nil => cases hp
    | cons r rs =>
      simp only [putAll] at hp
      show wpAny _ _ (assignInOrder (assign (.Name x p) env :: (assignEach ts' env).map (·.2)) _) _ _ _
      exact assignInOrder_cons (assign_Name (store_sound T nd h ok1 ok2 r fun s₁ o₁ h₁ mv => ih ok3 hp h₁ (rs.moveAll mv) fun s₂ o₂ h₂ => k s₂ (o₁.trans o₂) h₂))

/-- stores against the order of the names: what is behind comes first -/
theorem stores_bwd {E : Value → Shared → Prop} (T : Sit X c Fa C A env l L) (nd : c.ns.Nodup) : ∀ (is : List Nat) {ts : List Expr} {vs : List Value} {ds : List PyData} {ρ ρ' : Env'} {s : Shared} {rn : List (Value → Sem Unit)} {rv : List Value} {Q : Unit → Shared → Prop}, is.Nodup → okNames c is ts = true → putAll is ds ρ = some ρ' → Here X c env l L ρ s → RdAll s.heap vs ds →
    (∀ s', Ok X [L] s s' → Here X c env l L ρ' s' → (∀ u e, Rd s.heap u e → Rd s'.heap u e) → wpAny (model X.prog X.w) A (assignInOrder rn rv) Q E s') → wpAny (model X.prog X.w) A (assignInOrder (((namesOf ts).reverse.map fun n => bindName env n) ++ rn) (vs.reverse ++ rv)) Q E s := by
  intro is
  induction is with
  | nil =>
    intro ts vs ds ρ ρ' s rn rv Q nodup ok hp h rs k
    obtain rfl := okNames_nil ok
    cases ds with
    | nil =>
      cases rs
      simp only [putAll] at hp; cases hp
      exact k _ (Ok.refl h.w) h fun _ _ r => r
    | cons d ds => cases hp
  | cons i is ih =>
    intro ts vs ds ρ ρ' s rn rv Q nodup ok hp h rs k
    obtain ⟨x, p, ts', rfl, ok1, ok2, ok3⟩ := okNames_cons ok
    cases rs with
    | nil => cases hp
    | cons r rs =>
      simp only [putAll] at hp
      obtain ⟨ρ₀, hp0, rfl⟩ := putAll_set (List.nodup_cons.mp nodup).1 hp
      rename_i v vs' d ds'
      have e1 : ((namesOf (.Name x p :: ts')).reverse.map fun n => bindName env n) ++ rn = ((namesOf ts').reverse.map fun n => bindName env n) ++ (bindName env x :: rn) := by
        simp [namesOf]
      have e2 : (v :: vs').reverse ++ rv = vs'.reverse ++ (v :: rv) := by simp
      rw [e1, e2]
      exact ih (List.nodup_cons.mp nodup).2 ok3 hp0 h rs fun s₁ o₁ h₁ mv => assignInOrder_cons (bindName_ (store_sound T nd h₁ ok1 ok2 (mv _ _ r) fun s₂ o₂ h₂ mv₂ => k s₂ (o₁.trans o₂) h₂ fun u e r => mv₂ _ _ (mv _ _ r)))
end
end Mine

namespace Mine
open PySem PySem.Calls PySem.Spec PyProof.Rows PySem.W

section
variable {X : Cfg} {c : Cx} {env : Env} {l : List Env} {L : Addr} {ρ : Env'} {Fa : Nat → Addr} {C : Calls} {A : Around} {N : Nat} {s : Shared}

noncomputable def StOk (X : Cfg) (c : Cx) (C : Calls) (N : Nat) (A : Around) (env : Env) (l : List Env) (L : Addr) (p : PS) : Prop :=
  ∀ (st : Stmt) (ρ : Env') (s : Shared) (Q : Flow → Shared → Prop) (E : Value → Shared → Prop), okS c p st = true → Here X c env l L ρ s → Sp X (RelF X c env l L) [L] (env :: l) s Q E (Mine.exec C N p ρ) → wpAny (model X.prog X.w) A (PySem.exec st env) Q E s
noncomputable def StsOk (X : Cfg) (c : Cx) (C : Calls) (N : Nat) (A : Around) (env : Env) (l : List Env) (L : Addr) (ps : List PS) : Prop :=
  ∀ (sts : List Stmt) (ρ : Env') (s : Shared) (Q : Flow → Shared → Prop) (E : Value → Shared → Prop), okSs c ps sts = true → Here X c env l L ρ s → Sp X (RelF X c env l L) [L] (env :: l) s Q E (Mine.execs C N ps ρ) → wpAny (model X.prog X.w) A (PySem.execs sts env) Q E s

/-- a raise that no one sees: the piece ends otherwise -/
theorem spNo {α β : Type} {Rel : Shared → β → α → Prop} {S : List Addr} {l : List Env} {Q : β → Shared → Prop} {E E' : Value → Shared → Prop} {r : R α} (h : Sp X Rel S l s Q E (noExc r)) : Sp X Rel S l s Q E' (noExc r) := by
  cases r with
  | ok a => exact h
  | exc b => exact h.elim
  | stuck => exact h.elim

/-- swaps hang on the scope alone -/
theorem swap_env {q : Str} {a : Addr} {cd : Value} {T : List Expr} {v : Expr} : swappedStores T v (envOf q c.sc L a cd) = swappedStores T v (env0 c) := rfl

theorem funMem {h base : Heap} : ∀ {l : List Env} {b : Addr}, h.FunFrames base l → b ∈ fr l → ∃ o, h.get? b = some o ∧ ∀ vs, o.data ≠ .fields vs
  | env :: r, b, ⟨_, ⟨L, o, hf, _, ho, hd⟩, hr⟩, hm => by
    obtain ⟨e, he, hb⟩ := List.mem_filterMap.mp hm
    rcases List.mem_cons.mp he with rfl | he
    · rw [hf] at hb; cases hb; exact ⟨o, ho, hd⟩
    · exact funMem hr (List.mem_filterMap.mpr ⟨e, he, hb⟩)
  | [], b, _, hm => by cases hm

/-- a raise that has come down: the state is a later one -/
theorem land {s' : Shared} {a : Addr} {B h₆ : Heap} {l : List Env} {cls t : Value} (ff : s.heap.FunFrames X.H l) (k1 : Xt (fr l) s.heap B) (wB : Wh X B) (fl : Heap.FlyingW B l a cls t h₆)
    (k2 : ∀ b o, s.heap.get? b = some o → KeepMe o → b ∈ fr l → b ∉ ([] : List Addr) → ∃ sl, s'.heap.get? b = some { o with slots := sl }) (up : s'.heap.UpToSlots h₆) (g : AllBare s'.gens) (os : s'.os = X.O) (tk : 0 < s'.toks) : Ok X [] s { s' with heap := h₆ } := by
  refine ⟨fun b o _ e ko => ?_, ⟨wB.keeps fl.1, g, os, tk⟩⟩
  by_cases hm : b ∈ fr l
  · obtain ⟨sl, e2⟩ := k2 b o e ko hm (fun q => by cases q)
    obtain ⟨o', e', hd⟩ := funMem ff hm
    rw [e] at e'; cases e'
    obtain ⟨sl', e3⟩ := up b _ e2 hd
    exact ⟨sl', e3⟩
  · obtain ⟨sl, e2⟩ := k1 b o hm e ko
    exact ⟨sl, fl.1 _ _ e2⟩

theorem handler_sound {A' : Around} {j : Nat} {z : Str} {zp p : Pos} {u : Expr} {d : PE} {v : PyData} {Q : Flow → Shared → Prop} {E : Value → Shared → Prop} (T : Sit X c Fa C A env l L) (nd : c.ns.Nodup) (h : Here X c env l L ρ s) (hz : c.ns[j]? = some z) (hk : kindIs c z .local = true) (hc : noComp u = true)
    (hd : handOk d u = true) (hv : handV d = some v)
    (k : ∀ s', Ok X [L] s s' → Here X c env l L (ρ.set j (some v)) s' → Q .next s') : wpAny (model X.prog X.w) A' (PySem.execs [.Assign [.Name z zp] u p] env) Q E s := by
  have fin : ∀ (w : Value) (s₁ : Shared), Ok X [] s s₁ → Rd s₁.heap w v → wpAny (model X.prog X.w) A' (storeName env z w) (fun _ s₂ => match (Flow.next : Flow) with | .next => wpAny (model X.prog X.w) A' (PySem.execs [] env) Q E s₂ | f => Q f s₂) E s₁ := fun w s₁ o₁ r₁ =>
    store_sound T nd (h.step o₁) hz hk r₁ fun s₂ o₂ h₂ _ => wpAny_execs_nil (k s₂ (o₁.weak.trans o₂) h₂)
  refine wpAny_execs_cons (wpAny_Assign_Name ?_ (noSwap hc))
  obtain ⟨v', e', k⟩ := onSome_inv hd
  rw [hv] at e'
  cases e'
  rcases either k with q | q
  · obtain ⟨x, n, p, rfl, k0⟩ := onConst_inv q
    exact const_sound (E := E) (l := l) (env := env) h.w k0 fun w s₁ o₁ r₁ => fin w s₁ o₁ r₁
  · obtain ⟨q1, q2⟩ := both q
    obtain ⟨x, rfl, k0⟩ := onT_inv q1
    obtain rfl := on0_inv k0
    obtain ⟨ts, n, p, rfl, k1⟩ := onTup_inv q2
    obtain rfl := on0_inv k1
    refine wpAny_Tuple (args_nil ⟨Nat.zero_le _, ?_⟩)
    exact tuple_new (l := env :: l) (S := []) (E := E) h.w (Nat.zero_le _) .nil fun w s₁ o₁ r₁ => fin w s₁ o₁ r₁

theorem putAll_length : ∀ {xs : List Nat} {ds : List PyData} {ρ ρ' : Env'}, putAll xs ds ρ = some ρ' → xs.length = ds.length
  | [], [], _, _, _ => rfl
  | _ :: _, _ :: _, _, _, h => by simp only [putAll] at h; simp [putAll_length h]
  | [], _ :: _, _, _, h => by cases h
  | _ :: _, [], _, _, h => by cases h
theorem okNames_length : ∀ {is : List Nat} {ts : List Expr}, okNames c is ts = true → is.length = ts.length
  | [], ts, h => by rw [okNames_nil h]; rfl
  | i :: is, ts, h => by
    obtain ⟨x, p, ts', rfl, _, _, h3⟩ := okNames_cons h
    simp [okNames_length h3]
theorem namesOf_length : ∀ {is : List Nat} {ts : List Expr}, okNames c is ts = true → (namesOf ts).length = ts.length
  | [], ts, h => by rw [okNames_nil h]; rfl
  | i :: is, ts, h => by
    obtain ⟨x, p, ts', rfl, _, _, h3⟩ := okNames_cons h
    simp [namesOf, namesOf_length h3]
theorem assignEach_names : ∀ {is : List Nat} {ts : List Expr}, okNames c is ts = true → (assignEach ts env).length = ts.length ∧ (assignEach ts env).findIdx? (·.1) = none
  | [], ts, h => by rw [okNames_nil h]; exact ⟨rfl, rfl⟩
  | i :: is, ts, h => by
    obtain ⟨x, p, ts', rfl, _, _, h3⟩ := okNames_cons h
    obtain ⟨h1, h2⟩ := assignEach_names h3
    have e : assignEach (.Name x p :: ts') env = (false, assign (.Name x p) env) :: assignEach ts' env := rfl
    rw [e]
    refine ⟨by simp [h1], ?_⟩
    rw [List.findIdx?_cons]
    simp [h2]
theorem load_bt_any {A' : Around} {x : Str} {p : Pos} {v : Value} {Q : Value → Shared → Prop} {E : Value → Shared → Prop} (T : Sit X c Fa C A env l L) (w : W X s) (h1 : isBt c x v = true) (h : Q v s) :
    wpAny (model X.prog X.w) A' (eval (.Name x p) env) Q E s := by
  unfold isBt at h1
  simp only [Bool.and_eq_true, beq_iff_eq] at h1
  obtain ⟨mg, mb, g, b, fn, gd, bt⟩ := T.G.names
  obtain ⟨e1, e2⟩ := bt x v h1.2
  obtain ⟨q, a, cd, rfl⟩ := T.ev
  obtain ⟨k1, k2⟩ := kindIs_eq h1.1
  exact Name_function_global T.kind k1 (loadGlobal_builtin (env := envOf q c.sc L a cd) (w.h.ns g) e1 (w.h.ns b) e2 h) k2
theorem try_d {Rel : Shared → Flow → Fl → Prop} {S : List Addr} {l : List Env} {Q : Flow → Shared → Prop} {E : Value → Shared → Prop} {d : PE} {j : Nat} (sp : Sp X Rel S l s Q E (match d with | .cst v => .ok (.next (ρ.set j (some v))) | .tup [] => .ok (.next (ρ.set j (some (.tuple [])))) | _ => .stuck)) :
    ∃ v, handV d = some v ∧ Sp X Rel S l s Q E (.ok (.next (ρ.set j (some v)))) := by
  split at sp
  · exact ⟨_, rfl, sp⟩
  · exact ⟨_, rfl, sp⟩
  · exact sp.elim

@[elab_as_elim] theorem invS_ret {P : Stmt → Prop} {s : Stmt} {e : PE} (ok : okS c (.ret e) s = true) (kk : ∀ x p, okE c e x = true → P (.Return (some x) p)) : P s := by
  obtain ⟨x, p, rfl, k0⟩ := onReturn_inv ok
  obtain ⟨y, rfl, ok1⟩ := onSome_inv k0
  exact kk _ _ ok1
@[elab_as_elim] theorem invS_asg {P : Stmt → Prop} {s : Stmt} {i : Nat} {e : PE} (ok : okS c (.asg i e) s = true) (kk : ∀ x xp v p, c.ns[i]? = some x → kindIs c x .local = true → noComp v = true → okE c e v = true → P (.Assign [.Name x xp] v p)) : P s := by
  obtain ⟨x, xp, v, p, rfl, ok1, ok2, ok3, ok4⟩ := okAsg_inv ok
  exact kk _ _ _ _ ok1 ok2 ok3 ok4
@[elab_as_elim] theorem invS_asgT {P : Stmt → Prop} {s : Stmt} {is : List Nat} {e : PE} (ok : okS c (.asgT is e) s = true) (kk : ∀ ts k p v pos, okNames c is ts = true → is.Nodup → noComp v = true → okSwap c ts k p v = true → okE c e v = true → P (.Assign [.Tuple ts k p] v pos)) : P s := by
  obtain ⟨tt, v, pos, rfl, k0⟩ := onAssign_inv ok
  obtain ⟨t, rfl, k1⟩ := on1_inv k0
  obtain ⟨ts, k, p, rfl, k2⟩ := onTup_inv k1
  obtain ⟨k3, ok5⟩ := both k2
  obtain ⟨k4, ok4⟩ := both k3
  obtain ⟨k5, ok3⟩ := both k4
  obtain ⟨ok1, k6⟩ := both k5
  have ok2 := of_decide_eq_true k6
  exact kk _ _ _ _ _ ok1 ok2 ok3 ok4 ok5
@[elab_as_elim] theorem invS_ite {P : Stmt → Prop} {s : Stmt} {t : PE} {b o : List PS} (ok : okS c (.ite t b o) s = true) (kk : ∀ x y z p, okE c t x = true → okSs c b y = true → okSs c o z = true → P (.If x y z p)) : P s := by
  obtain ⟨x, y, z, p, rfl, k0⟩ := onIfS_inv ok
  obtain ⟨k1, ok3⟩ := both k0
  obtain ⟨ok1, ok2⟩ := both k1
  exact kk _ _ _ _ ok1 ok2 ok3
@[elab_as_elim] theorem invS_whl {P : Stmt → Prop} {s : Stmt} {t : PE} {b : List PS} (ok : okS c (.whl t b) s = true) (kk : ∀ x y pos, okE c t x = true → okSs c b y = true → P (.While x y [] pos)) : P s := by
  obtain ⟨x, y, z, pos, rfl, k0⟩ := onWhile_inv ok
  obtain ⟨k1, ok2⟩ := both k0
  obtain ⟨k2, ok1⟩ := both k1
  obtain rfl := on0_inv k2
  exact kk _ _ _ ok1 ok2
@[elab_as_elim] theorem invS_raise {P : Stmt → Prop} {s : Stmt}  (ok : okS c .raise s = true) (kk : ∀ x xp z n zp q p, isBt c x (.type "ValueError") = true → P (.Raise (some (.Call (.Name x xp) [.Constant (.str z) n zp] [] q)) none p)) : P s := by
  obtain ⟨x, y, p, rfl, k0⟩ := onRaise_inv ok
  obtain ⟨k1, k2⟩ := both k0
  rw [onNone_inv k1]
  obtain ⟨x0, rfl, k3⟩ := onSome_inv k2
  obtain ⟨x, xp, z, n, zp, q, rfl, ok1⟩ := isVE_inv k3
  exact kk _ _ _ _ _ _ _ ok1
@[elab_as_elim] theorem invS_tryAsg {P : Stmt → Prop} {s : Stmt} {i j : Nat} {e d : PE} (ok : okS c (.tryAsg i e j d) s = true) (kk : ∀ x xp v vp y yp z zp u up hp tp, c.ns[i]? = some x → kindIs c x .local = true → noComp v = true → okE c e v = true → isBt c y (.type "ValueError") = true → c.ns[j]? = some z → kindIs c z .local = true → noComp u = true → handOk d u = true → P (.Try [.Assign [.Name x xp] v vp] [.ExceptHandler (some (.Name y yp)) none [.Assign [.Name z zp] u up] hp] [] [] tp)) : P s := by
  obtain ⟨tb, hs, o, f, tp, rfl, k0⟩ := onTry_inv ok
  obtain ⟨k1, k2⟩ := both k0
  obtain ⟨k3, k4⟩ := both k1
  obtain ⟨k5, k6⟩ := both k3
  rw [on0_inv k5, on0_inv k6]
  obtain ⟨a1, rfl, k7⟩ := on1_inv k4
  obtain ⟨hd, rfl, k8⟩ := on1_inv k2
  obtain ⟨x, xp, v, vp, rfl, ok1, ok2, ok3, ok4⟩ := okAsg_inv k7
  obtain ⟨y, yp, st, hp, rfl, ok5, k9⟩ := okHand_inv k8
  obtain ⟨z, zp, u, up, rfl, ok6, ok7, ok8, ok9⟩ := okAsg_inv k9
  exact kk _ _ _ _ _ _ _ _ _ _ _ _ ok1 ok2 ok3 ok4 ok5 ok6 ok7 ok8 ok9
set_option maxHeartbeats 4000000 in
mutual
theorem soundS (T : Sit X c Fa C A env l L) (nd : c.ns.Nodup) : ∀ p : PS, StOk X c C N A env l L p
  | .ret e => fun st ρ s Q E ok h sp => by
    have ie := (sound (ρ := ρ) T e).1
    refine invS_ret ok fun x p ok1 => ?_
    simp only [Mine.exec] at sp
    exact wpAny_Return_some (ie _ _ _ _ ok1 h (Sp.bind0 sp (frS T) fun d v s₁ o₁ r₁ sp₁ => sp₁ _ _ (Ok.refl o₁.2) ⟨v, rfl, r₁⟩))
  | .asg i e => fun st ρ s Q E ok h sp => by
    have ie := (sound (ρ := ρ) T e).1
    refine invS_asg ok fun x xp v p ok1 ok2 ok3 ok4 => ?_
    simp only [Mine.exec] at sp
    exact wpAny_Assign_Name (ie _ _ _ _ ok4 h (Sp.bind0 sp (frS T) fun d v s₁ o₁ r₁ sp₁ => store_sound T nd (h.step o₁) ok1 ok2 r₁ fun s₂ o₂ h₂ _ => sp₁ _ _ o₂ ⟨rfl, h₂⟩)) (noSwap ok3)
  | .asgT is e => fun st ρ s Q E ok h sp => by
    have ie := (sound (ρ := ρ) T e).1
    refine invS_asgT ok fun ts k p v pos ok1 ok2 ok3 ok4 ok5 => ?_
    simp only [Mine.exec] at sp
    obtain ⟨sw, e0, k7⟩ := onSome_inv ok4
    cases sw with
    | none =>
      have hw : swappedStores [.Tuple ts k p] v env = pure none := by
        obtain ⟨q, a, cd, rfl⟩ := T.ev
        rw [swap_env]; exact semPure_eq e0
      refine Assign_Tuple (ie _ _ _ _ ok5 h (Sp.bind0 sp (frS T) fun d v s₁ o₁ r₁ sp₁ => ?_)) (noSwap (t := some (.Tuple ts k p)) (n := pos.line) (env := env) ok3) hw
      cases r₁ with
      | tuple ho hc hd z ra =>
        rename_i a o vs n xs
        simp only at sp₁
        cases e1 : putAll is xs ρ with
        | none => rw [e1] at sp₁; exact sp₁.elim
        | some ρ' =>
          rw [e1] at sp₁
          have ht : IsTup s₁.heap a vs := ⟨_, ho, hc, _, hd⟩
          have hlen : (assignEach ts env).length = vs.size := by
            have l1 := putAll_length e1
            have l2 := okNames_length ok1
            have l3 := ra.length
            rw [Array.length_toList] at l3
            rw [(assignEach_names ok1).1]; lia
          refine assign_Tuple_tuple T.hh ht hlen (assignEach_names ok1).2 fun h' he => ?_
          have o' : Ok X [] s₁ { s₁ with heap := h' } := Ok.keeps o₁.2 (Nat.le_refl _) fun b o e => he b o (Nat.ne_of_lt (Heap.lt_size e)) e
          exact stores_fwd T nd is ok1 e1 ((h.step o₁).step o') (ra.xt o'.1) fun s₂ o₂ h₂ => sp₁ _ _ (o'.weak.trans o₂) ⟨rfl, h₂⟩
      | _ => exact sp₁.elim
    | some names =>
      obtain rfl := beq_iff_eq.mp (show (names == namesOf ts) = true from k7)
      have hw : swappedStores [.Tuple ts k p] v env = pure (some (namesOf ts)) := by
        obtain ⟨q, a, cd, rfl⟩ := T.ev
        rw [swap_env]; exact semPure_eq e0
      refine Assign_Tuple_swapped (ie _ _ _ _ ok5 h (Sp.bind0 sp (frS T) fun d v s₁ o₁ r₁ sp₁ => ?_)) (noSwap (t := some (.Tuple ts k p)) (n := pos.line) (env := env) ok3) hw
      cases r₁ with
      | tuple ho hc hd z ra =>
        rename_i a o vs n xs
        simp only at sp₁
        cases e1 : putAll is xs ρ with
        | none => rw [e1] at sp₁; exact sp₁.elim
        | some ρ' =>
          rw [e1] at sp₁
          have ht : IsTup s₁.heap a vs := ⟨_, ho, hc, _, hd⟩
          have hlen : (namesOf ts).length = vs.size := by
            have l1 := putAll_length e1
            have l2 := okNames_length ok1
            have l3 := ra.length
            rw [Array.length_toList] at l3
            rw [namesOf_length ok1]; lia
          rw [hlen]
          refine unpackItems_tuple T.hh ht fun h' he => ?_
          have o' : Ok X [] s₁ { s₁ with heap := h' } := Ok.keeps o₁.2 (Nat.le_refl _) fun b o e => he b o (Nat.ne_of_lt (Heap.lt_size e)) e
          have := stores_bwd (E := E) (rn := []) (rv := []) (Q := fun _ => Q .next) T nd is ok2 ok1 e1 ((h.step o₁).step o') (ra.xt o'.1) fun s₂ o₂ h₂ _ => assignInOrder_nil (sp₁ _ _ (o'.weak.trans o₂) ⟨rfl, h₂⟩)
          rw [List.append_nil, List.append_nil] at this
          exact this
      | _ => exact sp₁.elim
  | .ite t b o => fun st ρ s Q E ok h sp => by
    have tt := (sound (ρ := ρ) T t).2
    have ib := soundSs T nd b
    have io := soundSs T nd o
    refine invS_ite ok fun x y z p ok1 ok2 ok3 => ?_
    simp only [Mine.exec] at sp
    rw [← assocR] at sp
    refine wpAny_If (tt _ _ _ _ ok1 h (Sp.bind0 sp (frS T) fun x v s₁ o₁ r₁ sp₁ => ?_))
    cases r₁
    cases x with
    | true => simp only [if_true]; exact ib _ _ _ _ _ ok2 (h.step o₁) sp₁
    | false => simp only [Bool.false_eq_true, if_false]; exact io _ _ _ _ _ ok3 (h.step o₁) sp₁
  | .whl t b => fun st ρ s Q E ok h sp => by
    have ib := soundSs T nd b
    refine invS_whl ok fun x y pos ok1 ok2 => ?_
    simp only [Mine.exec] at sp
    refine wpAny_While (codeAny_whileLoop (I := fun n s₁ => ∃ ρ₁, Here X c env l L ρ₁ s₁ ∧ Sp X (RelF X c env l L) [L] (env :: l) s₁ Q E (noExc (loopW (fun ρ => ev C t ρ) (fun ρ => Mine.execs C N b ρ) n ρ₁))) (fun n s₁ hI => ?_) N ⟨ρ, h, sp⟩)
    obtain ⟨ρ₁, h₁, sp₁⟩ := hI
    have tt := (sound (ρ := ρ₁) T t).2
    cases n with
    | zero => exact sp₁.elim
    | succ n =>
      rw [loopW] at sp₁
      refine tt _ _ _ _ ok1 h₁ ?_
      revert sp₁
      cases ev C t ρ₁ with
      | ok d =>
        simp only [R.bind_ok]
        cases truthy d with
        | ok tv =>
          simp only [R.bind_ok]
          intro sp₁ v s₂ o₂ r₂
          cases r₂
          cases tv with
          | false =>
            simp only [Bool.false_eq_true, if_false]
            exact wpAny_execs_nil (sp₁ _ _ o₂.weak ⟨rfl, h₁.step o₂⟩)
          | true =>
            simp only [if_true]
            refine ib _ _ _ _ _ ok2 (h₁.step o₂) ?_
            revert sp₁
            cases Mine.execs C N b ρ₁ with
            | ok f =>
              simp only [R.bind_ok]
              intro sp₁ fl s₃ o₃ r₃
              have sp₃ := Sp.pre (Sp.pre sp₁ o₂.weak (frS T)) o₃ (frS T)
              cases f with
              | next ρ' =>
                obtain ⟨rfl, h₃⟩ := r₃
                exact ⟨n, Nat.lt_succ_self _, ρ', h₃, sp₃⟩
              | ret d =>
                obtain ⟨v, rfl, r₄⟩ := r₃
                exact sp₃ _ _ (Ok.refl o₃.2) ⟨v, rfl, r₄⟩
            | exc b => exact fun sp₁ => sp₁.elim
            | stuck => exact fun sp₁ => sp₁.elim
        | exc b => exact fun sp₁ => sp₁.elim
        | stuck => exact fun sp₁ => sp₁.elim
      | exc b => exact fun sp₁ => sp₁.elim
      | stuck => exact fun sp₁ => sp₁.elim
  | .raise => fun st ρ s Q E ok h sp => by
    refine invS_raise ok fun x xp z n zp q p ok1 => ?_
    refine Raise_madeB PySem.F.excCall_ValueError PySem.F.excRaise_ValueError T.hh (load_bt T h.w ok1 ⟨rfl, args_cons (wpAny_Constant_str (args_nil ⟨by rw [sizeLine_limit]; unfold limit; simp, fun h' e he => ?_⟩))⟩)
    have o' : Ok X [L] s { s with toks := s.toks + 1 } := Ok.tk h.w (Nat.le_succ _)
    exact sp _ _ ⟨e, _, _, rfl, o', (h.step (Ok.tk h.w (Nat.le_succ _))).ff, Heap.MadeExc.of he, rfl, rfl, rfl⟩
  | .tryAsg i e j d => fun st ρ s Q E ok h sp => by
    have ie := (sound (ρ := ρ) T e).1
    refine invS_tryAsg ok fun x xp v vp y yp z zp u up hp tp ok1 ok2 ok3 ok4 ok5 ok6 ok7 ok8 ok9 => ?_
    simp only [Mine.exec] at sp
    refine wpAny_Try_except (wpAny_execs_cons (wpAny_Assign_Name (ie _ _ _ _ ok4 h ?_) (noSwap ok3)))
    revert sp
    cases ev C e ρ with
    | ok dv =>
      intro sp v s₁ o₁ r₁
      exact store_sound T nd (h.step o₁) ok1 ok2 r₁ fun s₂ o₂ h₂ _ => wpAny_execs_nil (wpAny_execs_nil (sp _ _ (o₁.weak.trans o₂) ⟨rfl, h₂⟩))
    | exc b =>
      cases b with
      | true => exact fun sp => sp.elim
      | false =>
        intro sp ex s' fly
        obtain ⟨a, B, t, rfl, k1, wB, fl, k2, g, os, tk⟩ := fly
        have hL : ∃ o, env.frame = some L := ⟨(), by obtain ⟨q, a, cd, rfl⟩ := T.ev; rfl⟩
        obtain ⟨_, hf⟩ := hL
        refine wpAny_looks_onW T.fr hf fl fun h₄ held₄ up₄ => ?_
        refine wpAny_landsW held₄ fun h₅ fl₅ up₅ => ?_
        have o₅ := land (s := s) (s' := s') h.ff k1 wB fl₅ k2 (up₄.trans up₅) g os tk
        obtain ⟨ob, hob, hobc⟩ := fl₅.there
        obtain ⟨dv, hv, spv⟩ := try_d sp
        refine wpAny_handleBy_builtin (X := "ValueError") (T := "ValueError") (b := true) PySem.F.isExc_ValueError PySem.F.notTuple_ValueError (by rw [isSubtype_type]; kernel_rfl) (load_bt_any T o₅.2 ok5 ⟨rfl, ⟨ob, hob, hobc⟩, ?_⟩)
        simp only [if_true]
        refine lands_againW fl₅ fun h₆ fl₆ up₆ => ?_
        have o₆ := land (s := s) (s' := s') h.ff k1 wB fl₆ k2 ((up₄.trans up₅).trans up₆) g os tk
        refine handler_sound T nd (h.step o₆) ok6 ok7 ok8 ok9 hv fun s₇ o₇ h₇ => ?_
        exact spv _ _ (o₆.weak.trans o₇) ⟨rfl, h₇⟩
    | stuck => exact fun sp => sp.elim
  | .forRange x lo hi b => fun st ρ s Q E ok h sp => by cases ok
  | .forTup xs e b => fun st ρ s Q E ok h sp => by cases ok
  | .forZip x y e₁ e₂ b => fun st ρ s Q E ok h sp => by cases ok
theorem soundSs (T : Sit X c Fa C A env l L) (nd : c.ns.Nodup) : ∀ ps : List PS, StsOk X c C N A env l L ps
  | [] => fun sts ρ s Q E ok h sp => by
    cases sts with
    | nil => exact wpAny_execs_nil (sp _ _ (Ok.refl h.w) ⟨rfl, h⟩)
    | cons a b => cases ok
  | p :: ps => fun sts ρ s Q E ok h sp => by
    have ip := soundS T nd p
    have ips := soundSs T nd ps
    cases sts with
    | nil => cases ok
    | cons st sts =>
      have ok := both (show (okS c p st && okSs c ps sts) = true from ok)
      simp only [Mine.execs] at sp
      refine wpAny_execs_cons (ip _ _ _ _ _ ok.1 h (Sp.bind sp (frS T) fun f fl s₁ o₁ r₁ sp₁ => ?_))
      cases f with
      | next ρ' =>
        obtain ⟨rfl, h₁⟩ := r₁
        exact ips _ _ _ _ _ ok.2 h₁ sp₁
      | ret d =>
        obtain ⟨v, rfl, r⟩ := r₁
        exact sp₁ _ _ (Ok.refl o₁.2) ⟨v, rfl, r⟩
end
end
end Mine

namespace Mine
open PySem PySem.Calls PySem.Spec PyProof.Rows

theorem lookup_app {β : Type} (n : Str) : ∀ (p q : List (Str × β)), p.lookup n = none → (p ++ q).lookup n = q.lookup n
  | [], q, _ => rfl
  | (m, b) :: p, q, h => by
    simp only [List.cons_append, List.lookup] at h ⊢
    split at h
    · cases h
    · exact lookup_app n p q h
theorem zip_look {β : Type} : ∀ (ns : List Str) (vs : List β), ns.Nodup → vs.length = ns.length → ∀ pre : List (Str × β), (∀ n ∈ ns, pre.lookup n = none) →
    ns.filterMap (fun n => ((pre ++ ns.zip vs).lookup n).map (n, ·)) = ns.zip vs ∧ ns.filter (fun n => ((pre ++ ns.zip vs).lookup n).isNone) = []
  | [], _, _, _, _, _ => ⟨rfl, rfl⟩
  | n :: ns, [], _, h, _, _ => by simp at h
  | n :: ns, v :: vs, nd, hl, pre, hp => by
    have h1 : (pre ++ (n :: ns).zip (v :: vs)).lookup n = some v := by
      rw [lookup_app n _ _ (hp n List.mem_cons_self)]
      simp [List.lookup]
    have e : pre ++ (n :: ns).zip (v :: vs) = (pre ++ [(n, v)]) ++ ns.zip vs := by simp
    have ih := zip_look ns vs (List.nodup_cons.mp nd).2 (by simpa using hl) (pre ++ [(n, v)]) (fun m hm => by
      rw [lookup_app m _ _ (hp m (List.mem_cons_of_mem _ hm))]
      have : m ≠ n := fun q => (List.nodup_cons.mp nd).1 (q ▸ hm)
      have : (m == n) = false := by simpa using this
      simp [List.lookup, this])
    rw [← e] at ih
    refine ⟨?_, ?_⟩
    · rw [List.filterMap_cons, h1]
      simp only [Option.map_some]
      rw [ih.1]; rfl
    · rw [List.filter_cons, h1]
      simp only [Option.isNone_some, Bool.false_eq_true, if_false]
      exact ih.2

theorem bind_plain {fd : FuncData} {as : List Arg} {vals : List Value} (hp : fd.params = ⟨[], as, none, [], [], none, []⟩) (hd : fd.defaults = .none) (nd : (as.map (·.arg)).Nodup) (hl : vals.length = as.length) :
    bindArgs fd ⟨vals, []⟩ = pure ((as.map (·.arg)).zip vals) := by
  have z := zip_look (as.map (·.arg)) vals nd (by simpa using hl) [] (fun _ _ => rfl)
  simp only [List.nil_append] at z
  unfold bindArgs
  rw [hp, hd]
  have hs : seqItems? .none = pure none := rfl
  simp only [hs, List.map_nil, List.nil_append, List.append_nil, List.length_map]
  have g : ¬ (vals.length > as.length) := by first | assumption | exact Nat.le_add_left _ _ | decide | lia
  simp [g]
  have e1 : (List.take (as.length - (List.drop ((#[] : Array Value).size - as.length) ([] : List Value)).length) (List.map (fun x => x.arg) as)) = List.map (fun x => x.arg) as := by
    rw [List.take_of_length_le]; simp
  have e2 := z.2
  have e3 : List.filterMap ((fun n => Option.map (fun x => (n, x)) (List.lookup n ((List.map (fun x : Arg => x.arg) as).zip vals))) ∘ fun x : Arg => x.arg) as = (List.map (fun x => x.arg) as).zip vals := by
    have := z.1
    rw [List.filterMap_map] at this
    exact this
  rw [if_neg, e3]
  rw [e1, e2]; simp
end Mine

namespace Mine
open PySem PySem.Calls PySem.Spec PyProof.Rows PySem.W

/-- what is known of a function of the table, from the heap that the call has met -/
structure FnIs (X : Cfg) (c : Cx) (a : Addr) (f : Fn) (q : Str) (cd : Value) : Prop where
  fn : ∃ (o : Obj) (fd : FuncData) (body : List Stmt) (as : List Arg), X.H.get? a = some o ∧ o.data = .func fd ∧ fd.globals = mainGlobals ∧ fd.closure = [] ∧ fd.builtins = builtinsNs ∧ fd.defaults = .none ∧ fd.qualname = q ∧ fd.code = cd ∧
    fd.params = ⟨[], as, none, [], [], none, []⟩ ∧ as.map (·.arg) = c.ns.take f.np ∧ fd.scope = c.sc ∧ fd.body = .stmts body ∧ okSs c f.body body = true
  code : ∃ ca co cv ct, cd = .ref ca ∧ X.H.get? ca = some co ∧ co.cls ≠ .none ∧ co.data = .fields cv ∧ cv[1]? = some (.str q ct)
  np : f.np ≤ c.ns.length
  nd : c.ns.Nodup
  kind : c.sc.kind = .function
  gen : c.sc.isGenerator = false
  co : c.sc.isCoroutine = false
  cell : ∀ x ∈ c.sc.names, x.2 ≠ .cell
  loc : ∀ x ∈ c.ns.take f.np, c.sc.names.lookup x = some .local

section
variable {X : Cfg}
theorem zip_lookup_rev {β : Type} : ∀ {ns : List Str} {vs : List β} {i : Nat} {x : Str} {v : β}, ns.Nodup → ns[i]? = some x → vs[i]? = some v → (ns.zip vs).reverse.lookup x = some v
  | [], _, _, _, _, _, h, _ => by simp at h
  | _ :: _, [], _, _, _, _, _, h => by simp at h
  | n :: ns, w :: vs, 0, x, v, nd, h1, h2 => by
    simp only [List.getElem?_cons_zero, Option.some.injEq] at h1 h2
    subst h1 h2
    rw [List.zip_cons_cons, List.reverse_cons]
    have : ((ns.zip vs).reverse).lookup n = none := by
      rw [List.lookup_eq_none_iff]
      intro p hp
      have hp' := List.mem_reverse.mp hp
      have := (List.of_mem_zip hp').1
      simp only [bne_iff_ne, ne_eq, beq_eq_false_iff_ne]
      intro e
      exact (List.nodup_cons.mp nd).1 (e ▸ this)
    rw [lookup_app n _ _ this]
    simp [List.lookup]
  | n :: ns, w :: vs, i + 1, x, v, nd, h1, h2 => by
    rw [List.getElem?_cons_succ] at h1 h2
    rw [List.zip_cons_cons, List.reverse_cons]
    have ih := zip_lookup_rev (List.nodup_cons.mp nd).2 h1 h2
    have go : ∀ (p q : List (Str × β)), p.lookup x = some v → (p ++ q).lookup x = some v := by
      intro p q
      induction p with
      | nil => intro h; cases h
      | cons a p ih =>
        obtain ⟨k, b⟩ := a
        simp only [List.cons_append, List.lookup]
        cases x == k with
        | true => exact fun h => h
        | false => exact fun h => ih h
    exact go _ _ ih

theorem funNone {h base : Heap} : ∀ {l : List Env} {b : Addr}, h.FunFrames base l → b ∈ fr l → base.get? b = none
  | env :: r, b, ⟨_, ⟨L, o, hf, hn, _, _⟩, hr⟩, hm => by
    obtain ⟨e, he, hb⟩ := List.mem_filterMap.mp hm
    rcases List.mem_cons.mp he with rfl | he
    · rw [hf] at hb; cases hb; exact hn
    · exact funNone hr (List.mem_filterMap.mpr ⟨e, he, hb⟩)
  | [], b, _, hm => by cases hm
theorem hideFrames {base h : Heap} {as : List Addr} {l : List Env} (x : h.FunFrames base l) (m : ∀ env ∈ l, ∀ a, env.frame = some a → a ∈ as) : h.FunFrames (hideAll h as) l := by
  induction l with
  | nil => exact x
  | cons e r ih =>
    refine ⟨x.1, ?_, ih x.2.2 fun env me => m env (List.mem_cons_of_mem _ me)⟩
    exact x.2.1.imp fun L y => y.imp fun _ z => ⟨z.1, hideAll_none _ (m e List.mem_cons_self L z.1), z.2.2⟩
theorem start_get {f : Fn} {ds : List PyData} {i : Nat} {d : PyData} (h : (start f ds)[i]? = some (some d)) : ds[i]? = some d := by
  unfold start at h
  rw [List.getElem?_append] at h
  split at h
  · rw [List.getElem?_map] at h
    cases e : ds[i]? with
    | none => rw [e] at h; cases h
    | some d' => rw [e] at h; simp at h; rw [h]
  · rw [List.getElem?_replicate] at h
    split at h <;> cases h

theorem RdAll.get' {h : Heap} {vs : List Value} {ds : List PyData} {i : Nat} {d : PyData} (r : RdAll h vs ds) (e : ds[i]? = some d) : ∃ v, vs[i]? = some v ∧ Rd h v d := r.get i d e

variable {c : Cx} {Fa : Nat → Addr} {C : Calls} {A : Around} {l : List Env} {N : Nat} {s : Shared} {a : Addr} {f : Fn} {q : Str} {cd : Value} {Q : Value → Shared → Prop} {E : Value → Shared → Prop} {vs : List Value} {ds : List PyData}

theorem call_step (F : FnIs X c a f q cd) (there : ∀ h, X.Tab h → ∀ b o, X.H.get? b = some o → ¬ KeepMe o → ∃ o', h.get? b = some o') (hlim : X.H.NoLimit) (hfr : A.frames = some l) (hroom : A.depth < recursionLimit)
    (hsit : ∀ L, X.H.get? L = none → Sit X c Fa C (A.deeper (envOf q c.sc L a cd)) (envOf q c.sc L a cd) l L) (ff : s.heap.FunFrames X.H l) (wh : Wh X s.heap) (wg : AllBare s.gens) (wo : s.os = X.O) (wt : 0 < s.toks + vs.length)
    (rs : RdAll s.heap vs ds) (hn : ds.length = f.np) (sp : Sp X RelV [] l s Q E (fin (Mine.execs C N f.body (start f ds)))) : wpAny (model X.prog X.w) A (call (.ref a) vs) Q E s := by
  obtain ⟨o, fd, body, as, ho, hd, h1, h2, h3, h4, h5, h6, h7, h8, h9, h10, h11⟩ := F.fn
  have hvs := rs.length
  have hal : as.length = f.np := by
    have := congrArg List.length h8
    rw [List.length_map, List.length_take] at this
    have := F.np
    lia
  have ndt : (c.ns.take f.np).Nodup := F.nd.sublist (List.take_sublist _ _)
  have hLn : X.H.get? s.heap.objs.size = none := by
    cases e : X.H.get? s.heap.objs.size with
    | none => rfl
    | some ob =>
      exfalso
      by_cases k : KeepMe ob
      · exact absurd (Heap.lt_size (wh.old _ _ e k)) (Nat.lt_irrefl _)
      · obtain ⟨o', e'⟩ := there _ wh.tab _ _ e k
        exact absurd (Heap.lt_size e') (Nat.lt_irrefl _)
  have hob : s.heap.get? a = some o := wh.get ho (fun vs q => by rw [hd] at q; cases q)
  have hlim' : s.heap.NoLimit := by
    obtain ⟨mc, n1, n2⟩ := hlim
    exact ⟨mc, wh.ns n1, n2⟩
  have hcr : s.heap.CodeRec fd.code fd.qualname := by
    rw [h5, h6]
    obtain ⟨ca, co, cv, ct, e1, e2, e3, e4, e5⟩ := F.code
    exact ⟨ca, co, cv, ct, e1, wh.old _ _ e2 (.inl e3), e4, e5⟩
  have hlocs : ∀ x ∈ (c.ns.take f.np).zip vs, fd.scope.names.lookup x.1 = some .local := fun x hx => by rw [h9]; exact F.loc x.1 (List.of_mem_zip hx).1
  have hbind : BindsTo s fd ⟨vs, []⟩ ((c.ns.take f.np).zip vs) := BindsTo.of_eq (by rw [← h8]; exact bind_plain h7 h4 (by rw [h8]; exact ndt) (by first | assumption | exact Nat.le_add_left _ _ | decide | lia))
  have henv : callEnv fd s.heap.objs.size a = envOf q c.sc s.heap.objs.size a cd := by
    unfold callEnv envOf newEnv
    rw [h1, h2, h3, h5, h6, h9]
  refine wpAny_call (codeAny_call_def hroom hob hd hlim' hcr h10 hbind (by rw [h9]; exact F.cell) hlocs (fun h₀ hns hk => ?_) (by rw [h9]; exact F.co) (by rw [h9]; exact F.gen) (by rw [h9]; exact F.kind))
  rw [henv]
  have T := hsit _ hLn
  have hbl : ((c.ns.take f.np).zip vs).length = vs.length := by
    rw [List.length_zip, List.length_take]
    have := F.np
    lia
  have hneL : ∀ b o, s.heap.get? b = some o → b ≠ s.heap.objs.size := fun b o e => Nat.ne_of_lt (Heap.lt_size e)
  have w₀ : W X { s with heap := h₀, toks := s.toks + ((c.ns.take f.np).zip vs).length } := ⟨wh.keeps hk, wg, wo, by rw [hbl]; exact wt⟩
  have ff₀ : h₀.FunFrames X.H (envOf q c.sc s.heap.objs.size a cd :: l) := by
    refine ⟨?_, ?_, ff.of_keeps fun b o e _ => ⟨o, hk b o e, rfl⟩⟩
    · show c.sc.kind ≠ .module
      rw [F.kind]; intro z; cases z
    · obtain ⟨ob, es, ep, e1, e2, _⟩ := hns
      exact ⟨_, ob, rfl, hLn, e1, fun vs z => by rw [e2] at z; cases z⟩
  have here : Here X c (envOf q c.sc s.heap.objs.size a cd) l s.heap.objs.size (start f ds) { s with heap := h₀, toks := s.toks + ((c.ns.take f.np).zip vs).length } := by
    refine ⟨w₀, ff₀, _, hns, fun i d e => ?_⟩
    have e1 := start_get e
    obtain ⟨v, e2, r⟩ := rs.get i d e1
    have hi : i < f.np := by
      have := (List.getElem?_eq_some_iff.mp e1).1
      lia
    have hin : i < c.ns.length := Nat.lt_of_lt_of_le hi F.np
    refine ⟨c.ns[i], v, List.getElem?_eq_getElem hin, ?_, r.move fun b o vs n e _ _ => ⟨o.slots, hk b o e⟩⟩
    refine zip_lookup_rev (i := i) ndt ?_ e2
    rw [List.getElem?_take]
    rw [if_pos hi]
    exact List.getElem?_eq_getElem hin
  have back : ∀ s', Ok X [s.heap.objs.size] { s with heap := h₀, toks := s.toks + ((c.ns.take f.np).zip vs).length } s' → Ok X [] s s' := fun s' o => by
    refine ⟨fun b ob _ e k => ?_, o.2⟩
    refine o.1 b ob (fun z => ?_) (hk b ob e) k
    rcases List.mem_cons.mp z with z | z
    · exact hneL b ob e z
    · cases z
  have hfr' : (A.deeper (envOf q c.sc s.heap.objs.size a cd)).frames = some (envOf q c.sc s.heap.objs.size a cd :: l) := Around.frames_deeper hfr
  have inFr : ∀ {b : Addr}, b ∈ fr (envOf q c.sc s.heap.objs.size a cd :: l) → b = s.heap.objs.size ∨ b ∈ fr l := fun {b} hm => by
    obtain ⟨e, he, hb⟩ := List.mem_filterMap.mp hm
    rcases List.mem_cons.mp he with rfl | he
    · exact .inl (Option.some.inj hb).symm
    · exact .inr (List.mem_filterMap.mpr ⟨e, he, hb⟩)
  refine soundSs (N := N) T F.nd f.body body (start f ds) _ _ _ h11 here ?_
  revert sp
  cases Mine.execs C N f.body (start f ds) with
  | ok fl =>
    cases fl with
    | next ρ' =>
      intro sp v s' o r
      obtain ⟨rfl, _⟩ := r
      exact sp _ _ (back s' o) .none
    | ret d =>
      intro sp v s' o r
      obtain ⟨u, rfl, r⟩ := r
      exact sp _ _ (back s' o) r
  | exc b =>
    intro sp
    cases b with
    | true =>
      intro e s' fresh
      obtain ⟨ea, s₁, evs, rfl, o₁, ff₁, made, hg, ho', ht⟩ := fresh
      have hin : ∀ env ∈ (envOf q c.sc s.heap.objs.size a cd :: l), ∀ b, env.frame = some b → b ∈ fr (envOf q c.sc s.heap.objs.size a cd :: l) := fun env he b hb => List.mem_filterMap.mpr ⟨env, he, hb⟩
      refine wpAny_leaves_madeW (base := hideAll s₁.heap (fr (envOf q c.sc s.heap.objs.size a cd :: l))) hfr' rfl (fun b o z => of_hideAll _ z) (hideFrames ff₁ hin) made fun h' t fl tup new up => ?_
      have bk := back s₁ o₁
      refine sp _ _ ⟨ea, _, t, rfl, fun b ob nb eb kb => ?_, ⟨fun b ob eb kb => ?_, ?_⟩, fl, fun b ob eb kb mb _ => ?_, hg ▸ o₁.2.gens, ho'.trans o₁.2.os, by show 0 < s'.toks; rw [ht]; exact o₁.2.toks⟩
      · obtain ⟨sl, e1⟩ := bk.1 b ob (fun z => by cases z) eb kb
        exact ⟨sl, hideAll_get _ e1 fun hm => (inFr hm).elim (fun z => hneL b ob eb z) nb⟩
      · refine hideAll_get _ (o₁.2.h.old b ob eb kb) fun hm => ?_
        have := funNone ff₁ hm
        rw [eb] at this; cases this
      · refine X.tab _ _ (fun b ob vs' eb hd' => hideAll_get _ eb fun hm => ?_) o₁.2.h.tab
        obtain ⟨o', e', hd''⟩ := funMem ff₁ hm
        rw [eb] at e'; cases e'
        exact hd'' _ hd'
      · obtain ⟨sl, e1⟩ := bk.1 b ob (fun z => by cases z) eb kb
        obtain ⟨o', e', hd''⟩ := funMem ff mb
        rw [eb] at e'; cases e'
        obtain ⟨sl', e2⟩ := up b _ (made.keeps _ _ e1) hd''
        exact ⟨sl', e2⟩
    | false =>
      intro e s' fly
      obtain ⟨ea, B, t, rfl, k1, wB, fl, k2, hg, ho', ht⟩ := fly
      refine wpAny_leaves_onW hfr' rfl fl fun h' fl' up => ?_
      refine sp _ _ ⟨ea, B, t, rfl, fun b ob nb eb kb => ?_, wB, fl', fun b ob eb kb mb _ => ?_, hg, ho', ht⟩
      · exact k1 b ob (fun hm => (inFr hm).elim (fun z => hneL b ob eb z) nb) (hk b ob eb) kb
      · obtain ⟨sl, e1⟩ := k2 b ob (hk b ob eb) kb (List.mem_filterMap.mpr (by
          obtain ⟨e, he, hb⟩ := List.mem_filterMap.mp mb
          exact ⟨e, List.mem_cons_of_mem _ he, hb⟩)) (fun z => by
            rcases List.mem_cons.mp z with z | z
            · exact hneL b ob eb z
            · cases z)
        obtain ⟨o', e', hd''⟩ := funMem ff mb
        rw [eb] at e'; cases e'
        obtain ⟨sl', e2⟩ := up b _ e1 hd''
        exact ⟨sl', e2⟩
  | stuck => exact fun sp => sp.elim
end
end Mine

namespace Mine
open PySem PySem.Calls PySem.Spec PyProof.Rows PySem.W

/-- what an extension of the little language must keep -/
noncomputable def ExtOk (X : Cfg) (c : Cx) (C : Calls) (A : Around) (env : Env) (l : List Env) (L : Addr) : Prop :=
  ∀ (p : PE) (e : Expr) (ρ : Env') (s : Shared) (Q : Value → Shared → Prop) (E : Value → Shared → Prop), c.ext p e = true → Here X c env l L ρ s → Sp X RelV [] (env :: l) s Q E (ev C p ρ) → wpAny (model X.prog X.w) A (eval e env) Q E s

/-- calls, so many frames deep, are sound -/
noncomputable def CallsOk (X : Cfg) (Fa : Nat → Addr) (C : Calls) (n : Nat) : Prop :=
  ∀ (A : Around) (l : List Env) (k : Nat) (vs : List Value) (ds : List PyData) (s : Shared) (Q : Value → Shared → Prop) (E : Value → Shared → Prop), A.frames = some l → A.handled = none → A.depth + n ≤ 900 → A.units + 3 * n + 100 ≤ cLine →
    s.heap.FunFrames X.H l → W X s → RdAll s.heap vs ds → Sp X RelV [] l s Q E (C k ds) → wpAny (model X.prog X.w) A (call (.ref (Fa k)) vs) Q E s

structure TabIs (X : Cfg) (T : List Fn) (cx : Nat → Cx) (Fa : Nat → Addr) (qs : Nat → Str) (cds : Nat → Value) : Prop where
  there : ∀ h, X.Tab h → ∀ b o, X.H.get? b = some o → ¬ KeepMe o → ∃ o', h.get? b = some o'
  lim : X.H.NoLimit
  G : ∀ k, Gx X (cx k) Fa
  fn : ∀ k f, T[k]? = some f → FnIs X (cx k) (Fa k) f (qs k) (cds k)

/-- the extensions of a table's functions -/
noncomputable def ExtsOk (X : Cfg) (T : List Fn) (N : Nat) (cx : Nat → Cx) (Fa : Nat → Addr) (qs : Nat → Str) (cds : Nat → Value) : Prop :=
  ∀ (k n : Nat) (A : Around) (l : List Env) (L : Addr), A.frames = some (envOf (qs k) (cx k).sc L (Fa k) (cds k) :: l) → A.handled = none → A.depth + n ≤ 900 → A.units + 3 * n + 100 ≤ cLine → X.H.get? L = none →
    CallsOk X Fa (run T N n) n → ExtOk X (cx k) (run T N n) A (envOf (qs k) (cx k).sc L (Fa k) (cds k)) l L

section
variable {X : Cfg} {T : List Fn} {N : Nat} {cx : Nat → Cx} {Fa : Nat → Addr} {qs : Nat → Str} {cds : Nat → Value}

theorem sit_of (I : TabIs X T cx Fa qs cds) (ex : ExtsOk X T N cx Fa qs cds) {k n : Nat} {f : Fn} (hk : T[k]? = some f) {A : Around} {l : List Env} (hfr : A.frames = some l) (hh : A.handled = none) (hd : A.depth + (n + 1) ≤ 900) (hu : A.units + 3 * (n + 1) + 100 ≤ cLine)
    (ih : CallsOk X Fa (run T N n) n) (L : Addr) (hL : X.H.get? L = none) :
    Sit X (cx k) Fa (run T N n) (A.deeper (envOf (qs k) (cx k).sc L (Fa k) (cds k))) (envOf (qs k) (cx k).sc L (Fa k) (cds k)) l L := by
  have F := I.fn k f hk
  have hfr' := Around.frames_deeper (env := envOf (qs k) (cx k).sc L (Fa k) (cds k)) hfr
  have hd' : (A.deeper (envOf (qs k) (cx k).sc L (Fa k) (cds k))).depth = A.depth + 1 := rfl
  have hu' : (A.deeper (envOf (qs k) (cx k).sc L (Fa k) (cds k))).units = A.units + 3 := rfl
  refine ⟨I.G k, ⟨_, _, _, rfl⟩, F.kind, hL, hfr', hh, by rw [hu']; lia, fun g vs ds s Q E ff w rs sp => ?_, ?_⟩
  · exact ih _ _ g vs ds s Q E hfr' hh (by rw [hd']; lia) (by rw [hu']; lia) ff w rs sp
  · exact ex k n _ l L hfr' hh (by rw [hd']; lia) (by rw [hu']; lia) hL ih

theorem callsOk (I : TabIs X T cx Fa qs cds) (ex : ExtsOk X T N cx Fa qs cds) : ∀ n, CallsOk X Fa (run T N n) n
  | 0 => fun A l k vs ds s Q E _ _ _ _ _ _ _ sp => sp.elim
  | n + 1 => fun A l k vs ds s Q E hfr hh hd hu ff w rs sp => by
    rw [run] at sp
    cases hk : T[k]? with
    | none => rw [hk] at sp; exact sp.elim
    | some f =>
      rw [hk] at sp
      simp only at sp
      cases hn : ds.length == f.np with
      | false => rw [hn] at sp; exact sp.elim
      | true =>
        rw [hn] at sp
        have : recursionLimit = 1000 := rfl
        exact call_step (I.fn k f hk) I.there I.lim hfr (by first | assumption | exact Nat.le_add_left _ _ | decide | lia) (fun L hL => sit_of I ex hk hfr hh hd hu (callsOk I ex n) L hL) ff w.h w.gens w.os (by have := w.toks; lia) rs (beq_iff_eq.mp hn) sp

/-- the outermost call -/
theorem top_call (I : TabIs X T cx Fa qs cds) (ex : ExtsOk X T N cx Fa qs cds) {n k : Nat} {A : Around} {v : Value} {d : PyData} {s : Shared} {Q : Value → Shared → Prop} {E : Value → Shared → Prop} (hfr : A.frames = some []) (hh : A.handled = none) (hd : A.depth + (n + 1) ≤ 900) (hu : A.units + 3 * (n + 1) + 100 ≤ cLine)
    (wh : Wh X s.heap) (wg : AllBare s.gens) (wo : s.os = X.O) (r : Rd s.heap v d) (h : run T N (n + 1) k [d] = .ok (.bool true)) (hQ : ∀ s', Ok X [] s s' → Q (.bool true) s') : wpAny (model X.prog X.w) A (call (.ref (Fa k)) [v]) Q E s := by
  rw [run] at h
  cases hk : T[k]? with
  | none => rw [hk] at h; cases h
  | some f =>
    rw [hk] at h
    simp only at h
    cases hn : [d].length == f.np with
    | false => rw [hn] at h; cases h
    | true =>
      rw [hn] at h
      have : recursionLimit = 1000 := rfl
      refine call_step (l := []) (N := N) (I.fn k f hk) I.there I.lim hfr (by first | assumption | exact Nat.le_add_left _ _ | decide | lia) (fun L hL => sit_of I ex hk hfr hh hd hu (callsOk I ex n) L hL) trivial wh wg wo (by simp) (.cons r .nil) (beq_iff_eq.mp hn) ?_
      rw [cond_true] at h
      rw [h]
      intro u s' o ru
      cases ru
      exact hQ s' o
end
end Mine

namespace Mine
open PySem PySem.Calls PySem.Spec PyProof.Rows PySem.W

noncomputable def vRef (k : Addr → Bool) (e : Value) : Bool := pick e.ctorIdx 10 fun q => Value.ref.elim (motive := fun _ => Bool) e q fun a => k a
theorem vRef_inv {k : Addr → Bool} {e : Value} (h : vRef k e = true) : ∃ a, e = .ref a ∧ k a = true :=
  Value.ref.elim (motive := fun e => vRef k e = true → ∃ a, e = .ref a ∧ k a = true) e (pick_inv h) (fun a h => ⟨a, rfl, h⟩) h
noncomputable def vBool (k : Bool → Bool) (e : Value) : Bool := pick e.ctorIdx 3 fun q => Value.bool.elim (motive := fun _ => Bool) e q fun a => k a
theorem vBool_inv {k : Bool → Bool} {e : Value} (h : vBool k e = true) : ∃ a, e = .bool a ∧ k a = true :=
  Value.bool.elim (motive := fun e => vBool k e = true → ∃ a, e = .bool a ∧ k a = true) e (pick_inv h) (fun a h => ⟨a, rfl, h⟩) h
noncomputable def vInt (k : Int → Bool) (e : Value) : Bool := pick e.ctorIdx 4 fun q => Value.int.elim (motive := fun _ => Bool) e q fun a _ => k a
theorem vInt_inv {k : Int → Bool} {e : Value} (h : vInt k e = true) : ∃ a t, e = .int a t ∧ k a = true :=
  Value.int.elim (motive := fun e => vInt k e = true → ∃ a t, e = .int a t ∧ k a = true) e (pick_inv h) (fun a t h => ⟨a, t, rfl, h⟩) h
noncomputable def vStr (k : Str → Bool) (e : Value) : Bool := pick e.ctorIdx 6 fun q => Value.str.elim (motive := fun _ => Bool) e q fun a _ => k a
theorem vStr_inv {k : Str → Bool} {e : Value} (h : vStr k e = true) : ∃ a t, e = .str a t ∧ k a = true :=
  Value.str.elim (motive := fun e => vStr k e = true → ∃ a t, e = .str a t ∧ k a = true) e (pick_inv h) (fun a t h => ⟨a, t, rfl, h⟩) h
noncomputable def vType (k : String → Bool) (e : Value) : Bool := pick e.ctorIdx 8 fun q => Value.type.elim (motive := fun _ => Bool) e q fun a => k a
theorem vType_inv {k : String → Bool} {e : Value} (h : vType k e = true) : ∃ a, e = .type a ∧ k a = true :=
  Value.type.elim (motive := fun e => vType k e = true → ∃ a, e = .type a ∧ k a = true) e (pick_inv h) (fun a h => ⟨a, rfl, h⟩) h
noncomputable def dFields (k : Array Value → Bool) (e : Data) : Bool := pick e.ctorIdx 9 fun q => Data.fields.elim (motive := fun _ => Bool) e q fun vs => k vs
theorem dFields_inv {k : Array Value → Bool} {e : Data} (h : dFields k e = true) : ∃ vs, e = .fields vs ∧ k vs = true :=
  Data.fields.elim (motive := fun e => dFields k e = true → ∃ vs, e = .fields vs ∧ k vs = true) e (pick_inv h) (fun vs h => ⟨vs, rfl, h⟩) h
noncomputable def dSeq (k : Array Value → Bool) (e : Data) : Bool := pick e.ctorIdx 2 fun q => Data.seq.elim (motive := fun _ => Bool) e q fun vs _ => k vs
theorem dSeq_inv {k : Array Value → Bool} {e : Data} (h : dSeq k e = true) : ∃ vs n, e = .seq vs n ∧ k vs = true :=
  Data.seq.elim (motive := fun e => dSeq k e = true → ∃ vs n, e = .seq vs n ∧ k vs = true) e (pick_inv h) (fun vs n h => ⟨vs, n, rfl, h⟩) h
noncomputable def onStmts (k : List Stmt → Bool) (e : FuncBody) : Bool := pick e.ctorIdx 0 fun q => FuncBody.stmts.elim (motive := fun _ => Bool) e q fun b => k b
theorem onStmts_inv {k : List Stmt → Bool} {e : FuncBody} (h : onStmts k e = true) : ∃ b, e = .stmts b ∧ k b = true :=
  FuncBody.stmts.elim (motive := fun e => onStmts k e = true → ∃ b, e = .stmts b ∧ k b = true) e (pick_inv h) (fun b h => ⟨b, rfl, h⟩) h
noncomputable def isNoneV (v : Value) : Bool := pick v.ctorIdx 0 fun _ => true
theorem isNoneV_inv {v : Value} (h : isNoneV v = true) : v = .none := Value.none.elim (motive := fun v => v = .none) v (pick_inv h) rfl
noncomputable def refOf (v : Value) : Option Addr := if h : v.ctorIdx = 10 then some (Value.ref.elim (motive := fun _ => Addr) v h fun a => a) else none
theorem refOf_inv {v : Value} {a : Addr} (h : refOf v = some a) : v = .ref a := by
  by_cases q : v.ctorIdx = 10
  · exact Value.ref.elim (motive := fun v => refOf v = some a → v = .ref a) v q (fun b h => by cases h; rfl) h
  · rw [refOf, dif_neg q] at h; cases h
noncomputable def funcOf (v : Data) : Option FuncData := if h : v.ctorIdx = 7 then some (Data.func.elim (motive := fun _ => FuncData) v h fun a => a) else none
theorem funcOf_inv {v : Data} {a : FuncData} (h : funcOf v = some a) : v = .func a := by
  by_cases q : v.ctorIdx = 7
  · exact Data.func.elim (motive := fun v => funcOf v = some a → v = .func a) v q (fun b h => by cases h; rfl) h
  · rw [funcOf, dif_neg q] at h; cases h
noncomputable def fnAt (K : Frag) (x : Str) : Option (Addr × FuncData) := (nsIn K mainGlobals x).bind fun o => o.bind fun v => (refOf v).bind fun a => (K.lookup a).bind fun o => (funcOf o.data).bind fun fd => some (a, fd)
noncomputable def codeOkIn (K : Frag) (cd : Value) (q : Str) : Bool := vRef (fun c => onSome (fun o => vType (fun _ => true) o.cls && dFields (fun vs => onCons (fun _ r => onCons (fun u _ => vStr (fun n => n == q) u) r) vs.toList) o.data) (K.lookup c)) cd
noncomputable def plainP (a : Arguments) : Bool := on0 a.posonlyargs && onNone a.vararg && on0 a.kwonlyargs && on0 a.kw_defaults && onNone a.kwarg && on0 a.defaults
theorem plainP_inv {a : Arguments} (h : plainP a = true) : a = ⟨[], a.args, none, [], [], none, []⟩ := by
  obtain ⟨p1, p2, p3, p4, p5, p6, p7⟩ := a
  obtain ⟨h, h6⟩ := both h
  obtain ⟨h, h5⟩ := both h
  obtain ⟨h, h4⟩ := both h
  obtain ⟨h, h3⟩ := both h
  obtain ⟨h1, h2⟩ := both h
  obtain rfl := on0_inv h1
  obtain rfl := onNone_inv h2
  obtain rfl := on0_inv h3
  obtain rfl := on0_inv h4
  obtain rfl := onNone_inv h5
  obtain rfl := on0_inv h6
  rfl
noncomputable def fdOk (K : Frag) (fns : List Str) (gl : List (Str × PyData)) (ns : List Str) (ext : Scope → List Str → PE → Expr → Bool) (f : Fn) (fd : FuncData) : Bool :=
  fd.globals == mainGlobals && fd.closure.isEmpty && fd.builtins == builtinsNs && isNoneV fd.defaults && codeOkIn K fd.code fd.qualname &&
      (plainP fd.params && fd.params.args.map (·.arg) == ns.take f.np) && decide (f.np ≤ ns.length) && decide ns.Nodup && fd.scope.kind == .function && !fd.scope.isGenerator && !fd.scope.isCoroutine &&
      fd.scope.names.all (fun x => !(x.2 == .cell)) && (ns.take f.np).all (fun x => fd.scope.names.lookup x == some .local) &&
      onStmts (fun b => okSs ⟨fns, gl, ns, fd.scope, ext fd.scope ns⟩ f.body b) fd.body
noncomputable def fnOk (K : Frag) (fns : List Str) (gl : List (Str × PyData)) (ns : List Str) (ext : Scope → List Str → PE → Expr → Bool) (x : Str) (f : Fn) : Bool := onSome (fun p => fdOk K fns gl ns ext f p.2) (fnAt K x)

noncomputable def seqIn (K : Frag) (ty : String) (k : List Value → Bool) (v : Value) : Bool := vRef (fun a => onSome (fun o => vType (fun t => t == ty) o.cls && dSeq (fun vs => decide (vs.size ≤ 1048576) && k vs.toList) o.data) (K.lookup a)) v
theorem seqIn_inv {K : Frag} {h : Heap} {ty : String} {k : List Value → Bool} {v : Value} (X : K.In h) (e : seqIn K ty k v = true) : ∃ a o vs n, v = .ref a ∧ h.get? a = some o ∧ o.cls = .type ty ∧ o.data = .seq vs n ∧ vs.size ≤ 1048576 ∧ k vs.toList = true := by
  obtain ⟨a, rfl, e1⟩ := vRef_inv e
  obtain ⟨o, e2, e3⟩ := onSome_inv e1
  obtain ⟨e4, e5⟩ := both e3
  obtain ⟨t, e6, e7⟩ := vType_inv e4
  obtain ⟨vs, n, e8, e9⟩ := dSeq_inv e5
  obtain ⟨e10, e11⟩ := both e9
  exact ⟨a, o, vs, n, rfl, X _ _ e2, by rw [e6, beq_iff_eq.mp e7], e8, of_decide_eq_true e10, e11⟩
mutual
noncomputable def rdIn (K : Frag) : PyData → Value → Bool
  | .none, v => isNoneV v
  | .bool a, v => vBool (fun b => a == b) v
  | .int a, v => vInt (fun b => a == b) v
  | .str a, v => vStr (fun b => a == b && decide (b.length ≤ limit)) v
  | .list ds, v => seqIn K "list" (fun l => rdsIn K ds l) v
  | .tuple ds, v => seqIn K "tuple" (fun l => rdsIn K ds l) v
  | .dict _, _ => false
noncomputable def rdsIn (K : Frag) : List PyData → List Value → Bool
  | [], l => on0 l
  | d :: ds, l => onCons (fun v vs => rdIn K d v && rdsIn K ds vs) l
end
mutual
theorem rdIn_ok {K : Frag} {h : Heap} (X : K.In h) : ∀ {d : PyData} {v : Value}, rdIn K d v = true → Rd h v d
  | .none, v, e => by rw [isNoneV_inv e]; exact .none
  | .bool a, v, e => by obtain ⟨b, rfl, k⟩ := vBool_inv e; rw [← beq_iff_eq.mp k]; exact .bool _
  | .int a, v, e => by obtain ⟨b, t, rfl, k⟩ := vInt_inv e; rw [← beq_iff_eq.mp k]; exact .int _ _
  | .str a, v, e => by
    obtain ⟨b, t, rfl, k⟩ := vStr_inv e
    have := of_decide_eq_true (both k).2
    rw [← beq_iff_eq.mp (both k).1] at this ⊢; exact .str _ _ this
  | .list ds, v, e => by
    obtain ⟨a, o, vs, n, rfl, e1, e2, e3, e4, e5⟩ := seqIn_inv X e
    exact .list e1 e2 e3 e4 (rdsIn_ok X e5)
  | .tuple ds, v, e => by
    obtain ⟨a, o, vs, n, rfl, e1, e2, e3, e4, e5⟩ := seqIn_inv X e
    exact .tuple e1 e2 e3 e4 (rdsIn_ok X e5)
theorem rdsIn_ok {K : Frag} {h : Heap} (X : K.In h) : ∀ {ds : List PyData} {vs : List Value}, rdsIn K ds vs = true → RdAll h vs ds
  | [], vs, e => by rw [on0_inv e]; exact .nil
  | d :: ds, vs, e => by
    obtain ⟨v, r, rfl, k⟩ := onCons_inv e
    exact .cons (rdIn_ok X (both k).1) (rdsIn_ok X (both k).2)
end

noncomputable def glOk (K : Frag) (gl : List (Str × PyData)) : Bool := gl.all fun p => onSome (onSome fun v => rdIn K p.2 v) (nsIn K mainGlobals p.1)
noncomputable def btOk (K : Frag) : Bool := bts.all fun p => onSome onNone (nsIn K mainGlobals p.1)
noncomputable def fnsOk (K : Frag) (fns : List Str) : Bool := fns.all fun x => (fnAt K x).isSome
noncomputable def tabOk (K : Frag) (fns : List Str) (gl : List (Str × PyData)) (exts : Nat → Scope → List Str → PE → Expr → Bool) : Nat → List Str → List (List Str) → List Fn → Bool
  | _, xs, nss, [] => on0 xs && on0 nss
  | k, xs, nss, f :: T => onCons (fun x xs => onCons (fun ns nss => fnOk K fns gl ns (exts k) x f && tabOk K fns gl exts (k + 1) xs nss T) nss) xs


theorem bts_boot : ∀ p ∈ bts, bootBuiltins p.1 = some p.2 ∧ p.1 ≠ "__name__" := by
  intro p hp
  simp only [bts, List.mem_cons, List.mem_nil_iff, or_false] at hp
  rcases hp with rfl | rfl | rfl | rfl | rfl | rfl | rfl | rfl | rfl | rfl | rfl | rfl | rfl | rfl | rfl
  · exact ⟨Boot.«len», by decide⟩
  · exact ⟨Boot.«str», by decide⟩
  · exact ⟨Boot.«int», by decide⟩
  · exact ⟨Boot.«abs», by decide⟩
  · exact ⟨Boot.«ord», by decide⟩
  · exact ⟨Boot.«min», by decide⟩
  · exact ⟨Boot.«max», by decide⟩
  · exact ⟨Boot.«type», by decide⟩
  · exact ⟨Boot.«tuple», by decide⟩
  · exact ⟨Boot.«bool», by decide⟩
  · exact ⟨Boot.«all», by decide⟩
  · exact ⟨Boot.«any», by decide⟩
  · exact ⟨Boot.«zip», by decide⟩
  · exact ⟨Boot.«range», by decide⟩
  · exact ⟨Boot.«ValueError», by decide⟩

section
variable {X : Cfg} {K : Frag} {fns : List Str} {gl : List (Str × PyData)} {nss : List (List Str)} {exts : Nat → Scope → List Str → PE → Expr → Bool} {T : List Fn}
noncomputable def fdOf (K : Frag) (fns : List Str) (k : Nat) : Addr × FuncData := match fns[k]? with
  | some x => (fnAt K x).getD (0, default)
  | none => (0, default)
noncomputable def cxOf (K : Frag) (fns : List Str) (gl : List (Str × PyData)) (nss : List (List Str)) (exts : Nat → Scope → List Str → PE → Expr → Bool) (k : Nat) : Cx := ⟨fns, gl, (nss[k]?).getD [], (fdOf K fns k).2.scope, exts k (fdOf K fns k).2.scope ((nss[k]?).getD [])⟩

theorem tabOk_at : ∀ {T : List Fn} {j : Nat} {xs : List Str} {nss : List (List Str)}, tabOk K fns gl exts j xs nss T = true → ∀ k f, T[k]? = some f → ∃ x ns, xs[k]? = some x ∧ nss[k]? = some ns ∧ fnOk K fns gl ns (exts (j + k)) x f = true
  | [], _, _, _, _, k, f, e => by cases e
  | f :: T, j, xs, nss, h, k, g, e => by
    obtain ⟨x, xs, rfl, h1⟩ := onCons_inv h
    obtain ⟨ns, nss, rfl, h2⟩ := onCons_inv h1
    obtain ⟨h3, h4⟩ := both h2
    cases k with
    | zero => cases e; exact ⟨x, ns, rfl, rfl, h3⟩
    | succ k =>
      obtain ⟨y, ms, e1, e2, e3⟩ := tabOk_at h4 k g e
      exact ⟨y, ms, e1, e2, by rw [Nat.add_assoc, Nat.add_comm 1 k] at e3; exact e3⟩

theorem fnAt_ok {h : Heap} {x : Str} {a : Addr} {fd : FuncData} {mg : Str → Option Value} (KX : K.In h) (g : h.Ns mainGlobals mg) (e : fnAt K x = some (a, fd)) : mg x = some (.ref a) ∧ ∃ o, h.get? a = some o ∧ o.data = .func fd := by
  obtain ⟨o1, q1, k1⟩ := Option.bind_eq_some_iff.mp e
  obtain ⟨v, q2, k2⟩ := Option.bind_eq_some_iff.mp k1
  obtain ⟨b, q3, k3⟩ := Option.bind_eq_some_iff.mp k2
  obtain ⟨o, q4, k4⟩ := Option.bind_eq_some_iff.mp k3
  obtain ⟨fd', q5, k5⟩ := Option.bind_eq_some_iff.mp k4
  cases k5
  rw [q2, refOf_inv q3] at q1
  exact ⟨mg_of KX g q1, o, KX _ _ q4, funcOf_inv q5⟩

theorem tab_is {mg mb : Str → Option Value} (KX : K.In X.H) (g : X.H.Ns mainGlobals mg) (b : X.H.Ns builtinsNs mb) (bb : ∀ x : Str, x ≠ "__name__" → mb x = bootBuiltins x) (lim : X.H.NoLimit)
    (there : ∀ h, X.Tab h → ∀ b o, X.H.get? b = some o → ¬ KeepMe o → ∃ o', h.get? b = some o')
    (h1 : glOk K gl = true) (h2 : btOk K = true) (h3 : fnsOk K fns = true) (h4 : tabOk K fns gl exts 0 fns nss T = true) :
    TabIs X T (cxOf K fns gl nss exts) (fun k => (fdOf K fns k).1) (fun k => (fdOf K fns k).2.qualname) (fun k => (fdOf K fns k).2.code) := by
  have fdAt : ∀ k x, fns[k]? = some x → ∃ a fd, fnAt K x = some (a, fd) ∧ fdOf K fns k = (a, fd) := fun k x e => by
    have := List.all_eq_true.mp h3 x (List.mem_of_getElem? e)
    obtain ⟨⟨a, fd⟩, q⟩ := Option.isSome_iff_exists.mp this
    exact ⟨a, fd, q, by unfold fdOf; rw [e]; simp only; rw [q]; rfl⟩
  refine ⟨there, lim, fun k => ⟨mg, mb, g, b, fun f x e => ?_, fun x d e => ?_, fun x v e => ?_⟩, fun k f e => ?_⟩
  · obtain ⟨a, fd, e1, e2⟩ := fdAt f x e
    obtain ⟨e3, o, e4, e5⟩ := fnAt_ok KX g e1
    rw [e2]
    exact ⟨e3, o, fd, e4, e5⟩
  · obtain ⟨o, q, k⟩ := onSome_inv (List.all_eq_true.mp h1 _ (PySem.W.mem_lookup e))
    obtain ⟨v, rfl, k⟩ := onSome_inv k
    exact ⟨v, mg_of KX g q, rdIn_ok KX k⟩
  · have hm := PySem.W.mem_lookup e
    obtain ⟨o, q, k⟩ := onSome_inv (List.all_eq_true.mp h2 _ hm)
    rw [onNone_inv k] at q
    obtain ⟨q1, q2⟩ := bts_boot _ hm
    exact ⟨mg_none_of KX g q, (bb x q2).trans q1⟩
  · obtain ⟨x, ns, e1, e2, ok⟩ := tabOk_at h4 k f e
    rw [Nat.zero_add] at ok
    obtain ⟨a, fd, e3, e4⟩ := fdAt k x e1
    obtain ⟨_, o, e5, e6⟩ := fnAt_ok KX g e3
    obtain ⟨p, e7, ok⟩ := onSome_inv ok
    rw [e3] at e7
    cases e7
    obtain ⟨ok, o14⟩ := both ok
    obtain ⟨ok, o13⟩ := both ok
    obtain ⟨ok, o12⟩ := both ok
    obtain ⟨ok, o11⟩ := both ok
    obtain ⟨ok, o10⟩ := both ok
    obtain ⟨ok, o9⟩ := both ok
    obtain ⟨ok, o8⟩ := both ok
    obtain ⟨ok, o7⟩ := both ok
    obtain ⟨ok, o6⟩ := both ok
    obtain ⟨ok, o5⟩ := both ok
    obtain ⟨ok, o4⟩ := both ok
    obtain ⟨ok, o3⟩ := both ok
    obtain ⟨o1, o2⟩ := both ok
    have ec : cxOf K fns gl nss exts k = ⟨fns, gl, ns, fd.scope, exts k fd.scope ns⟩ := by unfold cxOf; rw [e2, e4]; rfl
    rw [ec, e4]
    obtain ⟨body, q14, o14⟩ := onStmts_inv o14
    refine ⟨⟨o, fd, body, _, e5, e6, beq_iff_eq.mp o1, List.isEmpty_iff.mp o2, beq_iff_eq.mp o3, isNoneV_inv o4, rfl, rfl, plainP_inv (both o6).1, beq_iff_eq.mp (both o6).2, rfl, q14, o14⟩, ?_, of_decide_eq_true o7, of_decide_eq_true o8, beq_iff_eq.mp o9, notT o10, notT o11, fun x hx z => ?_, fun x hx => beq_iff_eq.mp (List.all_eq_true.mp o13 x hx)⟩
    · obtain ⟨ca, qc, k1⟩ := vRef_inv o5
      obtain ⟨o', q, k2⟩ := onSome_inv k1
      obtain ⟨k3, k4⟩ := both k2
      obtain ⟨tn, q2, _⟩ := vType_inv k3
      obtain ⟨vs, q3, k5⟩ := dFields_inv k4
      obtain ⟨u, r, q4, k6⟩ := onCons_inv k5
      obtain ⟨u2, r2, rfl, k7⟩ := onCons_inv k6
      obtain ⟨n, t, rfl, k8⟩ := vStr_inv k7
      refine ⟨ca, _, vs, t, qc, KX _ _ q, (by rw [q2]; intro z; cases z), q3, ?_⟩
      rw [← Array.getElem?_toList, q4, ← beq_iff_eq.mp k8]; rfl
    · have := notT (List.all_eq_true.mp o12 x hx)
      rw [z] at this
      exact absurd this (by decide)
end
end Mine

namespace Mine
open PySem PySem.Calls PySem.Spec PyProof.Rows PySem.W

/-- the tables of the codes: as they were, or grown -/
noncomputable def GT (H : Heap) (cps : List (Addr × Addr)) (h : Heap) : Prop :=
  (∀ b o vs, H.get? b = some o → o.cls = .none → o.data = .fields vs → ∃ more, h.get? b = some { o with data := .fields (vs ++ more) } ∧ (more = #[] ∨ isCodeTable H b)) ∧
  ∀ p ∈ cps, isCodeTable H p.2 ∧ ∃ ps, h.IsCode p.1 p.2 ps ∧ h.TableAt p.1 p.2 ps
theorem code_mv {h h' : Heap} {c P : Addr} {ps ps' : Array Value} {op : Obj} (ic : h.IsCode c P ps) (k : ∀ o, h.get? c = some o → h'.get? c = some o) (kp : h'.get? P = some op) (kd : op.data = .fields ps') (tr : TriplesOk ps'.toList) : h'.IsCode c P ps' := by
  obtain ⟨o, vs, x1, x2, x3, x4, x5, x6, x7, _, at_, r⟩ := ic
  have rest := r.2.2.2
  exact ⟨o, vs, x1, x2, x3, x4, x5, x6, x7, op, k _ at_, r.1, r.2.1, r.2.2.1, rest.1, rest.2.1, rest.2.2.1, kp, kd, tr, rest.2.2.2.2.2.2⟩
theorem code_tr {h : Heap} {c P : Addr} {ps : Array Value} (ic : h.IsCode c P ps) : TriplesOk ps.toList ∧ c ≠ P := by
  obtain ⟨_, _, _, _, _, _, _, _, _, _, r⟩ := ic
  exact r.2.2.2.2.2.2.2.2.2
theorem table_mv {h h' : Heap} {c P : Addr} {ps ps' : Array Value} (ta : h.TableAt c P ps) (k : ∀ o, h.get? c = some o → h'.get? c = some o) (kp : h'.get? P = some { cls := .none, data := .fields ps' }) : h'.TableAt c P ps' := by
  obtain ⟨⟨o, vs, c1, r⟩, _⟩ := ta
  exact ⟨⟨o, vs, k o c1, r⟩, kp⟩
theorem GT.mono {H : Heap} {cps : List (Addr × Addr)} {h h' : Heap} (k : ∀ b o vs, h.get? b = some o → o.data = .fields vs → h'.get? b = some o) (x : GT H cps h) : GT H cps h' := by
  refine ⟨fun b o vs e c d => ?_, fun p hp => ?_⟩
  · obtain ⟨more, e1, e2⟩ := x.1 b o vs e c d
    exact ⟨more, k _ _ _ e1 rfl, e2⟩
  · obtain ⟨t, ps, ic, ta⟩ := x.2 p hp
    have kc : ∀ o, h.get? p.1 = some o → h'.get? p.1 = some o := fun o e => by
      obtain ⟨o', vs', c1, c2, c3, _⟩ := ta.1
      rw [Option.some.inj (e.symm.trans c1)]
      exact k _ _ _ c1 c3
    have kt := k _ _ _ ta.2 rfl
    exact ⟨t, ps, code_mv ic kc kt rfl (code_tr ic).1, table_mv ta kc kt⟩
noncomputable def mkX (prog : Program) (w : World) (H : Heap) (O : OsState) (cps : List (Addr × Addr)) : Cfg := ⟨prog, w, H, O, GT H cps, fun _ _ k x => x.mono k⟩

theorem notKeep {o : Obj} (h : ¬ KeepMe o) : o.cls = .none ∧ ∃ vs, o.data = .fields vs := by
  unfold KeepMe at h
  constructor
  · exact Classical.byContradiction fun q => h (.inl q)
  · exact Classical.byContradiction fun q => h (.inr fun vs e => q ⟨vs, e⟩)
theorem GT.there {H : Heap} {cps : List (Addr × Addr)} : ∀ h, GT H cps h → ∀ b o, H.get? b = some o → ¬ KeepMe o → ∃ o', h.get? b = some o' := fun h x b o e k => by
  obtain ⟨c, vs, d⟩ := notKeep k
  obtain ⟨more, e1, _⟩ := x.1 b o vs e c d
  exact ⟨_, e1⟩
theorem GT.start {H : Heap} {cps : List (Addr × Addr)} (x : ∀ p ∈ cps, Based H H p.1 p.2 #[]) : GT H cps H :=
  ⟨fun b o vs e _ d => ⟨#[], by rw [e]; cases o; cases d; simp, .inl rfl⟩, fun p hp => ⟨(x p hp).tab.isCodeTable, #[], (x p hp).code, (x p hp).tab⟩⟩
theorem Wh.oldK {prog : Program} {w : World} {H : Heap} {O : OsState} {cps : List (Addr × Addr)} {h : Heap} (x : Wh (mkX prog w H O cps) h) : OldK H h := by
  have key : ∀ b o, H.get? b = some o → asItWas H h b o ∧ ∃ o', h.get? b = some o' := fun b o e => by
    by_cases k : KeepMe o
    · have := x.old b o e k
      exact ⟨.inl this, o, this⟩
    · obtain ⟨c, vs, d⟩ := notKeep k
      obtain ⟨more, e1, e2⟩ := x.tab.1 b o vs e c d
      refine ⟨?_, _, e1⟩
      rcases e2 with rfl | e2
      · refine .inl ?_
        rw [e1]; cases o; cases d; simp
      · exact .inr (.inl ⟨e2, c, vs, more, d, e1⟩)
  exact ⟨fun b o e => (key b o e).1, fun b o e => (key b o e).2⟩

/-- the quiet elements: of one name, with no word beyond its kind -/
noncomputable def onLoc (k : Nat → Bool) (p : PE) : Bool := pick p.ctorIdx 0 fun q => PE.loc.elim (motive_1 := fun _ => Bool) p q k
theorem onLoc_inv {k : Nat → Bool} {p : PE} (h : onLoc k p = true) : ∃ i, p = .loc i ∧ k i = true :=
  PE.loc.elim (motive_1 := fun p => onLoc k p = true → ∃ i, p = .loc i ∧ k i = true) p (pick_inv h) (fun i h => ⟨i, rfl, h⟩) h
noncomputable def isL0 : PE → Bool := onLoc fun i => i == 0
theorem isL0_inv {p : PE} (h : isL0 p = true) : p = .loc 0 := by
  obtain ⟨i, rfl, k⟩ := onLoc_inv h
  rw [beq_iff_eq.mp k]
noncomputable def onIsNone (k : PE → Bool) (p : PE) : Bool := pick p.ctorIdx 12 fun q => PE.isNone.elim (motive_1 := fun _ => Bool) p q k
theorem onIsNone_inv {k : PE → Bool} {p : PE} (h : onIsNone k p = true) : ∃ a, p = .isNone a ∧ k a = true :=
  PE.isNone.elim (motive_1 := fun p => onIsNone k p = true → ∃ a, p = .isNone a ∧ k a = true) p (pick_inv h) (fun a h => ⟨a, rfl, h⟩) h
noncomputable def onTypeIs (k : PE → Ty → Bool) (p : PE) : Bool := pick p.ctorIdx 14 fun q => PE.typeIs.elim (motive_1 := fun _ => Bool) p q k
theorem onTypeIs_inv {k : PE → Ty → Bool} {p : PE} (h : onTypeIs k p = true) : ∃ a t, p = .typeIs a t ∧ k a t = true :=
  PE.typeIs.elim (motive_1 := fun p => onTypeIs k p = true → ∃ a t, p = .typeIs a t ∧ k a t = true) p (pick_inv h) (fun a t h => ⟨a, t, rfl, h⟩) h
noncomputable def onOr (k : PE → PE → Bool) (p : PE) : Bool := pick p.ctorIdx 6 fun q => PE.or.elim (motive_1 := fun _ => Bool) p q k
theorem onOr_inv {k : PE → PE → Bool} {p : PE} (h : onOr k p = true) : ∃ a b, p = .or a b ∧ k a b = true :=
  PE.or.elim (motive_1 := fun p => onOr k p = true → ∃ a b, p = .or a b ∧ k a b = true) p (pick_inv h) (fun a b h => ⟨a, b, rfl, h⟩) h
noncomputable def isQn : Nat → PE → Bool
  | 0, _ => false
  | n + 1, p => onIsNone isL0 p || onTypeIs (fun a _ => isL0 a) p || onOr (fun a b => isQn n a && isQn n b) p
noncomputable def isQ (p : PE) : Bool := isQn 9 p
inductive Qe : PE → Prop where
  | none : Qe (.isNone (.loc 0))
  | ty (t : Ty) : Qe (.typeIs (.loc 0) t)
  | or {a b : PE} : Qe a → Qe b → Qe (.or a b)
theorem isQn_e : ∀ {n : Nat} {p : PE}, isQn n p = true → Qe p
  | 0, _, h => by cases h
  | n + 1, p, h => by
    rcases either h with h | h
    · rcases either h with h | h
      · obtain ⟨a, rfl, k⟩ := onIsNone_inv h; rw [isL0_inv k]; exact .none
      · obtain ⟨a, t, rfl, k⟩ := onTypeIs_inv h; rw [isL0_inv k]; exact .ty t
    · obtain ⟨a, b, rfl, k⟩ := onOr_inv h; exact .or (isQn_e (both k).1) (isQn_e (both k).2)
theorem isQ_e {p : PE} (h : isQ p = true) : Qe p := isQn_e h
noncomputable def qb : PE → PyData → Bool
  | .isNone _, d => (match d with | .none => true | _ => false)
  | .typeIs _ t, d => typeIs d t
  | .or a b, d => qb a d || qb b d
  | _, _ => false
theorem qb_ev {C : Calls} {d : PyData} {p : PE} (h : isQ p = true) : ev C p [some d] = .ok (.bool (qb p d)) := by
  have q := isQ_e h
  clear h
  induction q with
  | none => cases d <;> rfl
  | ty t => rfl
  | @or a b _ _ ia ib =>
    rw [ev, ia, show qb (.or a b) d = (qb a d || qb b d) from rfl]
    cases qb a d
    · exact ib
    · rfl

noncomputable def gcx (x : Str) (sc : Scope) : Cx := ⟨[], [], [x], sc, fun _ _ => false⟩

section
variable {prog : Program} {w : World} {A : Around} {E : Value → Shared → Prop} {s : Shared} {mg mb m : Str → Option Value} {genv : Env} {sc : Scope} {x : Str} {v : Value} {d : PyData}
theorem quiet_sound (hs : genv.scope = sc) (hg : genv.globals = mainGlobals) (hbi : genv.builtins = builtinsNs) (hk : sc.kind = .function) (g : s.heap.Ns mainGlobals mg) (b : s.heap.Ns builtinsNs mb) (bt : ∀ x v, bts.lookup x = some v → mg x = none ∧ mb x = some v)
    (n : s.heap.Ns genv.locals m) (hx : m x = some v) (r : Rd s.heap v d) : ∀ {p : PE} {e : Expr} {Q : Value → Shared → Prop}, isQ p = true → okE (gcx x sc) p e = true → Q (.bool (qb p d)) s → wpAny (model prog w) A (eval e genv) Q E s := by
  have ld : ∀ {e : Expr} {Q : Value → Shared → Prop}, okE (gcx x sc) (.loc 0) e = true → Q v s → wpAny (model prog w) A (eval e genv) Q E s := fun {e Q} ok h => by
    obtain ⟨y, p, rfl, k0⟩ := onName_inv ok
    obtain rfl : x = y := Option.some.inj (beq_iff_eq.mp (both k0).1)
    obtain ⟨k1, k2⟩ := kindIs_eq (both k0).2
    exact wpAny_Name (wpAny_loadName_local (by rw [hs]; exact hk) (by show genv.scope.names.lookup x = _; rw [hs]; exact k1) n hx h) k2
  have lb : ∀ {y : Str} {u : Value} {pp : Pos} {Q : Value → Shared → Prop}, isBt (gcx x sc) y u = true → Q u s → wpAny (model prog w) A (eval (.Name y pp) genv) Q E s := fun {y u pp Q} h1 h => by
    unfold isBt at h1
    simp only [Bool.and_eq_true, beq_iff_eq] at h1
    obtain ⟨e1, e2⟩ := bt y u h1.2
    obtain ⟨k1, k2⟩ := kindIs_eq h1.1
    exact Name_function_global (by rw [hs]; exact hk) (by show genv.scope.names.lookup y = _; rw [hs]; exact k1) (loadGlobal_builtin (by rw [hg]; exact g) e1 (by rw [hbi]; exact b) e2 h) k2
  intro p e Q hq0
  have hq := isQ_e hq0
  clear hq0
  induction hq generalizing e Q with
  | none =>
    intro ok h
    obtain ⟨l', os, rs, p, rfl, k0⟩ := onCmp_inv ok
    obtain ⟨k1, ok2⟩ := both k0
    obtain ⟨k2, k3⟩ := both k1
    obtain ⟨o, rfl, k4⟩ := on1_inv k2
    obtain rfl := isIs_inv k4
    obtain ⟨r', rfl, k5⟩ := on1_inv k3
    obtain ⟨n, q, rfl⟩ := isNoneC_inv k5
    refine wpAny_Compare1 (ld ok2 (wpAny_Constant_none (is_none ?_))) rfl
    rw [ofNone r]; revert h; cases d <;> exact fun h => h
  | ty t =>
    intro ok h
    obtain ⟨l', os, rs, p, rfl, k0⟩ := onCmp_inv ok
    obtain ⟨k1, k2⟩ := both k0
    obtain ⟨k3, k4⟩ := both k1
    obtain ⟨o, rfl, k5⟩ := on1_inv k3
    obtain rfl := isIs_inv k5
    obtain ⟨r', rfl, k6⟩ := on1_inv k4
    obtain ⟨g, gp, rfl, ok4⟩ := onName_inv k6
    obtain ⟨f, fp, x', cp, rfl, ok1, ok2, ok3⟩ := isTyC_inv k2
    refine wpAny_Compare1 (Call_ (lb ok1 (PyProof.Rows.callWith_type1 (args_cons (ld ok3 (args_nil (typeCall_sound (X := mkX prog w s.heap s.os []) r (lb ok4 ?_)))) (star_plain ok2)) (star_plain ok2)))) rfl
    rw [typeIs_is]
    exact typeIs_sound (X := mkX prog w s.heap s.os []) r h
  | @or a b _ _ ia ib =>
    intro ok h
    obtain ⟨o, xs, p, rfl, k0⟩ := onBoolOp_inv ok
    obtain ⟨k1, k2⟩ := both k0
    obtain rfl := isOr_inv k1
    obtain ⟨y, z, q, rfl, k3⟩ := on2r_inv k2
    obtain ⟨ok1, ok2⟩ := both k3
    refine BoolOp_or (ia ok1 (wpAny_truthy_bool ?_))
    replace h : Q (.bool (qb a d || qb b d)) s := h
    revert h
    cases qb a d with
    | true => exact fun h => h
    | false =>
      intro h
      cases q with
      | nil => exact BoolOp_one (ib ok2 h)
      | cons q1 q2 => exact ib ok2 h
end
end Mine

namespace Mine
open PySem PySem.Calls PySem.Spec PyProof.Rows PySem.W

theorem GT.grow {H h h' : Heap} {cps : List (Addr × Addr)} {ca P : Addr} {ps more : Array Value} (x : GT H cps h) (hP : isCodeTable H P) (tp : h.get? P = some { cls := .none, data := .fields ps })
    (k : ∀ b o, h.get? b = some o → b ≠ P → h'.get? b = some o) (tp' : h'.get? P = some { cls := .none, data := .fields (ps ++ more) }) (ic : h'.IsCode ca P (ps ++ more)) : GT H cps h' := by
  have tr := (code_tr ic).1
  refine ⟨fun b o vs e c d => ?_, fun p hp => ?_⟩
  · obtain ⟨m, e1, e2⟩ := x.1 b o vs e c d
    by_cases hb : b = P
    · subst hb
      have e3 := Option.some.inj (e1.symm.trans tp)
      have e4 : vs ++ m = ps := by
        have := congrArg Obj.data e3
        injection this
      refine ⟨m ++ more, ?_, .inr hP⟩
      rw [tp', ← e4, Array.append_assoc]
      exact congrArg some (congrArg (fun q : Obj => { q with data := .fields (vs ++ (m ++ more)) }) e3).symm
    · exact ⟨m, k _ _ e1 hb, e2⟩
  · obtain ⟨t, qs, ic₁, ta⟩ := x.2 p hp
    have np : p.1 ≠ P := fun q => by
      obtain ⟨o', vs', c1, c2, _⟩ := ta.1
      rw [q, tp] at c1; cases c1; cases c2
    have kc : ∀ o, h.get? p.1 = some o → h'.get? p.1 = some o := fun o e => k _ _ e np
    by_cases hq : p.2 = P
    · exact ⟨t, ps ++ more, code_mv ic₁ kc (hq ▸ tp') rfl tr, table_mv ta kc (hq ▸ tp')⟩
    · exact ⟨t, qs, code_mv ic₁ kc (k _ _ ta.2 hq) rfl (code_tr ic₁).1, table_mv ta kc (k _ _ ta.2 hq)⟩

section
variable {M : Model} {A : Around} {E : Value → Shared → Prop} {s : Shared}
theorem gcode {env : Env} {c P : Addr} {ps : Array Value} {pos : Pos} {qualname : Str} {scope : Scope} {Q : Value → Shared → Prop} (hc : env.code = .ref c) (hok : s.heap.IsCode c P ps) (htab : s.heap.TableAt c P ps)
    (hQ : ∀ code h' tk more, Heap.ExtBut P s.heap h' → s.heap.objs.size ≤ h'.objs.size → h'.IsCode c P (ps ++ more) → h'.get? P = some { cls := .none, data := .fields (ps ++ more) } → Q code { s with heap := h', toks := tk }) :
    wpAny M A (genexprCode env pos qualname scope) Q E s := by
  match hnf : codeAmong pos ps.toList with
  | none =>
    exact wpAny_genexprCodeX hc hok htab hnf fun c' h' tk x1 x2 x3 x4 _ x6 _ => hQ _ h' tk _ x1 (Nat.le_trans x2 (Nat.le_of_lt x3)) x4 x6.2
  | some cv =>
    obtain ⟨⟨co, cf, gc, _, dc, pl⟩, tp⟩ := id htab
    unfold genexprCode codeAt
    rw [hc]
    refine wpAny_bind (m := fieldsOf (.ref c)) (wpAny_fieldsOf gc dc ?_)
    rw [show cf.getD 11 .none = .ref P by rw [Array.getD_eq_getD_getElem?, pl]; rfl]
    refine wpAny_bind (m := fieldsOf (.ref P)) (wpAny_fieldsOf tp rfl ?_)
    rw [hnf]
    exact wpAny_pure (hQ cv s.heap s.toks #[] (Heap.ExtBut.refl _ _) (Nat.le_refl _) (by simpa using hok) (by simpa using htab.2))
end

theorem closure_none {scope : Scope} {env : Env} (h : scope.names.all (fun p => !(p.2 == .free)) = true) : closureFor scope env = pure [] := by
  unfold closureFor
  have go : ∀ (l : List (Str × NameKind)) (cs : List (Str × Addr)), l.all (fun p => !(p.2 == .free)) = true → (forIn l cs fun (x : Str × NameKind) r => match x with
      | (name, kind) => if (kind == .free) = true then do
          let a ← cellOf env name
          pure (ForInStep.yield ((name, a) :: r))
        else pure (ForInStep.yield r) : Sem (List (Str × Addr))) = pure cs := by
    intro l
    induction l with
    | nil => intro cs _; rfl
    | cons p l ih =>
      intro cs h
      simp only [List.all_cons, Bool.and_eq_true, Bool.not_eq_true'] at h
      obtain ⟨n, k⟩ := p
      rw [List.forIn_cons]
      simp only [h.1, Bool.false_eq_true, if_false]
      exact ih cs h.2
  have := go scope.names [] h
  first
    | (rw [this]; rfl)
    | (simp only [bind_pure]; exact this)
    | exact this

noncomputable def onAll (k : PE → PE → Bool) (p : PE) : Bool := pick p.ctorIdx 26 fun q => PE.all.elim (motive_1 := fun _ => Bool) p q k
theorem onAll_inv {k : PE → PE → Bool} {p : PE} (h : onAll k p = true) : ∃ a b, p = .all a b ∧ k a b = true :=
  PE.all.elim (motive_1 := fun p => onAll k p = true → ∃ a b, p = .all a b ∧ k a b = true) p (pick_inv h) (fun a b h => ⟨a, b, rfl, h⟩) h
noncomputable def onGen (k : Expr → List Comprehension → Scope → Bool) (e : Expr) : Bool := pick e.ctorIdx 11 fun q => Expr.GeneratorExp.elim (motive_1 := fun _ => Bool) e q fun x cs sc _ => k x cs sc
theorem onGen_inv {k : Expr → List Comprehension → Scope → Bool} {e : Expr} (h : onGen k e = true) : ∃ x cs sc p, e = .GeneratorExp x cs sc p ∧ k x cs sc = true :=
  Expr.GeneratorExp.elim (motive_1 := fun e => onGen k e = true → ∃ x cs sc p, e = .GeneratorExp x cs sc p ∧ k x cs sc = true) e (pick_inv h) (fun x cs sc p h => ⟨x, cs, sc, p, rfl, h⟩) h
noncomputable def genOk (ns : List Str) (sc : Scope) (elt : PE) (i : Nat) (ex : Expr) (gs : Scope) (x y : Str) : Bool :=
  ns[i]? == some y && kindIs ⟨[], [], ns, sc, fun _ _ => false⟩ y .local && isQ elt && okE (gcx x gs) elt ex && gs.kind == .function && !gs.isCoroutine &&
    gs.names.all (fun p => !(p.2 == .cell)) && gs.names.all (fun p => !(p.2 == .free)) && gs.names.lookup (".0" : Str) == some .local && gs.names.lookup x == some .local
noncomputable def genC (ns : List Str) (sc : Scope) (elt : PE) (i : Nat) (ex : Expr) (gs : Scope) (c : Comprehension) : Bool := on0 c.ifs && c.is_async == 0 && onName (fun x => onName (fun y => genOk ns sc elt i ex gs x y) c.iter) c.target
noncomputable def genE (ns : List Str) (sc : Scope) (elt : PE) (i : Nat) (e : Expr) : Bool := onGen (fun ex cs gs => on1 (genC ns sc elt i ex gs) cs) e
noncomputable def genB (ns : List Str) (sc : Scope) (f : Expr) : Bool := onName (fun f => isBt ⟨[], [], ns, sc, fun _ _ => false⟩ f (.builtin "all")) f
noncomputable def genA (ns : List Str) (sc : Scope) (elt : PE) (e : Expr) (i : Nat) : Bool := onCall (fun f xs ks _ => genB ns sc f && on0 ks && on1 (genE ns sc elt i) xs) e
noncomputable def allExt (sc : Scope) (ns : List Str) (p : PE) (e : Expr) : Bool := onAll (fun elt it => onLoc (genA ns sc elt e) it) p
theorem genC_inv {ns : List Str} {sc : Scope} {elt : PE} {i : Nat} {ex : Expr} {gs : Scope} {c : Comprehension} (h : genC ns sc elt i ex gs c = true) : ∃ x xp y yp, c = ⟨.Name x xp, .Name y yp, [], 0⟩ ∧ genOk ns sc elt i ex gs x y = true := by
  obtain ⟨k10, k11⟩ := both h
  obtain ⟨k12, k13⟩ := both k10
  obtain ⟨ct, ci, cf, ca'⟩ := c
  obtain rfl := on0_inv k12
  obtain rfl := beq_iff_eq.mp k13
  obtain ⟨x, xp, rfl, k14⟩ := onName_inv k11
  obtain ⟨y, yp, rfl, k15⟩ := onName_inv k14
  exact ⟨_, _, _, _, rfl, k15⟩
theorem genE_inv {ns : List Str} {sc : Scope} {elt : PE} {i : Nat} {e : Expr} (h : genE ns sc elt i e = true) : ∃ ex x xp y yp gs gp, e = .GeneratorExp ex [⟨.Name x xp, .Name y yp, [], 0⟩] gs gp ∧ genOk ns sc elt i ex gs x y = true := by
  obtain ⟨ex, cs, gs, gp, rfl, k8⟩ := onGen_inv h
  obtain ⟨cm, rfl, k9⟩ := on1_inv k8
  obtain ⟨x, xp, y, yp, rfl, k⟩ := genC_inv k9
  exact ⟨_, _, _, _, _, _, _, rfl, k⟩
theorem genA_inv {ns : List Str} {sc : Scope} {elt : PE} {i : Nat} {e : Expr} (h : genA ns sc elt e i = true) : ∃ f fp g pp, e = .Call (.Name f fp) [g] [] pp ∧ isBt ⟨[], [], ns, sc, fun _ _ => false⟩ f (.builtin "all") = true ∧ genE ns sc elt i g = true := by
  obtain ⟨f, xs, ks, pp, rfl, k2⟩ := onCall_inv h
  obtain ⟨k3, k4⟩ := both k2
  obtain ⟨k5, k6⟩ := both k3
  obtain ⟨f, fp, rfl, o1⟩ := onName_inv k5
  obtain rfl := on0_inv k6
  obtain ⟨g, rfl, k7⟩ := on1_inv k4
  exact ⟨_, _, _, _, rfl, o1, k7⟩

theorem allR_q {C : Calls} {elt : PE} (hq : isQ elt = true) : ∀ ds : List PyData, allR (ds.map fun d => ev C elt [some d]) = .ok (.bool (ds.all (qb elt)))
  | [] => rfl
  | d :: ds => by
    have ih := allR_q (C := C) hq ds
    rw [List.map_cons, qb_ev (d := d) hq, List.all_cons]
    cases qb elt d with
    | true => simp only [allR, Bool.true_and]; exact ih
    | false => rfl
end Mine

namespace Mine
open PySem PySem.Calls PySem.Spec PyProof.Rows PySem.W

section
variable {prog : Program} {w : World} {H : Heap} {O : OsState} {cps : List (Addr × Addr)} {A : Around} {E : Value → Shared → Prop} {s₁ : Shared}

/-- an iterator, just made, over items that are told -/
noncomputable def ItOk (prog : Program) (w : World) (s₁ : Shared) (P : Addr) (ds : List PyData) (I : Addr) (s₂ : Shared) : Prop :=
  ∃ (fp wr : List Addr) (Pi : Nat → Value → Prop) (St₀ : Nat → Heap → Prop), (∀ b o, s₁.heap.get? b = some o → s₂.heap.get? b = some o) ∧ s₂.gens = s₁.gens ∧ s₂.os = s₁.os ∧ s₁.heap.objs.size ≤ s₂.heap.objs.size ∧
    (∀ A' : Around, A'.handled = none → Walks prog w A' I fp wr ds.length Pi St₀) ∧ St₀ 0 s₂.heap ∧ (∀ b ∈ fp, b < s₂.heap.objs.size) ∧ P ∉ fp ∧ (∀ b ∈ wr, s₁.heap.objs.size ≤ b) ∧
    (∀ i v, Pi i v → ∃ d, ds[i]? = some d ∧ ∀ h' : Heap, (∀ b o, b < s₁.heap.objs.size → b ≠ P → s₂.heap.get? b = some o → h'.get? b = some o) → Rd h' v d)

/-- a generator expression over items that are told, and all of it -/
theorem gen_core {env : Env} {elt : PE} {ex : Expr} {x y : Str} {px py : Pos} {gs : Scope} {gp : Pos} {ca P : Addr} {ds : List PyData} {Q : Value → Shared → Prop} {mg mb : Str → Option Value} {bm : Addr} {ob : Obj} {xv : Value}
    (hcp : (ca, P) ∈ cps) (BM : BMod H mainGlobals mg bm ob) (hb : H.Ns builtinsNs mb) (bt : ∀ x v, bts.lookup x = some v → mg x = none ∧ mb x = some v) (lim : H.NoLimit)
    (hcode : env.code = .ref ca) (hgl : env.globals = mainGlobals) (hh : A.handled = none) (hroom : A.depth < recursionLimit)
    (hq : isQ elt = true) (hex : okE (gcx x gs) elt ex = true) (hkind : gs.kind = .function) (hco : gs.isCoroutine = false) (hcell : ∀ y ∈ gs.names, y.2 ≠ .cell) (hclos : closureFor gs env = pure [])
    (h0 : gs.names.lookup (".0" : Str) = some NameKind.local) (hx : gs.names.lookup x = some .local) (hs : ∀ z, genFold (.Name y py) env z = pure z)
    (w₁ : W (mkX prog w H O cps) s₁) (hit : ∀ (Q' : Value → Shared → Prop), (∀ I s₂, ItOk prog w s₁ P ds I s₂ → Q' (.ref I) s₂) → wpAny (model prog w) A (pyIter xv) Q' E s₁)
    (hQ : ∀ s', Xt [] s₁.heap s'.heap → Wh (mkX prog w H O cps) s'.heap → AllBare s'.gens → s'.os = O → Q (.bool (ds.all (qb elt))) s') {s : Shared}
    (hev : ∀ Q', Q' xv s₁ → wpAny (model prog w) A (eval (.Name y py) env) Q' E s) :
    wpAny (model prog w) A (eval (.GeneratorExp ex [⟨.Name x px, .Name y py, [], 0⟩] gs gp) env) (fun v s' => wpAny (model prog w) A (call (.builtin "all") [v]) Q E s') E s := by
  refine wpAny_GeneratorExp_walksQD hh hco hclos hcell h0 hx hkind hroom (hev _ (hit _ fun I s₂ it => ?_)) hs
  obtain ⟨fp, wr, Pi, St₀, hk, hg2, ho2, hsz, hW, hst, hfp, hPf, hwr, hPi⟩ := it
  have lim₁ : s₁.heap.NoLimit := let ⟨mc, n1, n2⟩ := lim; ⟨mc, w₁.h.ns n1, n2⟩
  have lim₂ : s₂.heap.NoLimit := lim₁.keeps hk
  obtain ⟨hct, ps, ic, ta⟩ := w₁.h.tab.2 _ hcp
  have hPs : P < s₁.heap.objs.size := Heap.lt_size ta.2
  refine ⟨lim₂, gcode hcode (ic.keeps hk) (ta.keeps hk) fun code h₃ tk₃ more x₃ sz₃ ic₃ tp₃ => ?_⟩
  have k3 : ∀ b o, s₁.heap.get? b = some o → b ≠ P → h₃.get? b = some o := fun b o e np => x₃ b o np (hk b o e)
  have nP : ∀ {b : Addr} {o : Obj}, s₁.heap.get? b = some o → KeepMe o → b ≠ P := fun {b o} e k z => by
    rw [z, ta.2] at e
    cases e
    rcases k with k | k
    · exact k rfl
    · exact k _ rfl
  have ns3 : ∀ {a : Addr} {m : Str → Option Value}, H.Ns a m → h₃.Ns a m := fun {a m} n => by
    obtain ⟨o, es, ep, e1, e2, r⟩ := w₁.h.ns n
    exact ⟨o, es, ep, k3 _ _ e1 (nP e1 (.inr fun vs q => by rw [e2] at q; cases q)), e2, r⟩
  have ob3 : h₃.get? bm = some ob := by
    have e1 := w₁.h.old _ _ BM.obj (.inr fun vs q => by rw [BM.data] at q; cases q)
    exact k3 _ _ e1 (nP e1 (.inr fun vs q => by rw [BM.data] at q; cases q))
  refine wpAny_builtinsFor (s := { s₂ with heap := h₃, toks := tk₃ }) (by rw [hgl]; exact ns3 BM.ns) BM.name BM.ne ob3 BM.cls BM.dict BM.data ?_
  have lim₃ : h₃.NoLimit := let ⟨mc, n1, n2⟩ := lim; ⟨mc, ns3 n1, n2⟩
  have hstat : cStatics < s₁.heap.objs.size := let ⟨_, hn, _⟩ := lim₁; hn.lt
  refine ⟨I, fp, wr, ds.length, Pi, St₀, fun _ => true, fun i y => ∃ d, ds[i]? = some d ∧ y = .bool (qb elt d), rfl, hW, (hW A hh).frame _ _ _ hst (fun b hb o e => x₃ b o (fun z => hPf ((show b = P from z) ▸ hb)) e), fun b hb => Nat.lt_of_lt_of_le (hfp b hb) sz₃, lim₃,
    fun hm => absurd (hwr _ hm) (Nat.not_le_of_lt hstat), fun href hhref => ?_, fun a h₅ tk gst hgb hag hsz₅ hk₅ W hat => ?_⟩
  · have inT : ∀ (t : Shared), (∀ b ∈ List.range h₃.objs.size, b ∉ wr → ∀ o, href.get? b = some o → t.heap.get? b = some o) → ∀ b o, h₃.get? b = some o → b < s₁.heap.objs.size → t.heap.get? b = some o := fun t kt b o e hb =>
      kt b (List.mem_range.mpr (Heap.lt_size e)) (fun hm => absurd (hwr b hm) (Nat.not_le_of_lt hb)) o (hhref b o e)
    refine ⟨fun A' E' i v t m₂ _ _ _ _ _ _ _ => wpAny_pure ⟨rfl, ⟨t.heap, t.toks, rfl, fun _ _ e => e⟩⟩, fun A' E' i v t m₂ hA _ _ hp _ hn hm kt => ?_⟩
    obtain ⟨d, e1, rd⟩ := hPi i v hp
    have nsT : ∀ {a : Addr} {m : Str → Option Value}, H.Ns a m → t.heap.Ns a m := fun {a m} n => by
      obtain ⟨o, es, ep, e1, e2, r⟩ := w₁.h.ns n
      have e3 := k3 _ _ e1 (nP e1 (.inr fun vs q => by rw [e2] at q; cases q))
      exact ⟨o, es, ep, inT t kt _ _ e3 (Heap.lt_size e1), e2, r⟩
    refine quiet_sound (genv := genEnv gs [] h₃.objs.size code builtinsNs env) (sc := gs) (d := d) rfl hgl rfl hkind (nsT BM.ns) (nsT hb) bt hn hm (rd _ fun b o hb np e => inT t kt b o (x₃ b o np e) hb) hq hex ?_
    exact ⟨⟨d, e1, rfl⟩, ⟨t.heap, t.toks, rfl, fun _ _ e => e⟩⟩
  · have W' := W.in4_1
    refine call_all_walkS (W'.self 0 _ _ _ hat ⟨a, _, _, _, _, _, _, fun j => match ds[j]? with | some d => qb elt d | none => true, rfl, W', hat, fun j v s Q E hv hQ => ?_, fun s' hm => ?_⟩)
    · obtain ⟨i, hi, d, hd, rfl⟩ := hv
      have : j = i := by
        unfold passing at hi
        rw [List.drop_zero, List.filter_eq_self.mpr (fun _ _ => rfl)] at hi
        rw [List.getElem?_range] at hi
        · cases hi; rfl
        · have := (List.getElem?_eq_some_iff.mp hi).1
          simpa using this
      subst this
      simp only [hd] at hQ
      exact wpAny_truthy_bool hQ
    · have hlen : (passing (fun _ => true) ds.length 0).length = ds.length := by
        unfold passing
        rw [List.drop_zero, List.filter_eq_self.mpr (fun _ _ => rfl), List.length_range]
      rw [hlen, show ((List.range ds.length).all fun j => match ds[j]? with | some d => qb elt d | none => true) = ds.all (qb elt) from by
        rw [← all_rangeD ds (qb elt)]
        congr 1
        funext j
        cases ds[j]? <;> rfl]
      have kk : ∀ b o, s₁.heap.get? b = some o → b ≠ P → s'.heap.get? b = some o := fun b o e np => by
        refine hm.heap b o (fun z => ?_) (hk₅ b o (k3 b o e np))
        have hb := Heap.lt_size e
        rcases List.mem_cons.mp z with z | z
        · exact Nat.lt_irrefl _ (Nat.lt_of_lt_of_le hb (Nat.le_trans hsz (Nat.le_trans sz₃ (Nat.le_of_eq (show h₃.objs.size = b from z.symm)))))
        · exact absurd (hwr b z) (Nat.not_le_of_lt hb)
      have kp : s'.heap.get? P = some { cls := .none, data := .fields (ps ++ more) } := by
        refine hm.heap P _ (fun z => ?_) (hk₅ _ _ tp₃)
        rcases List.mem_cons.mp z with z | z
        · exact Nat.lt_irrefl _ (Nat.lt_of_lt_of_le hPs (Nat.le_trans hsz (Nat.le_trans sz₃ (Nat.le_of_eq (show h₃.objs.size = P from z.symm)))))
        · exact absurd (hwr P z) (Nat.not_le_of_lt hPs)
      have ic' : s'.heap.IsCode ca P (ps ++ more) := by
        obtain ⟨o, vs, file, tf, flags, tg, inF, text, tt, op, a1, r1, r2, r3, r4, r5, r6, b1, r7, r8, r9⟩ := ic
        obtain ⟨_, _, _, _, _, _, _, _, _, _, _, _, _, _, _, _, _, _, _, tr', _⟩ := ic₃
        exact ⟨o, vs, file, tf, flags, tg, inF, text, tt, _, kk _ _ a1 r9, r1, r2, r3, r4, r5, r6, kp, rfl, tr', r9⟩
      refine hQ s' (fun b o _ e k => ⟨o.slots, kk b o e (nP e k)⟩) ⟨fun b o e k => ?_, GT.grow w₁.h.tab hct ta.2 kk kp ic'⟩ ?_ ?_
      · have e1 := w₁.h.old b o e k
        exact kk b o e1 (nP e1 k)
      · refine AllBare.movedS (s := { s₂ with gens := s₂.gens.push gst, toks := tk, heap := h₅ }) ?_ hm
        show AllBare (s₂.gens.push gst)
        rw [hg2]
        exact w₁.gens.push hgb
      · exact hm.os.trans (ho2.trans w₁.os)

theorem seq_iter {P : Addr} {v : Value} {d : PyData} {ds : List PyData} {Q' : Value → Shared → Prop} {oP : Obj} (hP : s₁.heap.get? P = some oP) (hc : oP.cls = .none) (r : Rd s₁.heap v d) (hd : seqOf d = some ds)
    (k : ∀ I s₂, ItOk prog w s₁ P ds I s₂ → Q' (.ref I) s₂) : wpAny (model prog w) A (pyIter v) Q' E s₁ := by
  have hPs : P ≠ s₁.heap.objs.size := Nat.ne_of_lt (Heap.lt_size hP)
  cases r with
  | tuple ho hcl hdt z ra =>
    rename_i a o vs n xs
    simp only [seqOf_1, Option.some.injEq] at hd
    subst hd
    have ht : s₁.heap.IsTuple a vs := ⟨_, ho, hcl, _, hdt⟩
    have ht' : ∀ ob, (s₁.heap.push ob).IsTuple a vs := fun ob => let ⟨o', e', r'⟩ := ht; ⟨o', Heap.get?_push_of_some _ e', r'⟩
    have hl := ra.length
    rw [Array.length_toList] at hl
    have hne : a ≠ s₁.heap.objs.size := Nat.ne_of_lt (Heap.lt_size ho)
    have haP : P ≠ a := fun q => by rw [← q, hP] at ho; cases ho; rw [hc] at hcl; cases hcl
    refine wpAny_pyIter_tuple ht (k _ _ ⟨[s₁.heap.objs.size, a], [s₁.heap.objs.size], _, _, fun b o e => Heap.get?_push_of_some _ e, rfl, rfl, by rw [Heap.size_push]; exact Nat.le_succ _, fun A' hA => hl ▸ Walks.tuple hA _ a hne vs, ⟨⟨_, Heap.get?_push_size _ rfl, rfl, rfl⟩, ht' _⟩, ?_, ?_, ?_, ?_⟩)
    · intro b hb
      rw [Heap.size_push]
      rcases List.mem_cons.mp hb with rfl | hb
      · exact Nat.lt_succ_self _
      · rw [List.mem_singleton.mp hb]; exact Nat.lt_succ_of_lt (Heap.lt_size ho)
    · intro hb
      rcases List.mem_cons.mp hb with hb | hb
      · exact hPs hb
      · exact haP (List.mem_singleton.mp hb)
    · intro b hb
      rw [List.mem_singleton.mp hb]; exact Nat.le_refl _
    · intro i u hu
      have hi : i < vs.size := (Array.getElem?_eq_some_iff.mp hu).1
      obtain ⟨e, he⟩ : ∃ e, xs[i]? = some e := ⟨xs[i]'(by first | assumption | exact Nat.le_add_left _ _ | decide | lia), List.getElem?_eq_getElem (by first | assumption | exact Nat.le_add_left _ _ | decide | lia)⟩
      obtain ⟨u', hu', ru⟩ := ra.get i e he
      have : u' = u := by
        have h1 : vs.toList[i]? = some u := by rw [Array.getElem?_toList]; exact hu
        rw [h1] at hu'; exact (Option.some.inj hu').symm
      subst this
      refine ⟨e, he, fun h' kk => ru.move fun b o vs n eb hdb hcb => ⟨o.slots, kk b o (Heap.lt_size eb) (fun q => ?_) (Heap.get?_push_of_some _ eb)⟩⟩
      rw [q, hP] at eb; cases eb; exact hcb hc
  | list ho hcl hdt z ra =>
    rename_i a o vs n xs
    simp only [seqOf_2, Option.some.injEq] at hd
    subst hd
    have ht : s₁.heap.IsList a vs := ⟨_, ho, hcl, _, hdt⟩
    have ht' : ∀ ob, (s₁.heap.push ob).IsList a vs := fun ob => let ⟨o', e', r'⟩ := ht; ⟨o', Heap.get?_push_of_some _ e', r'⟩
    have hl := ra.length
    rw [Array.length_toList] at hl
    have hne : a ≠ s₁.heap.objs.size := Nat.ne_of_lt (Heap.lt_size ho)
    have haP : P ≠ a := fun q => by rw [← q, hP] at ho; cases ho; rw [hc] at hcl; cases hcl
    refine wpAny_pyIter_list ht (k _ _ ⟨[s₁.heap.objs.size, a], [s₁.heap.objs.size], _, _, fun b o e => Heap.get?_push_of_some _ e, rfl, rfl, by rw [Heap.size_push]; exact Nat.le_succ _, fun A' hA => hl ▸ Walks.list hA _ a hne vs, ⟨⟨_, Heap.get?_push_size _ rfl, rfl, rfl⟩, ht' _⟩, ?_, ?_, ?_, ?_⟩)
    · intro b hb
      rw [Heap.size_push]
      rcases List.mem_cons.mp hb with rfl | hb
      · exact Nat.lt_succ_self _
      · rw [List.mem_singleton.mp hb]; exact Nat.lt_succ_of_lt (Heap.lt_size ho)
    · intro hb
      rcases List.mem_cons.mp hb with hb | hb
      · exact hPs hb
      · exact haP (List.mem_singleton.mp hb)
    · intro b hb
      rw [List.mem_singleton.mp hb]; exact Nat.le_refl _
    · intro i u hu
      have hi : i < vs.size := (Array.getElem?_eq_some_iff.mp hu).1
      obtain ⟨e, he⟩ : ∃ e, xs[i]? = some e := ⟨xs[i]'(by first | assumption | exact Nat.le_add_left _ _ | decide | lia), List.getElem?_eq_getElem (by first | assumption | exact Nat.le_add_left _ _ | decide | lia)⟩
      obtain ⟨u', hu', ru⟩ := ra.get i e he
      have : u' = u := by
        have h1 : vs.toList[i]? = some u := by rw [Array.getElem?_toList]; exact hu
        rw [h1] at hu'; exact (Option.some.inj hu').symm
      subst this
      refine ⟨e, he, fun h' kk => ru.move fun b o vs n eb hdb hcb => ⟨o.slots, kk b o (Heap.lt_size eb) (fun q => ?_) (Heap.get?_push_of_some _ eb)⟩⟩
      rw [q, hP] at eb; cases eb; exact hcb hc
  | str x t z =>
    simp only [seqOf_3, Option.some.injEq] at hd
    subst hd
    refine wpAny_pyIter_str fun o St hW hst => k _ _ ⟨[s₁.heap.objs.size], [s₁.heap.objs.size], SignAt x, St, fun b o e => Heap.get?_push_of_some _ e, rfl, rfl, by rw [Heap.size_push]; exact Nat.le_succ _, fun A' hA => ?_, hst, ?_, ?_, ?_, ?_⟩
    · have : ((sl x).map fun c => dS [c]).length = x.cps.size := by simp [sl]
      rw [this]; exact hW A' hA
    · intro b hb
      rw [Heap.size_push]
      rw [List.mem_singleton.mp hb]; exact Nat.lt_succ_self _
    · intro hb
      exact hPs (List.mem_singleton.mp hb)
    · intro b hb
      rw [List.mem_singleton.mp hb]; exact Nat.le_refl _
    · rintro i u ⟨ch, tk, e1, rfl⟩
      refine ⟨dS [ch], ?_, fun h' _ => .str _ _ (by show (#[ch] : Array Nat).size ≤ limit; unfold limit; simp)⟩
      rw [List.getElem?_map, show (sl x)[i]? = x.cps[i]? from Array.getElem?_toList, e1]; rfl
  | _ => cases hd

theorem genOk_inv {ns : List Str} {sc : Scope} {elt : PE} {i : Nat} {ex : Expr} {gs : Scope} {x y : Str} (h : genOk ns sc elt i ex gs x y = true) :
    ns[i]? = some y ∧ kindIs ⟨[], [], ns, sc, fun _ _ => false⟩ y .local = true ∧ isQ elt = true ∧ okE (gcx x gs) elt ex = true ∧ gs.kind = .function ∧ gs.isCoroutine = false ∧
      (∀ y ∈ gs.names, (y.2 == .cell) = false) ∧ gs.names.all (fun p => !(p.2 == .free)) = true ∧ gs.names.lookup (".0" : Str) = some .local ∧ gs.names.lookup x = some .local := by
  obtain ⟨k16, p12⟩ := both h
  obtain ⟨k17, p11⟩ := both k16
  obtain ⟨k18, p10⟩ := both k17
  obtain ⟨k19, p9⟩ := both k18
  obtain ⟨k20, p8⟩ := both k19
  obtain ⟨k21, p7⟩ := both k20
  obtain ⟨k22, o6⟩ := both k21
  obtain ⟨k23, o5⟩ := both k22
  obtain ⟨p2, o3⟩ := both k23
  exact ⟨beq_iff_eq.mp p2, o3, o5, o6, beq_iff_eq.mp p7, notT p8, fun y hy => notT (List.all_eq_true.mp p9 y hy), p10, beq_iff_eq.mp p11, beq_iff_eq.mp p12⟩
theorem allExt_el {P : PE → Expr → Prop} {sc : Scope} {ns : List Str} {p : PE} {e : Expr} (ok : allExt sc ns p e = true)
    (k : ∀ elt i f fp ex x xp y yp gs gp pp, isBt ⟨[], [], ns, sc, fun _ _ => false⟩ f (.builtin "all") = true → genOk ns sc elt i ex gs x y = true → P (.all elt (.loc i)) (.Call (.Name f fp) [.GeneratorExp ex [⟨.Name x xp, .Name y yp, [], 0⟩] gs gp] [] pp)) : P p e := by
  obtain ⟨elt, it, rfl, k0⟩ := onAll_inv ok
  obtain ⟨i, rfl, k1⟩ := onLoc_inv k0
  obtain ⟨f, fp, g, pp, rfl, o1, k2⟩ := genA_inv k1
  obtain ⟨ex, x, xp, y, yp, gs, gp, rfl, k3⟩ := genE_inv k2
  exact k _ _ _ _ _ _ _ _ _ _ _ _ o1 k3

/-- all over a generator expression -/
theorem allExt_ok {c : Cx} {C : Calls} {Fa : Nat → Addr} {q : Str} {L a ca P : Addr} {l : List Env} {mg mb : Str → Option Value} {bm : Addr} {ob : Obj}
    (hext : c.ext = allExt c.sc c.ns) (hcp : (ca, P) ∈ cps) (BM : BMod H mainGlobals mg bm ob) (hb : H.Ns builtinsNs mb) (bt : ∀ x v, bts.lookup x = some v → mg x = none ∧ mb x = some v) (lim : H.NoLimit)
    (G : Gx (mkX prog w H O cps) c Fa) (kind : c.sc.kind = .function) (new : H.get? L = none) (hfr : A.frames = some (envOf q c.sc L a (.ref ca) :: l)) (hh : A.handled = none) (hroom : A.depth < recursionLimit) (hu : A.units + 80 < cLine) :
    ExtOk (mkX prog w H O cps) c C A (envOf q c.sc L a (.ref ca)) l L := by
  intro p e ρ s Q E ok
  rw [hext] at ok
  refine allExt_el (P := fun p e => Here (mkX prog w H O cps) c (envOf q c.sc L a (.ref ca)) l L ρ s → Sp (mkX prog w H O cps) RelV [] (envOf q c.sc L a (.ref ca) :: l) s Q E (ev C p ρ) → wpAny (model prog w) A (eval e (envOf q c.sc L a (.ref ca))) Q E s) ok fun elt i f fp ex x xp y yp gs gp pp o1 k15 h sp => ?_
  obtain ⟨o2, o3, o5, o6, o7, o8, o9, p10, o11, o12⟩ := genOk_inv k15
  have T : Sit (mkX prog w H O cps) ⟨c.fns, c.gl, c.ns, c.sc, fun _ _ => false⟩ Fa (fun _ _ => .stuck) A (envOf q c.sc L a (.ref ca)) l L :=
    ⟨⟨G.names⟩, ⟨_, _, _, rfl⟩, kind, new, hfr, hh, hu, fun _ _ _ _ _ _ _ _ _ sp => sp.elim, fun _ _ _ _ _ _ z _ _ => by cases z⟩
  have h' : Here (mkX prog w H O cps) ⟨c.fns, c.gl, c.ns, c.sc, fun _ _ => false⟩ (envOf q c.sc L a (.ref ca)) l L ρ s := ⟨h.w, h.ff, h.fm⟩
  refine wpAny_tk (Call_ (load_bt T h.w o1 (callWith_builtin1 (id := "all") (args_cons ?_ rfl) rfl)))
  simp only [ev] at sp
  cases hg : getL ρ i with
  | ok d =>
    rw [hg, R.bind_ok] at sp
    cases hs : seqOf d with
    | none => rw [hs] at sp; exact sp.elim
    | some ds =>
      rw [hs, R.ofOpt_some, R.bind_ok, allR_q o5] at sp
      have hev : ∃ v, Rd s.heap v d ∧ ∀ Q' : Value → Shared → Prop, Q' v s → wpAny (model prog w) A (eval (.Name y yp) (envOf q c.sc L a (.ref ca))) Q' (fun e s' => s.toks ≤ s'.toks → E e s') s := by
        obtain ⟨m, n, k⟩ := h.fm
        unfold getL at hg
        split at hg
        · rename_i d' e'
          cases hg
          obtain ⟨z, v, e1, e2, r⟩ := k i d e'
          rw [o2] at e1; cases e1
          obtain ⟨k1, k2⟩ := kindIs_eq o3
          exact ⟨v, r, fun Q' hq => wpAny_Name (wpAny_loadName_local (env := envOf q c.sc L a (.ref ca)) kind k1 n e2 hq) k2⟩
        · cases hg
      obtain ⟨v, r, hev⟩ := hev
      obtain ⟨_, ps, _, ta⟩ := h.w.h.tab.2 _ hcp
      refine wpAny_mono (gen_core (s₁ := s) hcp BM hb bt lim rfl rfl hh hroom o5 o6 o7 o8 (fun y hy z => by have := o9 y hy; rw [z] at this; exact absurd this (by decide)) (closure_none p10) o11 o12 (fun z => rfl) h.w (fun Q' k => seq_iter ta.2 rfl r hs k) (Q := fun v s' => s.toks ≤ s'.toks → Q v s') (fun s' xt wh g os ht => ?_) hev) (fun v s' hv => args_nil hv) fun _ _ z => z
      exact sp _ _ ⟨xt, ⟨wh, g, os, Nat.lt_of_lt_of_le h.w.toks ht⟩⟩ (.bool _)
  | exc b => unfold getL at hg; split at hg <;> cases hg
  | stuck => rw [hg] at sp; exact sp.elim
end
end Mine

namespace Mine
open PySem PySem.Calls PySem.Spec PyProof.Rows PySem.W

/-- the extensions: all over a generator expression, in one function -/
noncomputable def genAt (g : Nat) (k : Nat) : Scope → List Str → PE → Expr → Bool := bif k == g then allExt else fun _ _ _ _ => false

theorem ints_read {h : Heap} : ∀ {vs : List Value} {ns : List Int}, IntsAre vs ns → RdAll h vs (ns.map PyData.int)
  | _, _, .nil => .nil
  | _, _, .cons n t r => .cons (.int n t) (ints_read r)

theorem law_call {p : Program} {loose : List Str} {mean : ExcName → Option Value} {mg mb : Str → Option Value} {prog : Program} {w : World} {s₁ : Shared} {K : Frag} {fns : List Str} {gl : List (Str × PyData)} {nss : List (List Str)} {T : List Fn} {g k n N : Nat} {gname : Str} {dr : DefRec} {fa a : Addr} {vs : List Value} {ns : List Int} {Q : Value → Shared → Prop} {E : Value → Shared → Prop}
    (KX : K.In s₁.heap) (TT : Top p loose mean mg mb s₁.heap) (hg : s₁.gens = #[]) (h1 : glOk K gl = true) (h2 : btOk K = true) (h3 : fnsOk K fns = true) (h4 : tabOk K fns gl (genAt g) 0 fns nss T = true)
    (hlaw : fns[k]? = some (Str.ofString "law")) (hmg : mg (Str.ofString "law") = some (.ref fa)) (hgT : ∃ f, T[g]? = some f) (hgen : fns[g]? = some gname) (hrec : (recsOf p).find? (fun e => e.name == gname) = some dr)
    (hl : s₁.heap.IsList a vs.toArray) (hI : IntsAre vs ns) (hlen : ¬ (63 : Int) < ns.length) (hn : n ≤ 100) (hrun : run T N (n + 1) k [.list (ns.map PyData.int)] = .ok (.bool true))
    (hQ : ∀ s', OldK s₁.heap s'.heap → s'.os = s₁.os → AllBare s'.gens → Q (.bool true) s') :
    wpAny (model prog w) callerA (call (.ref fa) [.ref a]) Q E s₁ := by
  have hgf := List.all_eq_true.mp h3 _ (List.mem_of_getElem? hgen)
  obtain ⟨⟨ga, gfd⟩, hga⟩ := Option.isSome_iff_exists.mp hgf
  obtain ⟨e1, og, e2, e3⟩ := fnAt_ok KX TT.g hga
  obtain ⟨ca, P, hca, B0⟩ := based_of_top TT hrec e1 e2 e3
  obtain ⟨bm, ob, BM⟩ := bmod_of_top TT
  have I := tab_is (X := mkX prog w s₁.heap s₁.os [(ca, P)]) (K := K) (fns := fns) (gl := gl) (nss := nss) (exts := genAt g) (T := T) KX TT.g TT.b TT.builtins TT.nolimit GT.there h1 h2 h3 h4
  have hfd : fdOf K fns g = (ga, gfd) := by unfold fdOf; rw [hgen]; simp only; rw [hga]; rfl
  have ex : ExtsOk (mkX prog w s₁.heap s₁.os [(ca, P)]) T N (cxOf K fns gl nss (genAt g)) (fun k => (fdOf K fns k).1) (fun k => (fdOf K fns k).2.qualname) (fun k => (fdOf K fns k).2.code) := by
    intro k' n' A l L hfr hh hd hu hL _
    by_cases hk : k' = g
    · subst hk
      have hc : (fdOf K fns k').2.code = .ref ca := by rw [hfd]; exact hca
      have hfr' : A.frames = some (envOf (fdOf K fns k').2.qualname (cxOf K fns gl nss (genAt k') k').sc L (fdOf K fns k').1 (.ref ca) :: l) := by rw [← hc]; exact hfr
      show ExtOk _ _ _ A (envOf (fdOf K fns k').2.qualname (cxOf K fns gl nss (genAt k') k').sc L (fdOf K fns k').1 (fdOf K fns k').2.code) l L
      rw [hc]
      have hext : (cxOf K fns gl nss (genAt k') k').ext = allExt (cxOf K fns gl nss (genAt k') k').sc (cxOf K fns gl nss (genAt k') k').ns := by
        show genAt k' k' _ _ = _
        unfold genAt
        rw [beq_self_eq_true]; rfl
      have hkind : (cxOf K fns gl nss (genAt k') k').sc.kind = .function := by
        obtain ⟨f, hf⟩ := hgT
        exact (I.fn k' f hf).kind
      have hr : recursionLimit = 1000 := rfl
      have hcl : cLine = 9900 := rfl
      exact allExt_ok hext (List.mem_cons_self) BM TT.b (fun x v e => by
        obtain ⟨q1, q2⟩ := bts_boot _ (PySem.W.mem_lookup e)
        obtain ⟨o, q, k⟩ := onSome_inv (List.all_eq_true.mp h2 _ (PySem.W.mem_lookup e))
        rw [onNone_inv k] at q
        exact ⟨mg_none_of KX TT.g q, (TT.builtins x q2).trans q1⟩) TT.nolimit (I.G k') hkind hL hfr' hh (by first | assumption | exact Nat.le_add_left _ _ | decide | lia) (by first | assumption | exact Nat.le_add_left _ _ | decide | lia)
    · intro p e ρ s Q E ok
      have : (cxOf K fns gl nss (genAt g) k').ext = fun _ _ => false := by
        show genAt g k' _ _ = _
        unfold genAt
        rw [show (k' == g) = false by simpa using hk]; rfl
      rw [this] at ok; cases ok
  have hlf := List.all_eq_true.mp h3 _ (List.mem_of_getElem? hlaw)
  obtain ⟨⟨la, lfd⟩, hla⟩ := Option.isSome_iff_exists.mp hlf
  obtain ⟨e4, _⟩ := fnAt_ok KX TT.g hla
  have hfa : (fdOf K fns k).1 = fa := by
    have : fdOf K fns k = (la, lfd) := by unfold fdOf; rw [hlaw]; simp only; rw [hla]; rfl
    rw [this]
    rw [hmg] at e4
    cases e4; rfl
  obtain ⟨o, ho, hc, m, hd⟩ := hl
  have hlen' := hI.length
  have r : Rd s₁.heap (.ref a) (.list (ns.map PyData.int)) := .list ho hc hd (by rw [List.size_toArray]; lia) (by rw [List.toList_toArray]; exact ints_read hI)
  have wh : Wh (mkX prog w s₁.heap s₁.os [(ca, P)]) s₁.heap := ⟨fun b o e _ => e, GT.start fun p hp => by
    rcases List.mem_cons.mp hp with rfl | hp
    · exact B0
    · cases hp⟩
  rw [← hfa]
  have hcl : cLine = 9900 := rfl
  have hd0 : callerA.depth ≤ 700 := by decide
  have hu0 : callerA.units ≤ 1000 := by decide
  exact top_call (X := mkX prog w s₁.heap s₁.os [(ca, P)]) I ex (n := n) (k := k) rfl rfl (by first | assumption | exact Nat.le_add_left _ _ | decide | lia) (by first | assumption | exact Nat.le_add_left _ _ | decide | lia) wh (AllBare.of_eq hg) rfl r hrun fun s' o => hQ s' o.2.h.oldK o.2.os o.2.gens
end Mine

namespace Mine
open PySem
/-- 16 _law_pad(value, width);  -/
noncomputable def l1_law_pad : Fn := ⟨2, 2, [
  (.ret (.bin .add (.bin .mul (.cst (.str (PySem.Str.mk #[48]))) (.bin .sub (.loc 1) (.b1 .len (.b1 .str (.loc 0))))) (.b1 .str (.loc 0))))]⟩
/-- 17 _law_shift(offset);  -/
noncomputable def l1_law_shift : Fn := ⟨1, 1, [
  (.ret (.ite (.isNone (.loc 0)) (.cst (.int 0)) (.loc 0)))]⟩
/-- 18 _law_days(year, month, day);  -/
noncomputable def l1_law_days : Fn := ⟨3, 3, [
  (.ite (.cmp .lt (.loc 1) (.cst (.int 3))) [(.asgT [0, 1] (.tup [(.bin .sub (.loc 0) (.cst (.int 1))), (.bin .add (.loc 1) (.cst (.int 12)))]))] []),
  (.ret (.bin .add (.bin .add (.bin .add (.bin .add (.bin .sub (.bin .add (.bin .mul (.cst (.int 365)) (.loc 0)) (.bin .div (.loc 0) (.cst (.int 4)))) (.bin .div (.loc 0) (.cst (.int 100)))) (.bin .div (.loc 0) (.cst (.int 400)))) (.bin .div (.bin .add (.bin .mul (.cst (.int 153)) (.bin .sub (.loc 1) (.cst (.int 3)))) (.cst (.int 2))) (.cst (.int 5)))) (.loc 2)) (.cst (.int 59))))]⟩
/-- 19 _law_minutes(stamp);  -/
noncomputable def l1_law_minutes : Fn := ⟨1, 1, [
  (.ret (.bin .sub (.bin .add (.bin .add (.bin .mul (.call 18 [(.idx (.loc 0) (.cst (.int 0))), (.idx (.loc 0) (.cst (.int 1))), (.idx (.loc 0) (.cst (.int 2)))]) (.cst (.int 1440))) (.bin .mul (.idx (.loc 0) (.cst (.int 3))) (.cst (.int 60)))) (.idx (.loc 0) (.cst (.int 4)))) (.call 17 [(.idx (.loc 0) (.cst (.int 7)))])))]⟩
/-- 20 _law_instant(stamp); total -/
noncomputable def l1_law_instant : Fn := ⟨1, 2, [
  (.asg 1 (.call 19 [(.loc 0)])),
  (.ret (.tup [(.bin .div (.loc 1) (.cst (.int 1440))), (.bin .add (.bin .mul (.bin .mod (.loc 1) (.cst (.int 1440))) (.cst (.int 60))) (.idx (.loc 0) (.cst (.int 5)))), (.idx (.loc 0) (.cst (.int 6)))]))]⟩
/-- 21 _law_leap(total, year);  -/
noncomputable def l1_law_leap : Fn := ⟨2, 2, [
  (.ite (.cmp .lt (.loc 0) (.cst (.int 0))) [(.ret (.cst (.bool false)))] []),
  (.ret (.cmp .isIn (.bin .add (.loc 0) (.cst (.int 1))) (.tup [(.bin .mul (.cst (.int 1440)) (.call 18 [(.loc 1), (.cst (.int 1)), (.cst (.int 1))])), (.bin .mul (.cst (.int 1440)) (.call 18 [(.loc 1), (.cst (.int 7)), (.cst (.int 1))])), (.bin .mul (.cst (.int 1440)) (.call 18 [(.bin .add (.loc 1) (.cst (.int 1))), (.cst (.int 1)), (.cst (.int 1))]))])))]⟩
/-- 22 _law_sound(stamp); year, month, day, hour, minute, second, nanos, offset -/
noncomputable def l1_law_sound : Fn := ⟨1, 9, [
  (.asgT [1, 2, 3, 4, 5, 6, 7, 8] (.loc 0)),
  (.ite (.not (.and (.chain .le .le (.cst (.int 0)) (.loc 1) (.cst (.int 9999))) (.chain .le .le (.cst (.int 1)) (.loc 2) (.cst (.int 12))))) [(.ret (.cst (.bool false)))] []),
  (.ite (.not (.chain .le .le (.cst (.int 1)) (.loc 3) (.bin .sub (.call 18 [(.loc 1), (.bin .add (.loc 2) (.cst (.int 1))), (.cst (.int 1))]) (.call 18 [(.loc 1), (.loc 2), (.cst (.int 1))])))) [(.ret (.cst (.bool false)))] []),
  (.ite (.not (.and (.chain .le .le (.cst (.int 0)) (.loc 4) (.cst (.int 23))) (.and (.chain .le .le (.cst (.int 0)) (.loc 5) (.cst (.int 59))) (.cmp .le (.b1 .abs (.call 17 [(.loc 8)])) (.cst (.int 1439)))))) [(.ret (.cst (.bool false)))] []),
  (.ite (.cmp .eq (.loc 6) (.cst (.int 60))) [(.ret (.call 21 [(.call 19 [(.loc 0)]), (.loc 1)]))] []),
  (.ret (.chain .le .le (.cst (.int 0)) (.loc 6) (.cst (.int 59))))]⟩
/-- 23 _law_head(stamp, mark);  -/
noncomputable def l1_law_head : Fn := ⟨2, 2, [
  (.ret (.bin .add (.bin .add (.join (.cst (.str (PySem.Str.mk #[45]))) (.tup [(.call 16 [(.idx (.loc 0) (.cst (.int 0))), (.cst (.int 4))]), (.call 16 [(.idx (.loc 0) (.cst (.int 1))), (.cst (.int 2))]), (.call 16 [(.idx (.loc 0) (.cst (.int 2))), (.cst (.int 2))])])) (.loc 1)) (.join (.cst (.str (PySem.Str.mk #[58]))) (.tup [(.call 16 [(.idx (.loc 0) (.cst (.int 3))), (.cst (.int 2))]), (.call 16 [(.idx (.loc 0) (.cst (.int 4))), (.cst (.int 2))]), (.call 16 [(.idx (.loc 0) (.cst (.int 5))), (.cst (.int 2))])]))))]⟩
/-- 24 _law_canonical(stamp); text, offset, sign -/
noncomputable def l1_law_canonical : Fn := ⟨1, 4, [
  (.asg 1 (.bin .add (.call 23 [(.loc 0), (.cst (.str (PySem.Str.mk #[84])))]) (.rstrip (.rstrip (.bin .add (.cst (.str (PySem.Str.mk #[46]))) (.call 16 [(.idx (.loc 0) (.cst (.int 6))), (.cst (.int 9))])) (.cst (.str (PySem.Str.mk #[48])))) (.cst (.str (PySem.Str.mk #[46])))))),
  (.asg 2 (.idx (.loc 0) (.cst (.int 7)))),
  (.ite (.isNone (.loc 2)) [(.ret (.bin .add (.loc 1) (.cst (.str (PySem.Str.mk #[45, 48, 48, 58, 48, 48])))))] []),
  (.ite (.cmp .eq (.loc 2) (.cst (.int 0))) [(.ret (.bin .add (.loc 1) (.cst (.str (PySem.Str.mk #[90])))))] []),
  (.asg 3 (.ite (.cmp .gt (.loc 2) (.cst (.int 0))) (.cst (.str (PySem.Str.mk #[43]))) (.cst (.str (PySem.Str.mk #[45]))))),
  (.ret (.bin .add (.bin .add (.bin .add (.bin .add (.loc 1) (.loc 3)) (.call 16 [(.bin .div (.b1 .abs (.loc 2)) (.cst (.int 60))), (.cst (.int 2))])) (.cst (.str (PySem.Str.mk #[58])))) (.call 16 [(.bin .mod (.b1 .abs (.loc 2)) (.cst (.int 60))), (.cst (.int 2))])))]⟩
/-- 25 _law_zone(kind, hours, minutes); digits -/
noncomputable def l1_law_zone : Fn := ⟨3, 4, [
  (.ite (.cmp .lt (.loc 0) (.cst (.int 6))) [(.ret (.idx (.cst (.tuple [(.tuple [(.str (PySem.Str.mk #[90])), (.int 0)]), (.tuple [(.str (PySem.Str.mk #[122])), (.int 0)]), (.tuple [(.str (PySem.Str.mk #[45, 48, 48, 58, 48, 48])), .none]), (.tuple [(.str (PySem.Str.mk #[43, 48, 48, 58, 48, 48])), (.int 0)]), (.tuple [(.str (PySem.Str.mk #[43, 48, 49, 58, 48, 48])), (.int 60)]), (.tuple [(.str (PySem.Str.mk #[45, 49, 50, 58, 48, 48])), (.int (-720))])])) (.loc 0)))] []),
  (.asg 3 (.bin .add (.bin .add (.call 16 [(.loc 1), (.cst (.int 2))]) (.cst (.str (PySem.Str.mk #[58])))) (.call 16 [(.loc 2), (.cst (.int 2))]))),
  (.ite (.cmp .eq (.bin .mod (.loc 0) (.cst (.int 2))) (.cst (.int 0))) [(.ret (.tup [(.bin .add (.cst (.str (PySem.Str.mk #[43]))) (.loc 3)), (.bin .add (.bin .mul (.loc 1) (.cst (.int 60))) (.loc 2))]))] []),
  (.ret (.tup [(.bin .add (.cst (.str (PySem.Str.mk #[45]))) (.loc 3)), (.neg (.bin .add (.bin .mul (.loc 1) (.cst (.int 60))) (.loc 2)))]))]⟩
/-- 26 _law_clock(kind, hour, minute, second, offset); local -/
noncomputable def l1_law_clock : Fn := ⟨5, 6, [
  (.ite (.cmp .eq (.loc 0) (.cst (.int 0))) [(.asg 5 (.bin .mod (.bin .add (.cst (.int 1439)) (.call 17 [(.loc 4)])) (.cst (.int 1440)))), (.ret (.tup [(.bin .div (.loc 5) (.cst (.int 60))), (.bin .mod (.loc 5) (.cst (.int 60))), (.idx (.tup [(.cst (.int 60)), (.cst (.int 59)), (.cst (.int 60)), (.cst (.int 61))]) (.bin .mod (.loc 3) (.cst (.int 4))))]))] []),
  (.ite (.cmp .eq (.loc 0) (.cst (.int 1))) [(.ret (.tup [(.cst (.int 0)), (.cst (.int 0)), (.idx (.tup [(.cst (.int 0)), (.cst (.int 30)), (.cst (.int 59)), (.cst (.int 60))]) (.bin .mod (.loc 3) (.cst (.int 4))))]))] []),
  (.ret (.tup [(.bin .sub (.bin .mod (.loc 1) (.cst (.int 26))) (.cst (.int 1))), (.bin .sub (.bin .mod (.loc 2) (.cst (.int 62))) (.cst (.int 1))), (.bin .sub (.bin .mod (.loc 3) (.cst (.int 63))) (.cst (.int 1)))]))]⟩
/-- 27 _law_plain(got, size);  -/
noncomputable def l1_law_plain : Fn := ⟨2, 2, [
  (.ite (.or (.not (.typeIs (.loc 0) .tuple)) (.cmp .ne (.b1 .len (.loc 0)) (.loc 1))) [(.ret (.cst (.bool false)))] []),
  (.ret (.all (.or (.isNone (.loc 0)) (.typeIs (.loc 0) .int)) (.loc 0)))]⟩
/-- 28 _law_changed(kind, here); d, s, n -/
noncomputable def l1_law_changed : Fn := ⟨2, 5, [
  (.asgT [2, 3, 4] (.loc 1)),
  (.ret (.idx (.tup [(.tup [(.loc 2), (.cst (.int 86400)), (.loc 4)]), (.tup [(.loc 2), (.cst (.int 0)), (.loc 4)]), (.tup [(.loc 2), (.neg (.cst (.int 1))), (.loc 4)]), (.tup [(.loc 2), (.cst (.int 86401)), (.loc 4)]), (.tup [(.loc 2), (.loc 3), (.neg (.cst (.int 1)))]), (.tup [(.loc 2), (.loc 3), (.cst (.int 1000000000))]), (.tup [(.loc 2), (.loc 3), (.cst (.int 999999999))]), (.tup [(.loc 2), (.loc 3), (.cst (.int 0))]), (.loc 1), (.loc 1), (.loc 1), (.loc 1)]) (.loc 0)))]⟩
/-- 29 _law_fits(there, target, year);  -/
noncomputable def l1_law_fits : Fn := ⟨3, 3, [
  (.ite (.not (.and (.chain .le .le (.cst (.int 0)) (.idx (.loc 0) (.cst (.int 1))) (.cst (.int 86400))) (.and (.chain .le .le (.cst (.int 0)) (.idx (.loc 0) (.cst (.int 2))) (.cst (.int 999999999))) (.cmp .le (.b1 .abs (.call 17 [(.loc 1)])) (.cst (.int 1439)))))) [(.ret (.cst (.bool false)))] []),
  (.ite (.and (.cmp .eq (.idx (.loc 0) (.cst (.int 1))) (.cst (.int 86400))) (.not (.call 21 [(.bin .add (.bin .mul (.idx (.loc 0) (.cst (.int 0))) (.cst (.int 1440))) (.cst (.int 1439))), (.loc 2)]))) [(.ret (.cst (.bool false)))] []),
  (.ret (.chain .le .lt (.cst (.int 0)) (.bin .add (.bin .add (.bin .mul (.idx (.loc 0) (.cst (.int 0))) (.cst (.int 1440))) (.b2 .min (.bin .div (.idx (.loc 0) (.cst (.int 1))) (.cst (.int 60))) (.cst (.int 1439)))) (.call 17 [(.loc 1)])) (.bin .mul (.cst (.int 3652425)) (.cst (.int 1440)))))]⟩
/-- 30 law(script); zone, offset, year, month, day, hour, minute, second, fraction, stamp, sound, text, damage, due, at, read, refused, written, here, home, there, target, fits, moved, retold, again, order, ahead, behind -/
noncomputable def l1_law : Fn := ⟨1, 30, [
  (.ite (.cmp .lt (.b1 .len (.loc 0)) (.cst (.int 21))) [(.ret (.cst (.bool true)))] []),
  (.asgT [1, 2] (.call 25 [(.bin .mod (.idx (.loc 0) (.cst (.int 9))) (.cst (.int 12))), (.bin .mod (.idx (.loc 0) (.cst (.int 10))) (.cst (.int 25))), (.bin .add (.bin .mod (.idx (.loc 0) (.cst (.int 11))) (.cst (.int 60))) (.cst (.int 1)))])),
  (.asg 3 (.idx (.bin .add (.cst (.tuple [(.int 0), (.int 9999), (.int 0), (.int 9999), (.int (-1)), (.int 10000), (.int 1900), (.int 204), (.int 96)])) (.bin .mul (.tup [(.bin .mod (.idx (.loc 0) (.cst (.int 1))) (.cst (.int 10000)))]) (.cst (.int 3)))) (.bin .mod (.idx (.loc 0) (.cst (.int 0))) (.cst (.int 12))))),
  (.asgT [4, 5] (.idx (.bin .add (.cst (.tuple [(.tuple [(.int 12), (.int 31)]), (.tuple [(.int 1), (.int 1)]), (.tuple [(.int 6), (.int 30)]), (.tuple [(.int 7), (.int 1)]), (.tuple [(.int 12), (.int 31)]), (.tuple [(.int 1), (.int 1)]), (.tuple [(.int 2), (.int 29)]), (.tuple [(.int 3), (.int 1)])])) (.bin .mul (.tup [(.tup [(.bin .mod (.idx (.loc 0) (.cst (.int 3))) (.cst (.int 14))), (.idx (.cst (.tuple [(.int 1), (.int 31), (.int 30), (.int 28), (.int 29), (.int 0), (.int 32), (.int 31), (.int 30), (.int 1), (.int 15), (.int 28)])) (.bin .mod (.idx (.loc 0) (.cst (.int 4))) (.cst (.int 12))))])]) (.cst (.int 4)))) (.bin .mod (.idx (.loc 0) (.cst (.int 2))) (.cst (.int 12))))),
  (.asgT [6, 7, 8] (.call 26 [(.bin .mod (.idx (.loc 0) (.cst (.int 5))) (.cst (.int 3))), (.idx (.loc 0) (.cst (.int 6))), (.idx (.loc 0) (.cst (.int 7))), (.idx (.loc 0) (.cst (.int 8))), (.loc 2)])),
  (.asg 9 (.idx (.cst (.tuple [(.str (PySem.Str.mk #[])), (.str (PySem.Str.mk #[])), (.str (PySem.Str.mk #[])), (.str (PySem.Str.mk #[46])), (.str (PySem.Str.mk #[46, 48])), (.str (PySem.Str.mk #[46, 48, 53])), (.str (PySem.Str.mk #[46, 49, 50, 48])), (.str (PySem.Str.mk #[46, 57, 57, 57, 57, 57, 57, 57, 57])), (.str (PySem.Str.mk #[46, 57, 57, 57, 57, 57, 57, 57, 57, 57])), (.str (PySem.Str.mk #[46, 48, 48, 48, 48, 48, 48, 48, 48, 49])), (.str (PySem.Str.mk #[46, 48, 48, 48, 48, 48, 48, 48, 48, 48])), (.str (PySem.Str.mk #[46, 49, 50, 51, 52, 53, 54, 55, 56, 57, 48]))])) (.bin .mod (.idx (.loc 0) (.cst (.int 12))) (.cst (.int 12))))),
  (.ite (.cmp .gt (.b1 .len (.loc 9)) (.cst (.int 1))) [(.asg 9 (.bin .add (.bin .add (.cst (.str (PySem.Str.mk #[46]))) (.b1 .str (.bin .mod (.idx (.loc 0) (.cst (.int 13))) (.cst (.int 10))))) (.sliceFrom (.loc 9) (.cst (.int 2)))))] []),
  (.asg 10 (.tup [(.loc 3), (.loc 4), (.loc 5), (.loc 6), (.loc 7), (.loc 8), (.b1 .int (.sliceTo (.bin .add (.sliceFrom (.loc 9) (.cst (.int 1))) (.cst (.str (PySem.Str.mk #[48, 48, 48, 48, 48, 48, 48, 48, 48])))) (.cst (.int 9)))), (.loc 2)])),
  (.asg 11 (.call 22 [(.loc 10)])),
  (.asg 12 (.bin .add (.bin .add (.call 23 [(.loc 10), (.idx (.cst (.str (PySem.Str.mk #[84, 116]))) (.bin .mod (.idx (.loc 0) (.cst (.int 14))) (.cst (.int 2))))]) (.loc 9)) (.loc 1))),
  (.asg 13 (.bin .mod (.idx (.loc 0) (.cst (.int 15))) (.cst (.int 12)))),
  (.asg 14 (.and (.loc 11) (.and (.cmp .gt (.loc 13) (.cst (.int 4))) (.and (.cmp .notIn (.b1 .len (.loc 9)) (.tup [(.cst (.int 1)), (.cst (.int 11))])) (.cmp .notIn (.cst (.str (PySem.Str.mk #[58, 54, 48]))) (.loc 1)))))),
  (.asg 15 (.bin .mod (.idx (.loc 0) (.cst (.int 16))) (.bin .add (.b1 .len (.loc 12)) (.cst (.int 1))))),
  (.ite (.cmp .lt (.loc 13) (.cst (.int 4))) [(.asg 12 (.bin .add (.bin .add (.sliceTo (.loc 12) (.loc 15)) (.idx (.cst (.str (PySem.Str.mk #[47, 120, 32, 1635]))) (.bin .mod (.idx (.loc 0) (.cst (.int 17))) (.cst (.int 4))))) (.sliceFrom (.loc 12) (.bin .add (.loc 15) (.cst (.int 1))))))] [(.ite (.cmp .eq (.loc 13) (.cst (.int 4))) [(.asg 12 (.sliceTo (.loc 12) (.neg (.cst (.int 1)))))] [])]),
  (.asgT [16, 17] (.tup [(.cst .none), (.cst (.bool false))])),
  (.tryAsg 16 (.call 10 [(.loc 12)]) 17 (.cst (.bool true))),
  (.ite (.cmp .eq (.loc 17) (.loc 14)) [(.ret (.cst (.bool false)))] []),
  (.ite (.and (.loc 14) (.or (.not (.call 27 [(.loc 16), (.cst (.int 8))])) (.cmp .ne (.loc 16) (.loc 10)))) [(.ret (.cst (.bool false)))] []),
  (.asgT [18, 17] (.tup [(.cst .none), (.cst (.bool false))])),
  (.tryAsg 18 (.call 12 [(.loc 10)]) 17 (.cst (.bool true))),
  (.ite (.cmp .eq (.loc 17) (.loc 11)) [(.ret (.cst (.bool false)))] []),
  (.ite (.not (.loc 11)) [(.ret (.cst (.bool true)))] []),
  (.ite (.or (.not (.typeIs (.loc 18) .str)) (.cmp .ne (.loc 18) (.call 24 [(.loc 10)]))) [(.ret (.cst (.bool false)))] []),
  (.asg 19 (.call 13 [(.loc 10)])),
  (.ite (.or (.not (.call 27 [(.loc 19), (.cst (.int 3))])) (.cmp .ne (.loc 19) (.call 20 [(.loc 10)]))) [(.ret (.cst (.bool false)))] []),
  (.asg 20 (.call 14 [(.loc 19), (.loc 2)])),
  (.ite (.or (.not (.call 27 [(.loc 20), (.cst (.int 8))])) (.cmp .ne (.loc 20) (.loc 10))) [(.ret (.cst (.bool false)))] []),
  (.asg 21 (.call 28 [(.bin .mod (.idx (.loc 0) (.cst (.int 18))) (.cst (.int 12))), (.loc 19)])),
  (.asg 22 (.idx (.bin .add (.cst (.tuple [.none, (.int 0), (.int 1439), (.int (-1439)), (.int 1440), (.int (-1440)), (.int 60), (.int (-1))])) (.bin .mul (.tup [(.bin .sub (.bin .mod (.idx (.loc 0) (.cst (.int 20))) (.cst (.int 2879))) (.cst (.int 1439)))]) (.cst (.int 4)))) (.bin .mod (.idx (.loc 0) (.cst (.int 19))) (.cst (.int 12))))),
  (.asg 23 (.call 29 [(.loc 21), (.loc 22), (.loc 3)])),
  (.asgT [24, 17] (.tup [(.cst .none), (.cst (.bool false))])),
  (.tryAsg 24 (.call 14 [(.loc 21), (.loc 22)]) 17 (.cst (.bool true))),
  (.ite (.cmp .eq (.loc 17) (.loc 23)) [(.ret (.cst (.bool false)))] []),
  (.ite (.not (.loc 23)) [(.ret (.cst (.bool true)))] []),
  (.ite (.or (.not (.call 27 [(.loc 24), (.cst (.int 8))])) (.cmp .ne (.idx (.loc 24) (.cst (.int 7))) (.loc 22))) [(.ret (.cst (.bool false)))] []),
  (.ite (.or (.not (.call 22 [(.loc 24)])) (.cmp .ne (.call 20 [(.loc 24)]) (.loc 21))) [(.ret (.cst (.bool false)))] []),
  (.asg 25 (.call 12 [(.loc 24)])),
  (.ite (.or (.not (.typeIs (.loc 25) .str)) (.cmp .ne (.loc 25) (.call 24 [(.loc 24)]))) [(.ret (.cst (.bool false)))] []),
  (.asg 26 (.call 10 [(.loc 25)])),
  (.ite (.or (.not (.call 27 [(.loc 26), (.cst (.int 8))])) (.cmp .ne (.loc 26) (.loc 24))) [(.ret (.cst (.bool false)))] []),
  (.asg 27 (.ite (.cmp .gt (.loc 21) (.loc 19)) (.cst (.int 1)) (.ite (.cmp .lt (.loc 21) (.loc 19)) (.neg (.cst (.int 1))) (.cst (.int 0))))),
  (.asg 28 (.call 15 [(.loc 26), (.loc 10)])),
  (.asg 29 (.call 15 [(.loc 10), (.loc 26)])),
  (.ite (.or (.not (.typeIs (.loc 28) .int)) (.cmp .ne (.loc 28) (.loc 27))) [(.ret (.cst (.bool false)))] []),
  (.ite (.or (.not (.typeIs (.loc 29) .int)) (.cmp .ne (.loc 29) (.neg (.loc 27)))) [(.ret (.cst (.bool false)))] []),
  (.ret (.cst (.bool true)))]⟩
noncomputable def l1_T : List Fn := [p_is_long, p_days_ahead_of_year, p_days_ahead_of_month, p_days_from_civil, p_civil_from_days, p_instant, p_is_leap, p_month_length, p_is_valid, p_digits, p_parse, p_pad, p_format_stamp, p_to_instant, p_from_instant, p_compare, l1_law_pad, l1_law_shift, l1_law_days, l1_law_minutes, l1_law_instant, l1_law_leap, l1_law_sound, l1_law_head, l1_law_canonical, l1_law_zone, l1_law_clock, l1_law_plain, l1_law_changed, l1_law_fits, l1_law]
noncomputable def l1_fns : List PySem.Str := ["_is_long", "_days_ahead_of_year", "_days_ahead_of_month", "days_from_civil", "civil_from_days", "_instant", "_is_leap", "_month_length", "is_valid", "_digits", "parse", "_pad", "format_stamp", "to_instant", "from_instant", "compare", "_law_pad", "_law_shift", "_law_days", "_law_minutes", "_law_instant", "_law_leap", "_law_sound", "_law_head", "_law_canonical", "_law_zone", "_law_clock", "_law_plain", "_law_changed", "_law_fits", "law"]
noncomputable def l1_nss : List (List PySem.Str) := [["year"],
  ["year"],
  ["year", "month"],
  ["year", "month", "day"],
  ["days", "year", "rest", "month"],
  ["stamp", "offset", "days", "t"],
  ["year"],
  ["year", "month", "lengths"],
  ["stamp", "y", "mo", "d", "h", "mi", "se", "ns", "off", "inst", "day", "sec", "date"],
  ["text", "start", "end", "value", "k", "c"],
  ["text", "n", "year", "month", "day", "hour", "minute", "second", "pos", "nanos", "j", "count", "k", "c", "offset", "oh", "om", "stamp"],
  ["value", "width", "s"],
  ["stamp", "text", "nanos", "frac", "end", "offset", "sign", "size"],
  ["stamp"],
  ["instant", "offset", "d", "s", "n", "minute_of_day", "shift", "t", "second", "date", "rest", "result"],
  ["a", "b", "x", "y"],
  ["value", "width"],
  ["offset"],
  ["year", "month", "day"],
  ["stamp"],
  ["stamp", "total"],
  ["total", "year"],
  ["stamp", "year", "month", "day", "hour", "minute", "second", "nanos", "offset"],
  ["stamp", "mark"],
  ["stamp", "text", "offset", "sign"],
  ["kind", "hours", "minutes", "digits"],
  ["kind", "hour", "minute", "second", "offset", "local"],
  ["got", "size"],
  ["kind", "here", "d", "s", "n"],
  ["there", "target", "year"],
  ["script", "zone", "offset", "year", "month", "day", "hour", "minute", "second", "fraction", "stamp", "sound", "text", "damage", "due", "at", "read", "refused", "written", "here", "home", "there", "target", "fits", "moved", "retold", "again", "order", "ahead", "behind"]]
noncomputable def l1_gl : List (PySem.Str × PySem.PyData) := [("_AHEAD", (.list [(.int 0), (.int 31), (.int 59), (.int 90), (.int 120), (.int 151), (.int 181), (.int 212), (.int 243), (.int 273), (.int 304), (.int 334)])),
  ("_law_years", (.tuple [(.int 0), (.int 9999), (.int 0), (.int 9999), (.int (-1)), (.int 10000), (.int 1900), (.int 204), (.int 96)])),
  ("_law_dates", (.tuple [(.tuple [(.int 12), (.int 31)]), (.tuple [(.int 1), (.int 1)]), (.tuple [(.int 6), (.int 30)]), (.tuple [(.int 7), (.int 1)]), (.tuple [(.int 12), (.int 31)]), (.tuple [(.int 1), (.int 1)]), (.tuple [(.int 2), (.int 29)]), (.tuple [(.int 3), (.int 1)])])),
  ("_law_month_days", (.tuple [(.int 1), (.int 31), (.int 30), (.int 28), (.int 29), (.int 0), (.int 32), (.int 31), (.int 30), (.int 1), (.int 15), (.int 28)])),
  ("_law_zones", (.tuple [(.tuple [(.str (PySem.Str.mk #[90])), (.int 0)]), (.tuple [(.str (PySem.Str.mk #[122])), (.int 0)]), (.tuple [(.str (PySem.Str.mk #[45, 48, 48, 58, 48, 48])), .none]), (.tuple [(.str (PySem.Str.mk #[43, 48, 48, 58, 48, 48])), (.int 0)]), (.tuple [(.str (PySem.Str.mk #[43, 48, 49, 58, 48, 48])), (.int 60)]), (.tuple [(.str (PySem.Str.mk #[45, 49, 50, 58, 48, 48])), (.int (-720))])])),
  ("_law_fractions", (.tuple [(.str (PySem.Str.mk #[])), (.str (PySem.Str.mk #[])), (.str (PySem.Str.mk #[])), (.str (PySem.Str.mk #[46])), (.str (PySem.Str.mk #[46, 48])), (.str (PySem.Str.mk #[46, 48, 53])), (.str (PySem.Str.mk #[46, 49, 50, 48])), (.str (PySem.Str.mk #[46, 57, 57, 57, 57, 57, 57, 57, 57])), (.str (PySem.Str.mk #[46, 57, 57, 57, 57, 57, 57, 57, 57, 57])), (.str (PySem.Str.mk #[46, 48, 48, 48, 48, 48, 48, 48, 48, 49])), (.str (PySem.Str.mk #[46, 48, 48, 48, 48, 48, 48, 48, 48, 48])), (.str (PySem.Str.mk #[46, 49, 50, 51, 52, 53, 54, 55, 56, 57, 48]))])),
  ("_law_targets", (.tuple [.none, (.int 0), (.int 1439), (.int (-1439)), (.int 1440), (.int (-1440)), (.int 60), (.int (-1))]))]
end Mine

namespace Mine
open PySem

theorem isT1 : IsT l1_T := ⟨fun k f h => by
  match k, h with
  | 0, h | 1, h | 2, h | 3, h | 4, h | 5, h | 6, h | 7, h | 8, h | 9, h | 10, h | 11, h | 12, h | 13, h | 14, h => exact h
  | k + 15, h => simp [p_T] at h⟩

theorem itoa_small {v : Int} (h0 : -100000 ≤ v) (h1 : v ≤ 9999999999) : (itoa v).length ≤ 12 ∧ smallI v = true := by
  constructor
  · by_cases h : 0 ≤ v
    · obtain ⟨n, rfl⟩ : ∃ n : Nat, v = n := ⟨v.toNat, by first | assumption | rfl | exact Nat.le_add_left _ _ | decide | lia⟩
      have := itoa_length (v := n) 9 (by first | assumption | rfl | exact Nat.le_add_left _ _ | decide | lia)
      lia
    · obtain ⟨n, rfl⟩ : ∃ n : Nat, v = Int.negSucc n := ⟨(-v - 1).toNat, by first | assumption | rfl | exact Nat.le_add_left _ _ | decide | lia⟩
      rw [itoa_neg]
      have := itoa_length (v := n + 1) 9 (by first | assumption | rfl | exact Nat.le_add_left _ _ | decide | lia)
      rw [List.length_cons]; lia
  · unfold smallI; simp; lia

theorem rep_flat (k : Nat) : (List.replicate k [48]).flatten = List.replicate k 48 := by
  induction k with
  | zero => rfl
  | succ k ih => simp [List.replicate_succ, ih]

section
variable {N n : Nat}
theorem r1_pad (hn : 1 ≤ n) (v : Int) (w : Nat) (h0 : -100000 ≤ v) (h1 : v ≤ 9999999999) (hw : w ≤ 9) (b : Int) (hb : b = (w : Int)) : run l1_T N n 16 [.int v, .int b] = .ok (dS (padL v w)) := by
  subst hb
  obtain ⟨k, rfl⟩ := Nat.exists_eq_add_of_le' hn
  rw [run_at (show l1_T[16]? = some l1_law_pad from rfl) rfl]
  obtain ⟨l1, l2⟩ := itoa_small h0 h1
  have g1 : (-1000 : Int) ≤ (w : Int) - ((itoa v).length : Int) := by first | assumption | rfl | exact Nat.le_add_left _ _ | decide | lia
  have g2 : (w : Int) - ((itoa v).length : Int) ≤ 1000 := by first | assumption | rfl | exact Nat.le_add_left _ _ | decide | lia
  have e : ((w : Int) - ((itoa v).length : Int)).toNat = w - (itoa v).length := by first | assumption | rfl | exact Nat.le_add_left _ _ | decide | lia
  have g3 : w - (itoa v).length + (itoa v).length ≤ limit := by unfold limit; lia
  first | rfl | simp [execs, exec, l1_law_pad, l2, g1, g2, e, rep_flat, padL, g3]
theorem r1_shift (hn : 1 ≤ n) (off : Option Int) : run l1_T N n 17 [offD off] = .ok (.int (shift off)) := by
  obtain ⟨k, rfl⟩ := Nat.exists_eq_add_of_le' hn
  rw [run_at (show l1_T[17]? = some l1_law_shift from rfl) rfl]
  cases off <;> (first | rfl | simp [execs, exec, l1_law_shift, offD])
theorem r1_days (hn : 1 ≤ n) (y m d : Int) : run l1_T N n 18 [.int y, .int m, .int d] = .ok (.int (lawDays y m d)) := by
  obtain ⟨k, rfl⟩ := Nat.exists_eq_add_of_le' hn
  rw [run_at (show l1_T[18]? = some l1_law_days from rfl) rfl]
  unfold lawDays
  by_cases h : m < 3 <;> (first | rfl | simp [execs, exec, l1_law_days, h, smallI])
noncomputable def lawT (s : St) : Int := lawDays s.y s.mo s.d * 1440 + s.h * 60 + s.mi - shift s.off
theorem lawT_eq {s : St} (h1 : 1 ≤ s.mo) (h2 : s.mo ≤ 12) : lawT s = s.t := by
  unfold lawT St.t; rw [lawDays_dFC h1 h2]; lia
theorem r1_minutes (hn : 2 ≤ n) (s : St) : run l1_T N n 19 [s.D] = .ok (.int (lawT s)) := by
  obtain ⟨k, rfl⟩ := Nat.exists_eq_add_of_le' hn
  rw [run_at (show l1_T[19]? = some l1_law_minutes from rfl) rfl]
  first | rfl | simp [execs, exec, l1_law_minutes, r1_days, r1_shift, smallI, lawT, idxAt, St.D]
theorem r1_instant (hn : 3 ≤ n) (s : St) : run l1_T N n 20 [s.D] = .ok (.tuple [.int (lawT s / 1440), .int (lawT s % 1440 * 60 + s.se), .int s.ns]) := by
  obtain ⟨k, rfl⟩ := Nat.exists_eq_add_of_le' hn
  rw [run_at (show l1_T[20]? = some l1_law_instant from rfl) rfl]
  have := @r1_minutes N (k + 2) (by first | assumption | rfl | exact Nat.le_add_left _ _ | decide | lia) s
  simp only [St.D] at this
  first | rfl | simp [execs, exec, l1_law_instant, this, smallI, idxAt, St.D]
end
end Mine

namespace Mine
open PySem

noncomputable def lawLeapB (t y : Int) : Bool := decide (0 ≤ t) && (decide (t + 1 = 1440 * lawDays y 1 1) || (decide (t + 1 = 1440 * lawDays y 7 1) || decide (t + 1 = 1440 * lawDays (y + 1) 1 1)))
theorem lawLeapB_iff {t y : Int} : lawLeapB t y = true ↔ lawLeap t y := by
  unfold lawLeapB lawLeap
  first | rfl | simp

section
variable {N n : Nat}
theorem r1_leap (hn : 2 ≤ n) (t y : Int) : run l1_T N n 21 [.int t, .int y] = .ok (.bool (lawLeapB t y)) := by
  obtain ⟨k, rfl⟩ := Nat.exists_eq_add_of_le' hn
  rw [run_at (show l1_T[21]? = some l1_law_leap from rfl) rfl]
  unfold lawLeapB
  by_cases h : t < 0
  · have h' : ¬ 0 ≤ t := by first | assumption | rfl | exact Nat.le_add_left _ _ | decide | lia
    first | rfl | simp [execs, exec, l1_law_leap, h, h']
  · have h' : 0 ≤ t := by first | assumption | rfl | exact Nat.le_add_left _ _ | decide | lia
    first | rfl | simp [execs, exec, l1_law_leap, h, h', r1_days, smallI]

theorem valid_iff {s : St} (hns : 0 ≤ s.ns ∧ s.ns ≤ 999999999) : s.valid ↔ ((0 ≤ s.y ∧ s.y ≤ 9999) ∧ (1 ≤ s.mo ∧ s.mo ≤ 12) ∧ (1 ≤ s.d ∧ s.d ≤ mLen s.y s.mo) ∧ (0 ≤ s.h ∧ s.h ≤ 23) ∧ (0 ≤ s.mi ∧ s.mi ≤ 59) ∧ (-1439 ≤ shift s.off ∧ shift s.off ≤ 1439)) ∧ ((s.se = 60 ∧ leapAt s.t) ∨ (s.se ≠ 60 ∧ 0 ≤ s.se ∧ s.se ≤ 59)) := by
  unfold St.valid St.plain
  constructor
  · rintro ⟨⟨a, b, c, d, e, f, g⟩, h | h⟩
    · exact ⟨⟨a, b, c, d, e, g⟩, .inr ⟨by first | assumption | rfl | exact Nat.le_add_left _ _ | decide | lia, h⟩⟩
    · exact ⟨⟨a, b, c, d, e, g⟩, .inl h⟩
  · rintro ⟨⟨a, b, c, d, e, g⟩, h | h⟩
    · exact ⟨⟨a, b, c, d, e, hns, g⟩, .inr h⟩
    · exact ⟨⟨a, b, c, d, e, hns, g⟩, .inl h.2⟩

theorem abs_le {i : Int} : (if i < 0 then -i else i) ≤ 1439 ↔ (-1439 ≤ i ∧ i ≤ 1439) := by split <;> lia

theorem r1_sound (hn : 4 ≤ n) (s : St) (hns : 0 ≤ s.ns ∧ s.ns ≤ 999999999) : run l1_T N n 22 [s.D] = .ok (.bool (decide s.valid)) := by
  obtain ⟨k, rfl⟩ := Nat.exists_eq_add_of_le' hn
  rw [run_at (show l1_T[22]? = some l1_law_sound from rfl) rfl]
  have hmin := @r1_minutes N (k + 3) (by first | assumption | rfl | exact Nat.le_add_left _ _ | decide | lia) s
  have hleap := fun t y => @r1_leap N (k + 3) (by first | assumption | rfl | exact Nat.le_add_left _ _ | decide | lia) t y
  have hsh := @r1_shift N (k + 3) (by first | assumption | rfl | exact Nat.le_add_left _ _ | decide | lia) s.off
  have hd := fun y m d => @r1_days N (k + 3) (by first | assumption | rfl | exact Nat.le_add_left _ _ | decide | lia) y m d
  obtain ⟨y, mo, d, h, mi, se, ns, off⟩ := s
  simp only [St.D] at hmin hsh ⊢
  rw [show decide (St.mk y mo d h mi se ns off).valid = decide (((0 ≤ y ∧ y ≤ 9999) ∧ (1 ≤ mo ∧ mo ≤ 12) ∧ (1 ≤ d ∧ d ≤ mLen y mo) ∧ (0 ≤ h ∧ h ≤ 23) ∧ (0 ≤ mi ∧ mi ≤ 59) ∧ (-1439 ≤ shift off ∧ shift off ≤ 1439)) ∧ ((se = 60 ∧ leapAt (St.mk y mo d h mi se ns off).t) ∨ (se ≠ 60 ∧ 0 ≤ se ∧ se ≤ 59))) from decide_eq_decide.mpr (valid_iff hns)]
  simp only [l1_law_sound, start, List.map_cons, List.map_nil, Nat.reduceSub, List.replicate_succ, List.replicate_zero, List.cons_append, List.nil_append]
  rw [execs_step (ρ' := [some (.tuple [.int y, .int mo, .int d, .int h, .int mi, .int se, .int ns, offD off]), some (.int y), some (.int mo), some (.int d), some (.int h), some (.int mi), some (.int se), some (.int ns), some (offD off)]) (by first | rfl | simp [exec])]
  by_cases a : (0 ≤ y ∧ y ≤ 9999) ∧ (1 ≤ mo ∧ mo ≤ 12)
  · rw [execs_ifN (c := ¬ ((0 ≤ y ∧ y ≤ 9999) ∧ (1 ≤ mo ∧ mo ≤ 12))) (fun q => q a) (ev_not (ev_and (ev_chainLe rfl rfl rfl) fun _ => ev_chainLe rfl rfl rfl)), List.nil_append]
    have hlen := @lawDays_len y mo a.2.1 a.2.2
    by_cases b : 1 ≤ d ∧ d ≤ mLen y mo
    · rw [execs_ifN (c := ¬ (1 ≤ d ∧ d ≤ mLen y mo)) (fun q => q b) (ev_not (ev_chainLe rfl rfl (by first | rfl | simp [hd, hlen]))), List.nil_append]
      by_cases c : (0 ≤ h ∧ h ≤ 23) ∧ (0 ≤ mi ∧ mi ≤ 59) ∧ (-1439 ≤ shift off ∧ shift off ≤ 1439)
      · rw [execs_ifN (c := ¬ ((0 ≤ h ∧ h ≤ 23) ∧ (0 ≤ mi ∧ mi ≤ 59) ∧ (if shift off < 0 then -shift off else shift off) ≤ 1439)) (by rw [abs_le]; exact fun q => q c) (ev_not (ev_and (ev_chainLe rfl rfl rfl) fun _ => ev_and (ev_chainLe rfl rfl rfl) fun _ => by first | rfl | simp [hsh])), List.nil_append]
        by_cases e : se = 60
        · subst e
          have hp : (St.mk y mo d h mi 60 ns off).plain := ⟨a.1, a.2, b, c.1, c.2.1, hns, c.2.2⟩
          rw [execs_ifP (c := (60 : Int) = 60) rfl (by first | rfl | simp)]
          have ht : lawT (St.mk y mo d h mi 60 ns off) = (St.mk y mo d h mi 60 ns off).t := lawT_eq a.2.1 a.2.2
          have hb : lawLeapB (lawT (St.mk y mo d h mi 60 ns off)) y = decide (leapAt (St.mk y mo d h mi 60 ns off).t) := by
            rw [ht, Bool.eq_iff_iff, lawLeapB_iff, decide_eq_true_eq]
            exact (plain_leap hp).symm
          first | rfl | simp [execs, exec, hmin, hleap, hb, a, b, c]
        · rw [execs_ifN (c := se = 60) e (by first | rfl | simp), List.nil_append]
          have := @ev_chainLe (run l1_T N (k + 3)) [some (.tuple [.int y, .int mo, .int d, .int h, .int mi, .int se, .int ns, offD off]), some (.int y), some (.int mo), some (.int d), some (.int h), some (.int mi), some (.int se), some (.int ns), some (offD off)] (.cst (.int 0)) (.loc 6) (.cst (.int 59)) 0 se 59 rfl rfl rfl
          simp only [execs, exec, this, R.bind_ok, fin_ret]
          congr 2
          exact decide_eq_decide.mpr ⟨fun q => ⟨⟨a.1, a.2, b, c⟩, .inr ⟨e, q⟩⟩, fun q => by rcases q.2 with q | q; exact absurd q.1 e; exact q.2⟩
      · rw [execs_ifP (c := ¬ ((0 ≤ h ∧ h ≤ 23) ∧ (0 ≤ mi ∧ mi ≤ 59) ∧ (if shift off < 0 then -shift off else shift off) ≤ 1439)) (by rw [abs_le]; exact c) (ev_not (ev_and (ev_chainLe rfl rfl rfl) fun _ => ev_and (ev_chainLe rfl rfl rfl) fun _ => by first | rfl | simp [hsh]))]
        have : ¬ (((0 ≤ y ∧ y ≤ 9999) ∧ (1 ≤ mo ∧ mo ≤ 12) ∧ (1 ≤ d ∧ d ≤ mLen y mo) ∧ (0 ≤ h ∧ h ≤ 23) ∧ (0 ≤ mi ∧ mi ≤ 59) ∧ (-1439 ≤ shift off ∧ shift off ≤ 1439)) ∧ ((se = 60 ∧ leapAt (St.mk y mo d h mi se ns off).t) ∨ (se ≠ 60 ∧ 0 ≤ se ∧ se ≤ 59))) := fun q => c q.1.2.2.2
        rw [decide_eq_false this]; rfl
    · rw [execs_ifP (c := ¬ (1 ≤ d ∧ d ≤ mLen y mo)) b (ev_not (ev_chainLe rfl rfl (by first | rfl | simp [hd, hlen])))]
      have : ¬ (((0 ≤ y ∧ y ≤ 9999) ∧ (1 ≤ mo ∧ mo ≤ 12) ∧ (1 ≤ d ∧ d ≤ mLen y mo) ∧ (0 ≤ h ∧ h ≤ 23) ∧ (0 ≤ mi ∧ mi ≤ 59) ∧ (-1439 ≤ shift off ∧ shift off ≤ 1439)) ∧ ((se = 60 ∧ leapAt (St.mk y mo d h mi se ns off).t) ∨ (se ≠ 60 ∧ 0 ≤ se ∧ se ≤ 59))) := fun q => b q.1.2.2.1
      rw [decide_eq_false this]; rfl
  · rw [execs_ifP (c := ¬ ((0 ≤ y ∧ y ≤ 9999) ∧ (1 ≤ mo ∧ mo ≤ 12))) a (ev_not (ev_and (ev_chainLe rfl rfl rfl) fun _ => ev_chainLe rfl rfl rfl))]
    have : ¬ (((0 ≤ y ∧ y ≤ 9999) ∧ (1 ≤ mo ∧ mo ≤ 12) ∧ (1 ≤ d ∧ d ≤ mLen y mo) ∧ (0 ≤ h ∧ h ≤ 23) ∧ (0 ≤ mi ∧ mi ≤ 59) ∧ (-1439 ≤ shift off ∧ shift off ≤ 1439)) ∧ ((se = 60 ∧ leapAt (St.mk y mo d h mi se ns off).t) ∨ (se ≠ 60 ∧ 0 ≤ se ∧ se ≤ 59))) := fun q => a ⟨q.1.1, q.1.2.1⟩
    rw [decide_eq_false this]; rfl
end
end Mine

namespace Mine
open PySem

theorem padL_le {v : Int} {w : Nat} (h0 : -100000 ≤ v) (h1 : v ≤ 9999999999) (hw : w ≤ 9) : (padL v w).length ≤ 21 := by
  have := (itoa_small h0 h1).1
  unfold padL
  rw [List.length_append, List.length_replicate]; lia

theorem add_dS {a b : List Nat} (h : a.length + b.length ≤ 100000) : binop .add (dS a) (dS b) = .ok (dS (a ++ b)) := by
  have : a.length + b.length ≤ limit := by unfold limit; lia
  simp [this]
noncomputable def lt3 (a b c a' b' c' : Int) : Bool := if a = a' then (if b = b' then decide (c < c') else decide (b < b')) else decide (a < a')
theorem tlt_3 (a b c a' b' c' : Int) : tlt [.int a, .int b, .int c] [.int a', .int b', .int c'] = some (lt3 a b c a' b' c') := by
  unfold lt3
  by_cases h1 : a = a' <;> by_cases h2 : b = b' <;> by_cases h3 : c = c' <;> simp [tlt, h1, h2, h3]
theorem lt3_asymm {a b c a' b' c' : Int} (h : lt3 a b c a' b' c' = true) : lt3 a' b' c' a b c = false := by
  unfold lt3 at *
  by_cases h1 : a = a'
  · subst h1
    by_cases h2 : b = b'
    · subst h2
      simp at h ⊢; lia
    · have : ¬ b' = b := fun q => h2 q.symm
      simp [h2, this] at h ⊢; lia
  · have : ¬ a' = a := fun q => h1 q.symm
    simp [h1, this] at h ⊢; lia

section
variable {N n : Nat}
theorem r1_head (hn : 2 ≤ n) (s : St) (x : Nat) (h1 : -100000 ≤ s.y ∧ s.y ≤ 100000) (h2 : -100 ≤ s.mo ∧ s.mo ≤ 1000) (h3 : -100 ≤ s.d ∧ s.d ≤ 1000) (h4 : -100 ≤ s.h ∧ s.h ≤ 1000) (h5 : -100 ≤ s.mi ∧ s.mi ≤ 1000) (h6 : -100 ≤ s.se ∧ s.se ≤ 1000) :
    run l1_T N n 23 [s.D, dS [x]] = .ok (dS (headG s.y s.mo s.d s.h s.mi s.se x)) := by
  obtain ⟨k, rfl⟩ := Nat.exists_eq_add_of_le' hn
  rw [run_at (show l1_T[23]? = some l1_law_head from rfl) rfl]
  obtain ⟨y, mo, d, h, mi, se, ns, off⟩ := s
  simp only at h1 h2 h3 h4 h5 h6
  have p1 := @r1_pad N (k + 1) (by first | assumption | rfl | exact Nat.le_add_left _ _ | decide | lia) y 4 (by first | assumption | rfl | exact Nat.le_add_left _ _ | decide | lia) (by first | assumption | rfl | exact Nat.le_add_left _ _ | decide | lia) (by first | assumption | rfl | exact Nat.le_add_left _ _ | decide | lia) 4 rfl
  have p2 := @r1_pad N (k + 1) (by first | assumption | rfl | exact Nat.le_add_left _ _ | decide | lia) mo 2 (by first | assumption | rfl | exact Nat.le_add_left _ _ | decide | lia) (by first | assumption | rfl | exact Nat.le_add_left _ _ | decide | lia) (by first | assumption | rfl | exact Nat.le_add_left _ _ | decide | lia) 2 rfl
  have p3 := @r1_pad N (k + 1) (by first | assumption | rfl | exact Nat.le_add_left _ _ | decide | lia) d 2 (by first | assumption | rfl | exact Nat.le_add_left _ _ | decide | lia) (by first | assumption | rfl | exact Nat.le_add_left _ _ | decide | lia) (by first | assumption | rfl | exact Nat.le_add_left _ _ | decide | lia) 2 rfl
  have p4 := @r1_pad N (k + 1) (by first | assumption | rfl | exact Nat.le_add_left _ _ | decide | lia) h 2 (by first | assumption | rfl | exact Nat.le_add_left _ _ | decide | lia) (by first | assumption | rfl | exact Nat.le_add_left _ _ | decide | lia) (by first | assumption | rfl | exact Nat.le_add_left _ _ | decide | lia) 2 rfl
  have p5 := @r1_pad N (k + 1) (by first | assumption | rfl | exact Nat.le_add_left _ _ | decide | lia) mi 2 (by first | assumption | rfl | exact Nat.le_add_left _ _ | decide | lia) (by first | assumption | rfl | exact Nat.le_add_left _ _ | decide | lia) (by first | assumption | rfl | exact Nat.le_add_left _ _ | decide | lia) 2 rfl
  have p6 := @r1_pad N (k + 1) (by first | assumption | rfl | exact Nat.le_add_left _ _ | decide | lia) se 2 (by first | assumption | rfl | exact Nat.le_add_left _ _ | decide | lia) (by first | assumption | rfl | exact Nat.le_add_left _ _ | decide | lia) (by first | assumption | rfl | exact Nat.le_add_left _ _ | decide | lia) 2 rfl
  have l1 := @padL_le y 4 (by first | assumption | rfl | exact Nat.le_add_left _ _ | decide | lia) (by first | assumption | rfl | exact Nat.le_add_left _ _ | decide | lia) (by first | assumption | rfl | exact Nat.le_add_left _ _ | decide | lia)
  have l2 := @padL_le mo 2 (by first | assumption | rfl | exact Nat.le_add_left _ _ | decide | lia) (by first | assumption | rfl | exact Nat.le_add_left _ _ | decide | lia) (by first | assumption | rfl | exact Nat.le_add_left _ _ | decide | lia)
  have l3 := @padL_le d 2 (by first | assumption | rfl | exact Nat.le_add_left _ _ | decide | lia) (by first | assumption | rfl | exact Nat.le_add_left _ _ | decide | lia) (by first | assumption | rfl | exact Nat.le_add_left _ _ | decide | lia)
  have l4 := @padL_le h 2 (by first | assumption | rfl | exact Nat.le_add_left _ _ | decide | lia) (by first | assumption | rfl | exact Nat.le_add_left _ _ | decide | lia) (by first | assumption | rfl | exact Nat.le_add_left _ _ | decide | lia)
  have l5 := @padL_le mi 2 (by first | assumption | rfl | exact Nat.le_add_left _ _ | decide | lia) (by first | assumption | rfl | exact Nat.le_add_left _ _ | decide | lia) (by first | assumption | rfl | exact Nat.le_add_left _ _ | decide | lia)
  have l6 := @padL_le se 2 (by first | assumption | rfl | exact Nat.le_add_left _ _ | decide | lia) (by first | assumption | rfl | exact Nat.le_add_left _ _ | decide | lia) (by first | assumption | rfl | exact Nat.le_add_left _ _ | decide | lia)
  have g1 : (padL y 4).length + ((padL mo 2).length + ((padL d 2).length + 1) + 1) + 1 ≤ limit := by unfold limit; lia
  have g2 : (padL h 2).length + ((padL mi 2).length + ((padL se 2).length + 1) + 1) + 1 ≤ limit := by unfold limit; lia
  simp [execs, exec, l1_law_head, p1, p2, p3, p4, p5, p6, idxAt, joinL, St.D]
  have c1 : decide ((padL y 4).length + ((padL mo 2).length + ((padL d 2).length + 1) + 1) + 1 ≤ limit) = true := by simpa using g1
  have c2 : decide ((padL h 2).length + ((padL mi 2).length + ((padL se 2).length + 1) + 1) + 1 ≤ limit) = true := by simpa using g2
  simp only [c1, c2, R.when_true, R.bind_ok]
  rw [add_dS (by simp; lia), R.bind_ok, add_dS (by simp; lia), R.bind_ok]
  simp [headG]
theorem r1_compare (hn : 5 ≤ n) (a b : St) (h1 : 1 ≤ a.mo ∧ a.mo ≤ 12) (h2 : 1 ≤ b.mo ∧ b.mo ≤ 12) :
    run l1_T N n 15 [a.D, b.D] = .ok (.int (if lt3 (a.t / 1440) (a.t % 1440 * 60 + a.se) a.ns (b.t / 1440) (b.t % 1440 * 60 + b.se) b.ns = true then -1 else if lt3 (b.t / 1440) (b.t % 1440 * 60 + b.se) b.ns (a.t / 1440) (a.t % 1440 * 60 + a.se) a.ns = true then 1 else 0)) := by
  obtain ⟨k, rfl⟩ := Nat.exists_eq_add_of_le' hn
  rw [run_at (show l1_T[15]? = some p_compare from rfl) rfl]
  have e1 := @run_instant l1_T isT1 N (k + 4) (by first | assumption | rfl | exact Nat.le_add_left _ _ | decide | lia) a h1.1 h1.2
  have e2 := @run_instant l1_T isT1 N (k + 4) (by first | assumption | rfl | exact Nat.le_add_left _ _ | decide | lia) b h2.1 h2.2
  simp only [St.D] at e1 e2
  simp only [p_compare, start, List.map_cons, List.map_nil, Nat.reduceSub, List.replicate_succ, List.replicate_zero, List.cons_append, List.nil_append]
  rw [execs_step (ρ' := [some (.tuple [.int a.y, .int a.mo, .int a.d, .int a.h, .int a.mi, .int a.se, .int a.ns, offD a.off]), some (.tuple [.int b.y, .int b.mo, .int b.d, .int b.h, .int b.mi, .int b.se, .int b.ns, offD b.off]), some (.tuple [.int (a.t / 1440), .int (a.t % 1440 * 60 + a.se), .int a.ns]), none]) (by simp [exec, e1]),
    execs_step (ρ' := [some (.tuple [.int a.y, .int a.mo, .int a.d, .int a.h, .int a.mi, .int a.se, .int a.ns, offD a.off]), some (.tuple [.int b.y, .int b.mo, .int b.d, .int b.h, .int b.mi, .int b.se, .int b.ns, offD b.off]), some (.tuple [.int (a.t / 1440), .int (a.t % 1440 * 60 + a.se), .int a.ns]), some (.tuple [.int (b.t / 1440), .int (b.t % 1440 * 60 + b.se), .int b.ns])]) (by simp [exec, e2])]
  cases u1 : lt3 (a.t / 1440) (a.t % 1440 * 60 + a.se) a.ns (b.t / 1440) (b.t % 1440 * 60 + b.se) b.ns with
  | true =>
    rw [execs_if (c := true) (by rw [ev]; simp only [ev, getL_s, getL_0, R.bind_ok, cmpop_7, tlt_3, u1, R.ofOpt_some])]
    rfl
  | false =>
    rw [execs_if (c := false) (by rw [ev]; simp only [ev, getL_s, getL_0, R.bind_ok, cmpop_7, tlt_3, u1, R.ofOpt_some]), cond_false, List.nil_append]
    cases u2 : lt3 (b.t / 1440) (b.t % 1440 * 60 + b.se) b.ns (a.t / 1440) (a.t % 1440 * 60 + a.se) a.ns with
    | true =>
      rw [execs_if (c := true) (by rw [ev]; simp only [ev, getL_s, getL_0, R.bind_ok, cmpop_8, tlt_3, u2, R.ofOpt_some])]
      rfl
    | false =>
      rw [execs_if (c := false) (by rw [ev]; simp only [ev, getL_s, getL_0, R.bind_ok, cmpop_8, tlt_3, u2, R.ofOpt_some])]
      rfl

theorem r1_canonical (hn : 3 ≤ n) (s : St) (hv : s.valid) : run l1_T N n 24 [s.D] = .ok (dS (fmtL s)) := by
  obtain ⟨k, rfl⟩ := Nat.exists_eq_add_of_le' hn
  rw [run_at (show l1_T[24]? = some l1_law_canonical from rfl) rfl]
  have hp := hv.1
  obtain ⟨va, vb, vc, vd, ve, vf, vg⟩ := hp
  have hm := @mLen_bounds s.y s.mo
  have hse : 0 ≤ s.se ∧ s.se ≤ 60 := by rcases hv.2 with q | q <;> lia
  have q1 := @r1_head N (k + 2) (by first | assumption | rfl | exact Nat.le_add_left _ _ | decide | lia) s 84 (by first | assumption | rfl | exact Nat.le_add_left _ _ | decide | lia) (by first | assumption | rfl | exact Nat.le_add_left _ _ | decide | lia) (by first | assumption | rfl | exact Nat.le_add_left _ _ | decide | lia) (by first | assumption | rfl | exact Nat.le_add_left _ _ | decide | lia) (by first | assumption | rfl | exact Nat.le_add_left _ _ | decide | lia) (by first | assumption | rfl | exact Nat.le_add_left _ _ | decide | lia)
  rw [headG_eq va (by first | assumption | rfl | exact Nat.le_add_left _ _ | decide | lia) (by first | assumption | rfl | exact Nat.le_add_left _ _ | decide | lia) (by first | assumption | rfl | exact Nat.le_add_left _ _ | decide | lia) (by first | assumption | rfl | exact Nat.le_add_left _ _ | decide | lia) (by first | assumption | rfl | exact Nat.le_add_left _ _ | decide | lia)] at q1
  have q2 := @r1_pad N (k + 2) (by first | assumption | rfl | exact Nat.le_add_left _ _ | decide | lia) s.ns 9 (by first | assumption | rfl | exact Nat.le_add_left _ _ | decide | lia) (by first | assumption | rfl | exact Nat.le_add_left _ _ | decide | lia) (by first | assumption | rfl | exact Nat.le_add_left _ _ | decide | lia) 9 rfl
  rw [padN s.ns 8 vf.1 (by first | assumption | rfl | exact Nat.le_add_left _ _ | decide | lia)] at q2
  have q3 := law_frac vf.1 vf.2
  have l1 := headL_length s 84
  have l2 := dig_length 9 s.ns.toNat
  have l3 := rstripL_length [48] (dig 9 s.ns.toNat)
  have l4 : (fracL s.ns).length ≤ 10 := by unfold fracL; split <;> simp; lia
  obtain ⟨y, mo, d, h, mi, se, ns, off⟩ := s
  simp only [St.D] at q1 q2 ⊢
  simp only at *
  simp only [l1_law_canonical, start, List.map_cons, List.map_nil, Nat.reduceSub, List.replicate_succ, List.replicate_zero, List.cons_append, List.nil_append]
  generalize hH : headL ⟨y, mo, d, h, mi, se, ns, off⟩ 84 = H at *
  rw [execs_step (ρ' := [some (.tuple [.int y, .int mo, .int d, .int h, .int mi, .int se, .int ns, offD off]), some (dS (H ++ fracL ns)), none, none]) (by
    simp only [exec, ev, evs, getL_0, getL_s, R.bind_ok, q1]
    simp only [index_1, List.length_cons, List.length_nil, show idxAt 6 (0 + 1 + 1 + 1 + 1 + 1 + 1 + 1 + 1) = some 6 from rfl, R.ofOpt_some, R.bind_ok, List.getElem?_cons_succ, List.getElem?_cons_zero, q2]
    rw [add_dS (by simp; lia), R.bind_ok]
    simp only [rstripD_1, sl_mk, List.toList_toArray, R.bind_ok, List.singleton_append]
    rw [q3, add_dS (by first | assumption | rfl | exact Nat.le_add_left _ _ | decide | lia)]
    rfl)]
  rw [execs_step (ρ' := [some (.tuple [.int y, .int mo, .int d, .int h, .int mi, .int se, .int ns, offD off]), some (dS (H ++ fracL ns)), some (offD off), none]) (by simp [exec, idxAt])]
  have efmt : fmtL ⟨y, mo, d, h, mi, se, ns, off⟩ = H ++ fracL ns ++ zoneL off := by unfold fmtL; rw [hH]
  rw [efmt]
  have hlen : (H ++ fracL ns).length ≤ 29 := by rw [List.length_append]; lia
  generalize H ++ fracL ns = t at *
  cases off with
  | none =>
    rw [execs_if (c := true) (by simp)]
    have := @add_dS t [45, 48, 48, 58, 48, 48] (by simp; lia)
    simp only [cond_true, List.cons_append, List.nil_append, execs, exec, ev, getL_s, getL_0, R.bind_ok, this, fin_ret]
    rfl
  | some o =>
    rw [execs_if (c := false) (by simp [offD]), cond_false, List.nil_append]
    simp only [shift_some] at vg
    by_cases h0 : o = 0
    · subst h0
      rw [execs_if (c := true) (by simp [offD])]
      have := @add_dS t [90] (by simp; lia)
      simp only [cond_true, List.cons_append, List.nil_append, execs, exec, ev, getL_s, getL_0, R.bind_ok, this, fin_ret]
      rfl
    · rw [execs_if (c := false) (by simp [offD, h0]), cond_false, List.nil_append]
      have p1 : ∀ v : Int, 0 ≤ v → v ≤ 99 → run l1_T N (k + 2) 16 [.int v, .int 2] = .ok (dS (dig 2 v.toNat)) := fun v a b => by
        rw [r1_pad (by first | assumption | rfl | exact Nat.le_add_left _ _ | decide | lia) v 2 (by first | assumption | rfl | exact Nat.le_add_left _ _ | decide | lia) (by first | assumption | rfl | exact Nat.le_add_left _ _ | decide | lia) (by first | assumption | rfl | exact Nat.le_add_left _ _ | decide | lia) 2 rfl, padN v 1 a (by first | assumption | rfl | exact Nat.le_add_left _ _ | decide | lia)]
      have l5 := dig_length 2
      by_cases h1 : o < 0
      · have n1 : ¬ 0 < o := by first | assumption | rfl | exact Nat.le_add_left _ _ | decide | lia
        have z : zoneL (some o) = 45 :: (dig 2 (-o / 60).toNat ++ [58] ++ dig 2 (-o % 60).toNat) := by unfold zoneL; simp only; rw [if_neg h0, if_pos h1]
        rw [z]
        rw [execs_step (ρ' := [some (.tuple [.int y, .int mo, .int d, .int h, .int mi, .int se, .int ns, offD (some o)]), some (dS t), some (.int o), some (dS [45])]) (by simp [exec, offD, n1])]
        have r1 := p1 (-o / 60) (by first | assumption | rfl | exact Nat.le_add_left _ _ | decide | lia) (by first | assumption | rfl | exact Nat.le_add_left _ _ | decide | lia)
        have r2 := p1 (-o % 60) (by first | assumption | rfl | exact Nat.le_add_left _ _ | decide | lia) (by first | assumption | rfl | exact Nat.le_add_left _ _ | decide | lia)
        simp only [execs, exec, ev, evs, getL_s, getL_0, R.bind_ok, app1_6, if_pos h1, binop_4, binop_5, show decide ((0 : Int) < 60) = true from rfl, show decide ((60 : Int) < 1073741824) = true from rfl, Bool.and_self, R.when_true, r1, r2]
        rw [add_dS (by simp; lia), R.bind_ok, add_dS (by simp [l5]; lia), R.bind_ok, add_dS (by simp [l5]; lia), R.bind_ok, add_dS (by simp [l5]; lia), R.bind_ok]
        simp
      · have n1 : 0 < o := by first | assumption | rfl | exact Nat.le_add_left _ _ | decide | lia
        have z : zoneL (some o) = 43 :: (dig 2 (o / 60).toNat ++ [58] ++ dig 2 (o % 60).toNat) := by unfold zoneL; simp only; rw [if_neg h0, if_neg h1]
        rw [z]
        rw [execs_step (ρ' := [some (.tuple [.int y, .int mo, .int d, .int h, .int mi, .int se, .int ns, offD (some o)]), some (dS t), some (.int o), some (dS [43])]) (by simp [exec, offD, n1])]
        have r1 := p1 (o / 60) (by first | assumption | rfl | exact Nat.le_add_left _ _ | decide | lia) (by first | assumption | rfl | exact Nat.le_add_left _ _ | decide | lia)
        have r2 := p1 (o % 60) (by first | assumption | rfl | exact Nat.le_add_left _ _ | decide | lia) (by first | assumption | rfl | exact Nat.le_add_left _ _ | decide | lia)
        simp only [execs, exec, ev, evs, getL_s, getL_0, R.bind_ok, app1_6, if_neg h1, binop_4, binop_5, show decide ((0 : Int) < 60) = true from rfl, show decide ((60 : Int) < 1073741824) = true from rfl, Bool.and_self, R.when_true, r1, r2]
        rw [add_dS (by simp; lia), R.bind_ok, add_dS (by simp [l5]; lia), R.bind_ok, add_dS (by simp [l5]; lia), R.bind_ok, add_dS (by simp [l5]; lia), R.bind_ok]
        simp
end
end Mine

namespace Mine
open PySem

/-- what a zone's text must have to do with its offset -/
structure ZoneF (z : List Nat) (off : Option Int) : Prop where
  len : z.length ≤ 6
  head : ∃ c q, z = c :: q ∧ (c = 90 ∨ c = 122 ∨ c = 43 ∨ c = 45)
  same : ∀ o, zoneM z = some o → o = off
  good : subAt [58, 54, 48] z = false → -1439 ≤ shift off → shift off ≤ 1439 → zoneM z = some off
  bad : subAt [58, 54, 48] z = true → zoneM z = none
  cut : zoneM z.dropLast = none
  lo : -100000 ≤ shift off
  hi : shift off ≤ 100000

theorem zone_pm {c h m : Nat} (hc : c = 43 ∨ c = 45) (hh : h ≤ 24) (h1 : 1 ≤ m) (hm : m ≤ 60) : ZoneF (c :: (dig 2 h ++ [58] ++ dig 2 m)) (some (if c = 45 then -((h : Int) * 60 + m) else (h : Int) * 60 + m)) := by
  have e := zoneM_pm hc (h := h) (m := m) (by first | assumption | rfl | exact Nat.le_add_left _ _ | decide | lia) (by first | assumption | rfl | exact Nat.le_add_left _ _ | decide | lia)
  have e' : (if h > 23 ∨ m > 59 then none else if c = 45 then (if h * 60 + m = 0 then some none else some (some (-((h : Int) * 60 + m)))) else some (some ((h : Int) * 60 + m))) =
      if h > 23 ∨ m > 59 then none else some (some (if c = 45 then -((h : Int) * 60 + m) else (h : Int) * 60 + m)) := by
    split
    · rfl
    · split
      · rw [if_neg (by first | assumption | rfl | exact Nat.le_add_left _ _ | decide | lia)]
      · rfl
  rw [e'] at e
  have hs : subAt [58, 54, 48] (c :: (dig 2 h ++ [58] ++ dig 2 m)) = decide (m = 60) := by
    rw [dig2, dig2]
    simp only [List.cons_append, List.nil_append]
    rw [Bool.eq_iff_iff, decide_eq_true_eq]
    simp [subAt, List.isPrefixOf]
    lia
  refine ⟨by simp [dig_length], ⟨c, _, rfl, by first | assumption | rfl | exact Nat.le_add_left _ _ | decide | lia⟩, fun o ho => ?_, fun hn h1 h2 => ?_, fun hy => ?_, ?_, ?_, ?_⟩
  · rw [e] at ho
    split at ho
    · cases ho
    · exact (Option.some.inj ho).symm
  · rw [e]
    rw [hs, decide_eq_false_iff_not] at hn
    simp only [shift_some] at h1 h2
    rw [if_neg]
    split at h1 <;> split at h2 <;> lia
  · rw [hs, decide_eq_true_eq] at hy
    rw [e, if_pos (by first | assumption | rfl | exact Nat.le_add_left _ _ | decide | lia)]
  · rw [dig2, dig2]
    simp only [List.cons_append, List.nil_append, List.dropLast]
    unfold zoneM
    simp only
    rw [if_neg (by first | assumption | rfl | exact Nat.le_add_left _ _ | decide | lia), if_pos hc]
  · simp only [shift_some]; split <;> lia
  · simp only [shift_some]; split <;> lia

theorem twelve0 {k : Int} (h1 : 0 ≤ k) (h2 : k < 12) : k = 0 ∨ k = 1 ∨ k = 2 ∨ k = 3 ∨ k = 4 ∨ k = 5 ∨ k = 6 ∨ k = 7 ∨ k = 8 ∨ k = 9 ∨ k = 10 ∨ k = 11 := by first | assumption | rfl | exact Nat.le_add_left _ _ | decide | lia

section
variable {N n : Nat}
theorem r1_zone (hn : 2 ≤ n) (k h m : Int) (hk0 : 0 ≤ k) (hk1 : k < 12) (h0 : 0 ≤ h) (h1 : h ≤ 24) (m0 : 1 ≤ m) (m1 : m ≤ 60) : ∃ z off, run l1_T N n 25 [.int k, .int h, .int m] = .ok (.tuple [dS z, offD off]) ∧ ZoneF z off := by
  obtain ⟨q, rfl⟩ := Nat.exists_eq_add_of_le' hn
  rw [run_at (show l1_T[25]? = some l1_law_zone from rfl) rfl]
  by_cases h6 : k < 6
  · have : k = 0 ∨ k = 1 ∨ k = 2 ∨ k = 3 ∨ k = 4 ∨ k = 5 := by first | assumption | rfl | exact Nat.le_add_left _ _ | decide | lia
    rcases this with rfl | rfl | rfl | rfl | rfl | rfl
    · refine ⟨[90], some 0, by rfl, ?_⟩
      exact ⟨by decide, ⟨_, _, rfl, .inl rfl⟩, (fun o ho => by cases ho; rfl), fun _ _ _ => rfl, (fun q => by cases q), rfl, by decide, by decide⟩
    · refine ⟨[122], some 0, by rfl, ?_⟩
      exact ⟨by decide, ⟨_, _, rfl, .inr (.inl rfl)⟩, (fun o ho => by cases ho; rfl), fun _ _ _ => rfl, (fun q => by cases q), rfl, by decide, by decide⟩
    · refine ⟨[45, 48, 48, 58, 48, 48], none, by rfl, ?_⟩
      exact ⟨by decide, ⟨_, _, rfl, .inr (.inr (.inr rfl))⟩, (fun o ho => by cases ho; rfl), fun _ _ _ => rfl, (fun q => by cases q), rfl, by decide, by decide⟩
    · refine ⟨[43, 48, 48, 58, 48, 48], some 0, by rfl, ?_⟩
      exact ⟨by decide, ⟨_, _, rfl, .inr (.inr (.inl rfl))⟩, (fun o ho => by cases ho; rfl), fun _ _ _ => rfl, (fun q => by cases q), rfl, by decide, by decide⟩
    · refine ⟨[43, 48, 49, 58, 48, 48], some 60, by rfl, ?_⟩
      exact ⟨by decide, ⟨_, _, rfl, .inr (.inr (.inl rfl))⟩, (fun o ho => by cases ho; rfl), fun _ _ _ => rfl, (fun q => by cases q), rfl, by decide, by decide⟩
    · refine ⟨[45, 49, 50, 58, 48, 48], some (-720), by rfl, ?_⟩
      exact ⟨by decide, ⟨_, _, rfl, .inr (.inr (.inr rfl))⟩, (fun o ho => by cases ho; rfl), fun _ _ _ => rfl, (fun q => by cases q), rfl, by decide, by decide⟩
  · have p1 : run l1_T N (q + 1) 16 [.int h, .int 2] = .ok (dS (dig 2 h.toNat)) := by rw [r1_pad (by first | assumption | rfl | exact Nat.le_add_left _ _ | decide | lia) h 2 (by first | assumption | rfl | exact Nat.le_add_left _ _ | decide | lia) (by first | assumption | rfl | exact Nat.le_add_left _ _ | decide | lia) (by first | assumption | rfl | exact Nat.le_add_left _ _ | decide | lia) 2 rfl, padN h 1 h0 (by first | assumption | rfl | exact Nat.le_add_left _ _ | decide | lia)]
    have p2 : run l1_T N (q + 1) 16 [.int m, .int 2] = .ok (dS (dig 2 m.toNat)) := by rw [r1_pad (by first | assumption | rfl | exact Nat.le_add_left _ _ | decide | lia) m 2 (by first | assumption | rfl | exact Nat.le_add_left _ _ | decide | lia) (by first | assumption | rfl | exact Nat.le_add_left _ _ | decide | lia) (by first | assumption | rfl | exact Nat.le_add_left _ _ | decide | lia) 2 rfl, padN m 1 (by first | assumption | rfl | exact Nat.le_add_left _ _ | decide | lia) (by first | assumption | rfl | exact Nat.le_add_left _ _ | decide | lia)]
    have l5 := dig_length 2
    simp only [l1_law_zone, start, List.map_cons, List.map_nil, Nat.reduceSub, List.replicate_succ, List.replicate_zero, List.cons_append, List.nil_append]
    rw [execs_if (c := false) (by simp [h6]), cond_false, List.nil_append]
    rw [execs_step (ρ' := [some (.int k), some (.int h), some (.int m), some (dS (dig 2 h.toNat ++ [58] ++ dig 2 m.toNat))]) (by
      simp only [exec, ev, evs, getL_0, getL_s, R.bind_ok, p1, p2]
      rw [add_dS (by simp [l5]), R.bind_ok, add_dS (by simp [l5]), R.bind_ok]
      rfl)]
    have eh : ((h.toNat : Nat) : Int) = h := by first | assumption | rfl | exact Nat.le_add_left _ _ | decide | lia
    have em : ((m.toNat : Nat) : Int) = m := by first | assumption | rfl | exact Nat.le_add_left _ _ | decide | lia
    by_cases hp : k % 2 = 0
    · rw [execs_if (c := true) (by simp [hp])]
      refine ⟨43 :: (dig 2 h.toNat ++ [58] ++ dig 2 m.toNat), some (h * 60 + m), ?_, ?_⟩
      · have := @add_dS [43] (dig 2 h.toNat ++ [58] ++ dig 2 m.toNat) (by simp [l5])
        simp only [cond_true, List.cons_append, List.nil_append, execs, exec, ev, evs, getL_0, getL_s, R.bind_ok, this, binop_1, binop_3, show (smallI h || smallI 60) = true from by simp [smallI], R.when_true, fin_ret]
        rfl
      · have := zone_pm (c := 43) (h := h.toNat) (m := m.toNat) (.inl rfl) (by first | assumption | rfl | exact Nat.le_add_left _ _ | decide | lia) (by first | assumption | rfl | exact Nat.le_add_left _ _ | decide | lia) (by first | assumption | rfl | exact Nat.le_add_left _ _ | decide | lia)
        rw [if_neg (by first | assumption | rfl | exact Nat.le_add_left _ _ | decide | lia), eh, em] at this
        exact this
    · rw [execs_if (c := false) (by simp [hp])]
      refine ⟨45 :: (dig 2 h.toNat ++ [58] ++ dig 2 m.toNat), some (-(h * 60 + m)), ?_, ?_⟩
      · have := @add_dS [45] (dig 2 h.toNat ++ [58] ++ dig 2 m.toNat) (by simp [l5])
        simp only [cond_false, List.cons_append, List.nil_append, execs, exec, ev, evs, getL_0, getL_s, R.bind_ok, this, binop_1, binop_3, show (smallI h || smallI 60) = true from by simp [smallI], R.when_true, fin_ret]
        rfl
      · have := zone_pm (c := 45) (h := h.toNat) (m := m.toNat) (.inr rfl) (by first | assumption | rfl | exact Nat.le_add_left _ _ | decide | lia) (by first | assumption | rfl | exact Nat.le_add_left _ _ | decide | lia) (by first | assumption | rfl | exact Nat.le_add_left _ _ | decide | lia)
        rw [if_pos rfl, eh, em] at this
        exact this

theorem r1_clock (hn : 2 ≤ n) (k h m s : Int) (off : Option Int) (hk0 : 0 ≤ k) (hk1 : k < 3) : ∃ a b c : Int, run l1_T N n 26 [.int k, .int h, .int m, .int s, offD off] = .ok (.tuple [.int a, .int b, .int c]) ∧ (-1 ≤ a ∧ a ≤ 24) ∧ (-1 ≤ b ∧ b ≤ 60) ∧ (-1 ≤ c ∧ c ≤ 61) := by
  obtain ⟨q, rfl⟩ := Nat.exists_eq_add_of_le' hn
  rw [run_at (show l1_T[26]? = some l1_law_clock from rfl) rfl]
  have hs := @r1_shift N (q + 1) (by first | assumption | rfl | exact Nat.le_add_left _ _ | decide | lia) off
  have hk : k = 0 ∨ k = 1 ∨ k = 2 := by first | assumption | rfl | exact Nat.le_add_left _ _ | decide | lia
  have h4 : s % 4 = 0 ∨ s % 4 = 1 ∨ s % 4 = 2 ∨ s % 4 = 3 := by first | assumption | rfl | exact Nat.le_add_left _ _ | decide | lia
  rcases hk with rfl | rfl | rfl
  · rcases h4 with e | e | e | e
    · exact ⟨(1439 + shift off) % 1440 / 60, (1439 + shift off) % 1440 % 60, 60, by simp [execs, exec, l1_law_clock, hs, e, idxAt], by first | assumption | rfl | exact Nat.le_add_left _ _ | decide | lia, by first | assumption | rfl | exact Nat.le_add_left _ _ | decide | lia, by first | assumption | rfl | exact Nat.le_add_left _ _ | decide | lia⟩
    · exact ⟨(1439 + shift off) % 1440 / 60, (1439 + shift off) % 1440 % 60, 59, by simp [execs, exec, l1_law_clock, hs, e, idxAt], by first | assumption | rfl | exact Nat.le_add_left _ _ | decide | lia, by first | assumption | rfl | exact Nat.le_add_left _ _ | decide | lia, by first | assumption | rfl | exact Nat.le_add_left _ _ | decide | lia⟩
    · exact ⟨(1439 + shift off) % 1440 / 60, (1439 + shift off) % 1440 % 60, 60, by simp [execs, exec, l1_law_clock, hs, e, idxAt], by first | assumption | rfl | exact Nat.le_add_left _ _ | decide | lia, by first | assumption | rfl | exact Nat.le_add_left _ _ | decide | lia, by first | assumption | rfl | exact Nat.le_add_left _ _ | decide | lia⟩
    · exact ⟨(1439 + shift off) % 1440 / 60, (1439 + shift off) % 1440 % 60, 61, by simp [execs, exec, l1_law_clock, hs, e, idxAt], by first | assumption | rfl | exact Nat.le_add_left _ _ | decide | lia, by first | assumption | rfl | exact Nat.le_add_left _ _ | decide | lia, by first | assumption | rfl | exact Nat.le_add_left _ _ | decide | lia⟩
  · rcases h4 with e | e | e | e
    · exact ⟨0, 0, 0, by simp [execs, exec, l1_law_clock, e, idxAt], by first | assumption | rfl | exact Nat.le_add_left _ _ | decide | lia, by first | assumption | rfl | exact Nat.le_add_left _ _ | decide | lia, by first | assumption | rfl | exact Nat.le_add_left _ _ | decide | lia⟩
    · exact ⟨0, 0, 30, by simp [execs, exec, l1_law_clock, e, idxAt], by first | assumption | rfl | exact Nat.le_add_left _ _ | decide | lia, by first | assumption | rfl | exact Nat.le_add_left _ _ | decide | lia, by first | assumption | rfl | exact Nat.le_add_left _ _ | decide | lia⟩
    · exact ⟨0, 0, 59, by simp [execs, exec, l1_law_clock, e, idxAt], by first | assumption | rfl | exact Nat.le_add_left _ _ | decide | lia, by first | assumption | rfl | exact Nat.le_add_left _ _ | decide | lia, by first | assumption | rfl | exact Nat.le_add_left _ _ | decide | lia⟩
    · exact ⟨0, 0, 60, by simp [execs, exec, l1_law_clock, e, idxAt], by first | assumption | rfl | exact Nat.le_add_left _ _ | decide | lia, by first | assumption | rfl | exact Nat.le_add_left _ _ | decide | lia, by first | assumption | rfl | exact Nat.le_add_left _ _ | decide | lia⟩
  · exact ⟨h % 26 - 1, m % 62 - 1, s % 63 - 1, by simp [execs, exec, l1_law_clock], by first | assumption | rfl | exact Nat.le_add_left _ _ | decide | lia, by first | assumption | rfl | exact Nat.le_add_left _ _ | decide | lia, by first | assumption | rfl | exact Nat.le_add_left _ _ | decide | lia⟩

theorem all_flat {C : Calls} : ∀ l : List PyData, l.all flat = true → allR (l.map fun d => ev C (.or (.isNone (.loc 0)) (.typeIs (.loc 0) .int)) [some d]) = .ok (.bool true)
  | [], _ => rfl
  | d :: l, h => by
    simp only [List.all_cons, Bool.and_eq_true] at h
    have ih := all_flat (C := C) l h.2
    have : ev C (.or (.isNone (.loc 0)) (.typeIs (.loc 0) .int)) [some d] = .ok (.bool true) := by
      have hd := h.1
      cases d <;> first | rfl | cases hd
    rw [List.map_cons, this]
    exact ih
theorem r1_plain (hn : 1 ≤ n) (l : List PyData) (k : Int) (hl : (l.length : Int) = k) (hf : l.all flat = true) : run l1_T N n 27 [.tuple l, .int k] = .ok (.bool true) := by
  obtain ⟨q, rfl⟩ := Nat.exists_eq_add_of_le' hn
  rw [run_at (show l1_T[27]? = some l1_law_plain from rfl) rfl]
  have := all_flat (C := run l1_T N q) l hf
  simp only [l1_law_plain, start, List.map_cons, List.map_nil, Nat.reduceSub, List.replicate_zero, List.append_nil]
  rw [execs_if (c := false) (by simp [hl]), cond_false, List.nil_append]
  simp only [execs, exec]
  rw [ev]
  simp only [ev, getL_0, R.bind_ok, seqOf_1, R.ofOpt_some] at this ⊢
  rw [this]
  rfl

theorem r1_changed (hn : 1 ≤ n) (k d s m : Int) (hk0 : 0 ≤ k) (hk1 : k < 12) : ∃ s' m' : Int, run l1_T N n 28 [.int k, .tuple [.int d, .int s, .int m]] = .ok (.tuple [.int d, .int s', .int m']) := by
  obtain ⟨q, rfl⟩ := Nat.exists_eq_add_of_le' hn
  rw [run_at (show l1_T[28]? = some l1_law_changed from rfl) rfl]
  rcases twelve0 hk0 hk1 with rfl | rfl | rfl | rfl | rfl | rfl | rfl | rfl | rfl | rfl | rfl | rfl
  · exact ⟨86400, m, rfl⟩
  · exact ⟨0, m, rfl⟩
  · exact ⟨-1, m, rfl⟩
  · exact ⟨86401, m, rfl⟩
  · exact ⟨s, -1, rfl⟩
  · exact ⟨s, 1000000000, rfl⟩
  · exact ⟨s, 999999999, rfl⟩
  · exact ⟨s, 0, rfl⟩
  · exact ⟨s, m, rfl⟩
  · exact ⟨s, m, rfl⟩
  · exact ⟨s, m, rfl⟩
  · exact ⟨s, m, rfl⟩

theorem r1_fits (hn : 3 ≤ n) (d s m y : Int) (off : Option Int) (hl : leapAt (d * 1440 + 1439) ↔ lawLeap (d * 1440 + 1439) y) :
    run l1_T N n 29 [.tuple [.int d, .int s, .int m], offD off, .int y] = .ok (.bool (decide (instOk d s m off))) := by
  obtain ⟨q, rfl⟩ := Nat.exists_eq_add_of_le' hn
  rw [run_at (show l1_T[29]? = some l1_law_fits from rfl) rfl]
  have hs := @r1_shift N (q + 2) (by first | assumption | rfl | exact Nat.le_add_left _ _ | decide | lia) off
  have hle := fun t y => @r1_leap N (q + 2) (by first | assumption | rfl | exact Nat.le_add_left _ _ | decide | lia) t y
  simp only [l1_law_fits, start, List.map_cons, List.map_nil, Nat.reduceSub, List.replicate_zero, List.append_nil]
  rw [show decide (instOk d s m off) = decide ((0 ≤ s ∧ s ≤ 86400) ∧ (0 ≤ m ∧ m ≤ 999999999) ∧ (-1439 ≤ shift off ∧ shift off ≤ 1439) ∧ (s = 86400 → leapAt (d * 1440 + 1439)) ∧ (0 ≤ instT d s off ∧ instT d s off < 3652425 * 1440)) from decide_eq_decide.mpr instOk_iff]
  by_cases a : (0 ≤ s ∧ s ≤ 86400) ∧ (0 ≤ m ∧ m ≤ 999999999) ∧ (-1439 ≤ shift off ∧ shift off ≤ 1439)
  · rw [execs_ifN (c := ¬ ((0 ≤ s ∧ s ≤ 86400) ∧ (0 ≤ m ∧ m ≤ 999999999) ∧ (if shift off < 0 then -shift off else shift off) ≤ 1439)) (by rw [abs_le]; exact fun q => q a) (ev_not (ev_and (ev_chainLe rfl rfl rfl) fun _ => ev_and (ev_chainLe rfl rfl rfl) fun _ => by simp [hs])), List.nil_append]
    by_cases b : s = 86400
    · subst b
      by_cases c : leapAt (d * 1440 + 1439)
      · have cb : lawLeapB (d * 1440 + 1439) y = true := lawLeapB_iff.mpr (hl.mp c)
        rw [execs_if (c := false) (by simp [idxAt, smallI, hle, cb]), cond_false, List.nil_append]
        have h2 : instT d 86400 off = d * 1440 + 1439 + shift off := by unfold instT; simp
        simp only [execs, exec]
        rw [ev_chainLt (a := 0) (b := d * 1440 + 1439 + shift off) (c := 3652425 * 1440) rfl (by simp [idxAt, smallI, hs]) (by simp [smallI])]
        simp only [R.bind_ok, fin_ret]
        congr 2
        rw [h2]
        exact decide_eq_decide.mpr ⟨fun q => ⟨a.1, a.2.1, a.2.2, fun _ => c, q⟩, fun q => q.2.2.2.2⟩
      · have cb : lawLeapB (d * 1440 + 1439) y = false := by
          cases e : lawLeapB (d * 1440 + 1439) y with
          | false => rfl
          | true => exact absurd (hl.mpr (lawLeapB_iff.mp e)) c
        rw [execs_if (c := true) (by simp [idxAt, smallI, hle, cb])]
        rw [decide_eq_false (fun q => c (q.2.2.2.1 rfl))]
        rfl
    · rw [execs_if (c := false) (by simp [idxAt, b]), cond_false, List.nil_append]
      have h2 : instT d s off = d * 1440 + (if 1439 < s / 60 then 1439 else s / 60) + shift off := by
        unfold instT; rw [if_pos b]; split <;> lia
      simp only [execs, exec]
      rw [ev_chainLt (a := 0) (b := d * 1440 + (if 1439 < s / 60 then 1439 else s / 60) + shift off) (c := 3652425 * 1440) rfl (by simp [idxAt, smallI, hs]) (by simp [smallI])]
      simp only [R.bind_ok, fin_ret]
      congr 2
      rw [h2]
      exact decide_eq_decide.mpr ⟨fun q => ⟨a.1, a.2.1, a.2.2, fun z => absurd z b, q⟩, fun q => q.2.2.2.2⟩
  · rw [execs_ifP (c := ¬ ((0 ≤ s ∧ s ≤ 86400) ∧ (0 ≤ m ∧ m ≤ 999999999) ∧ (if shift off < 0 then -shift off else shift off) ≤ 1439)) (by rw [abs_le]; exact a) (ev_not (ev_and (ev_chainLe rfl rfl rfl) fun _ => ev_and (ev_chainLe rfl rfl rfl) fun _ => by simp [hs]))]
    rw [decide_eq_false (fun q => a ⟨q.1, q.2.1, q.2.2.1⟩)]
    rfl
end
end Mine

namespace Mine
open PySem

theorem feqs_self : ∀ l : List PyData, l.all flat = true → feqs l l = true
  | [], _ => rfl
  | d :: l, h => by
    simp only [List.all_cons, Bool.and_eq_true] at h
    have ih := feqs_self l h.2
    have hd := h.1
    cases d <;> first | (cases hd; done) | (rw [feqs, ih]; first | rfl | (rw [feq_1, decide_eq_true rfl]; rfl))
theorem deq_self {l : List PyData} (h : l.all flat = true) (hl : l.length ≤ 100) : deq (.tuple l) (.tuple l) = some true := by
  rw [deq_11, h, decide_eq_true hl, feqs_self l h]; rfl
theorem offD_flat (o : Option Int) : flat (offD o) = true := by cases o <;> rfl
theorem D_flat (s : St) : [PyData.int s.y, .int s.mo, .int s.d, .int s.h, .int s.mi, .int s.se, .int s.ns, offD s.off].all flat = true := by
  simp [offD_flat]
theorem deq_off (o : Option Int) : deq (offD o) (offD o) = some true := by cases o <;> simp [offD]

noncomputable abbrev body14 : List PS := l1_law.body.drop 14
noncomputable abbrev body21 : List PS := l1_law.body.drop 21
noncomputable abbrev body33 : List PS := l1_law.body.drop 33

section
variable {S z f tx dm atv : PyData} {y mo d h mi se : Int}
/-- the law's frame: the script, then what the setup has made of it, then the rest -/
noncomputable abbrev fr1 (S z : PyData) (s : St) (f : PyData) (so : Bool) (tx dm : PyData) (du : Bool) (atv : PyData) (r : List (Option PyData)) : Env' :=
  some S :: some z :: some (offD s.off) :: some (.int s.y) :: some (.int s.mo) :: some (.int s.d) :: some (.int s.h) :: some (.int s.mi) :: some (.int s.se) :: some f :: some s.D :: some (.bool so) :: some tx :: some dm :: some (.bool du) :: some atv :: r

/-- the last leg: the moved stamp is held against all -/
theorem law1_B3 (s m : St) (hv : s.valid) (hm : m.valid) (d' s' n' : Int) (so du : Bool) (o16 o20 o25 o26 o27 o28 o29 w18 : Option PyData) (hb : m.t / 1440 = d' ∧ m.t % 1440 * 60 + m.se = s' ∧ m.ns = n') :
    fin (execs (run l1_T 200 20) 200 body33 (fr1 S z s f so tx dm du atv [o16, some (.bool false), w18, some (.tuple [.int (s.t / 1440), .int (s.t % 1440 * 60 + s.se), .int s.ns]), o20, some (.tuple [.int d', .int s', .int n']), some (offD m.off), some (.bool true), some m.D, o25, o26, o27, o28, o29])) = .ok (.bool true) := by
  have c27 := @r1_plain 200 20 (by first | decide | lia) [.int m.y, .int m.mo, .int m.d, .int m.h, .int m.mi, .int m.se, .int m.ns, offD m.off] 8 rfl (D_flat m)
  have c22 := @r1_sound 200 20 (by first | decide | lia) m hm.1.2.2.2.2.2.1
  rw [decide_eq_true hm] at c22
  have c20 := @r1_instant 200 20 (by first | decide | lia) m
  rw [lawT_eq hm.1.2.1.1 hm.1.2.1.2, hb.1, hb.2.1, hb.2.2] at c20
  have c12 := @run_format l1_T isT1 200 20 (by first | decide | lia) (by first | decide | lia) m
  rw [if_pos hm] at c12
  have c24 := @r1_canonical 200 20 (by first | decide | lia) m hm
  have hfl : (fmtL m).length ≤ 40 := by
    unfold fmtL
    have l1 := headL_length m 84
    have l3 := rstripL_length [48] (dig 9 m.ns.toNat)
    rw [dig_length] at l3
    have l4 : (fracL m.ns).length ≤ 10 := by unfold fracL; split <;> simp; lia
    have l5 : (zoneL m.off).length ≤ 6 := by unfold zoneL; split <;> (try split) <;> (try split) <;> simp [dig_length]
    rw [List.length_append, List.length_append]; lia
  have c10 := @run_parse l1_T isT1 200 20 (by first | decide | lia) (fmtL m) (by lia)
  rw [parse_fmt hm] at c10
  have c15 := @r1_compare 200 20 (by first | decide | lia) m s hm.1.2.1 hv.1.2.1
  have c15' := @r1_compare 200 20 (by first | decide | lia) s m hv.1.2.1 hm.1.2.1
  rw [hb.1, hb.2.1, hb.2.2] at c15 c15'
  have fl := D_flat m
  have ds := @deq_self _ fl (by simp)
  have d3 : ∀ a b c : Int, deq (.tuple [.int a, .int b, .int c]) (.tuple [.int a, .int b, .int c]) = some true := fun a b c => deq_self (by simp) (by simp)
  have dof := deq_off m.off
  simp only [St.D, resD] at c22 c20 c12 c24 c10 c15 c15' ds
  show fin (execs (run l1_T 200 20) 200 [_, _, _, _, _, _, _, _, _, _, _, _, _] _) = _
  rw [execs_if (c := false) (by simp [truthy])]
  rw [cond_false, List.nil_append]
  rw [execs_if (c := false) (by simp [c27, idxAt, dof]), cond_false, List.nil_append]
  rw [execs_if (c := false) (by simp [c22, c20, d3]), cond_false, List.nil_append]
  rw [execs_step (ρ' := fr1 S z s f so tx dm du atv [o16, some (.bool false), w18, some (.tuple [.int (s.t / 1440), .int (s.t % 1440 * 60 + s.se), .int s.ns]), o20, some (.tuple [.int d', .int s', .int n']), some (offD m.off), some (.bool true), some m.D, some (dS (fmtL m)), o26, o27, o28, o29]) (by simp [exec, c12])]
  rw [execs_if (c := false) (by simp [c24]), cond_false, List.nil_append]
  rw [execs_step (ρ' := fr1 S z s f so tx dm du atv [o16, some (.bool false), w18, some (.tuple [.int (s.t / 1440), .int (s.t % 1440 * 60 + s.se), .int s.ns]), o20, some (.tuple [.int d', .int s', .int n']), some (offD m.off), some (.bool true), some m.D, some (dS (fmtL m)), some m.D, o27, o28, o29]) (by simp [exec, c10])]
  rw [execs_if (c := false) (by simp [c27, ds]), cond_false, List.nil_append]
  have as1 := @lt3_asymm d' s' n' (s.t / 1440) (s.t % 1440 * 60 + s.se) s.ns
  generalize hu : lt3 d' s' n' (s.t / 1440) (s.t % 1440 * 60 + s.se) s.ns = u at *
  generalize hw : lt3 (s.t / 1440) (s.t % 1440 * 60 + s.se) s.ns d' s' n' = v at *
  have t1 := tlt_3 d' s' n' (s.t / 1440) (s.t % 1440 * 60 + s.se) s.ns
  have t2 := tlt_3 (s.t / 1440) (s.t % 1440 * 60 + s.se) s.ns d' s' n'
  rw [hu] at t1
  rw [hw] at t2
  have key : ∀ (ord ah be : Int), ord = (if v = true then 1 else if u = true then -1 else 0) → ah = (if u = true then -1 else if v = true then 1 else 0) → be = (if v = true then -1 else if u = true then 1 else 0) → ah = ord ∧ be = -ord := by
    intro ord ah be h1 h2 h3
    subst h1 h2 h3
    cases u <;> cases v <;> simp at as1 ⊢
  obtain ⟨k1, k2⟩ := key _ _ _ rfl rfl rfl
  rw [execs_step (ρ' := fr1 S z s f so tx dm du atv [o16, some (.bool false), w18, some (.tuple [.int (s.t / 1440), .int (s.t % 1440 * 60 + s.se), .int s.ns]), o20, some (.tuple [.int d', .int s', .int n']), some (offD m.off), some (.bool true), some m.D, some (dS (fmtL m)), some m.D, some (.int (if v = true then 1 else if u = true then -1 else 0)), o28, o29]) (by
    simp only [exec, ev, getL_s, getL_0, R.bind_ok, cmpop_7, cmpop_8, t1, t2, R.ofOpt_some, truthy_1]
    cases v <;> cases u <;> rfl)]
  rw [execs_step (ρ' := fr1 S z s f so tx dm du atv [o16, some (.bool false), w18, some (.tuple [.int (s.t / 1440), .int (s.t % 1440 * 60 + s.se), .int s.ns]), o20, some (.tuple [.int d', .int s', .int n']), some (offD m.off), some (.bool true), some m.D, some (dS (fmtL m)), some m.D, some (.int (if v = true then 1 else if u = true then -1 else 0)), some (.int (if u = true then -1 else if v = true then 1 else 0)), o29]) (by simp [exec, c15])]
  rw [execs_step (ρ' := fr1 S z s f so tx dm du atv [o16, some (.bool false), w18, some (.tuple [.int (s.t / 1440), .int (s.t % 1440 * 60 + s.se), .int s.ns]), o20, some (.tuple [.int d', .int s', .int n']), some (offD m.off), some (.bool true), some m.D, some (dS (fmtL m)), some m.D, some (.int (if v = true then 1 else if u = true then -1 else 0)), some (.int (if u = true then -1 else if v = true then 1 else 0)), some (.int (if v = true then -1 else if u = true then 1 else 0))]) (by simp [exec, c15'])]
  rw [k1, k2]
  rw [execs_if (c := false) (by simp), cond_false, List.nil_append]
  rw [execs_if (c := false) (by simp), cond_false, List.nil_append]
  rfl
end
end Mine

namespace Mine
open PySem

noncomputable abbrev targetE : PE := (.idx (.bin .add (.cst (.tuple [.none, (.int 0), (.int 1439), (.int (-1439)), (.int 1440), (.int (-1440)), (.int 60), (.int (-1))])) (.bin .mul (.tup [(.bin .sub (.bin .mod (.idx (.loc 0) (.cst (.int 20))) (.cst (.int 2879))) (.cst (.int 1439)))]) (.cst (.int 4)))) (.bin .mod (.idx (.loc 0) (.cst (.int 19))) (.cst (.int 12))))

section
variable {S z f tx dm atv : PyData} {C : Calls}
theorem ev_target {r : Env'} {a19 a20 : Int} (h19 : index S (.int 19) = .ok (.int a19)) (h20 : index S (.int 20) = .ok (.int a20)) : ∃ tg, ev C targetE (some S :: r) = .ok (offD tg) := by
  have hk0 : 0 ≤ a19 % 12 := by first | decide | lia
  have hk1 : a19 % 12 < 12 := by first | decide | lia
  rcases twelve0 hk0 hk1 with e | e | e | e | e | e | e | e | e | e | e | e
  · exact ⟨none, by simp [h19, h20, e, idxAt, offD]⟩
  · exact ⟨some 0, by simp [h19, h20, e, idxAt, offD]⟩
  · exact ⟨some 1439, by simp [h19, h20, e, idxAt, offD]⟩
  · exact ⟨some (-1439), by simp [h19, h20, e, idxAt, offD]⟩
  · exact ⟨some 1440, by simp [h19, h20, e, idxAt, offD]⟩
  · exact ⟨some (-1440), by simp [h19, h20, e, idxAt, offD]⟩
  · exact ⟨some 60, by simp [h19, h20, e, idxAt, offD]⟩
  · exact ⟨some (-1), by simp [h19, h20, e, idxAt, offD]⟩
  · exact ⟨some (a20 % 2879 - 1439), by simp [h19, h20, e, idxAt, offD, List.replicate_succ]⟩
  · exact ⟨some (a20 % 2879 - 1439), by simp [h19, h20, e, idxAt, offD, List.replicate_succ]⟩
  · exact ⟨some (a20 % 2879 - 1439), by simp [h19, h20, e, idxAt, offD, List.replicate_succ]⟩
  · exact ⟨some (a20 % 2879 - 1439), by simp [h19, h20, e, idxAt, offD, List.replicate_succ]⟩

theorem law1_B2 (s : St) (hv : s.valid) (du : Bool) (o16 o19 o20 o21 o22 o23 o24 o25 o26 o27 o28 o29 : Option PyData) {a18 a19 a20 : Int} (h18 : index S (.int 18) = .ok (.int a18)) (h19 : index S (.int 19) = .ok (.int a19)) (h20 : index S (.int 20) = .ok (.int a20)) :
    fin (execs (run l1_T 200 20) 200 body21 (fr1 S z s f true tx dm du atv [o16, some (.bool false), some (dS (fmtL s)), o19, o20, o21, o22, o23, o24, o25, o26, o27, o28, o29])) = .ok (.bool true) := by
  have c24 := @r1_canonical 200 20 (by first | decide | lia) s hv
  have c13 := @run_to_instant l1_T isT1 200 20 (by first | decide | lia) s hv.1.2.1.1 hv.1.2.1.2
  have c20 := @r1_instant 200 20 (by first | decide | lia) s
  rw [lawT_eq hv.1.2.1.1 hv.1.2.1.2] at c20
  have c27 := @r1_plain 200 20 (by first | decide | lia) [.int s.y, .int s.mo, .int s.d, .int s.h, .int s.mi, .int s.se, .int s.ns, offD s.off] 8 rfl (D_flat s)
  have c14 := @run_from_instant l1_T isT1 200 20 (by first | decide | lia) (by first | decide | lia) (s.t / 1440) (s.t % 1440 * 60 + s.se) s.ns s.off
  rw [if_pos (instOk_self hv), (inst_self hv).1] at c14
  have ds := @deq_self _ (D_flat s) (by simp)
  have d3 : ∀ a b c : Int, deq (.tuple [.int a, .int b, .int c]) (.tuple [.int a, .int b, .int c]) = some true := fun a b c => deq_self (by simp) (by simp)
  have hd := plain_day hv.1
  have hleap := @leap_iff (s.t / 1440 * 1440 + 1439) s.y hv.1.1.1 hv.1.1.2 (by first | decide | lia) (by first | decide | lia)
  generalize hD : s.t / 1440 = D at *
  generalize hX : s.t % 1440 * 60 + s.se = X at *
  have c27' := @r1_plain 200 20 (by first | decide | lia) [.int D, .int X, .int s.ns] 3 rfl (by simp)
  obtain ⟨s', n', c28⟩ := @r1_changed 200 20 (by first | decide | lia) (a18 % 12) D X s.ns (by first | decide | lia) (by first | decide | lia)
  have ht := @ev_target S (run l1_T 200 20) (some z :: some (offD s.off) :: some (.int s.y) :: some (.int s.mo) :: some (.int s.d) :: some (.int s.h) :: some (.int s.mi) :: some (.int s.se) :: some f :: some s.D :: some (.bool true) :: some tx :: some dm :: some (.bool du) :: some atv ::
    [o16, some (.bool false), some (dS (fmtL s)), some (.tuple [.int D, .int X, .int s.ns]), some s.D, some (.tuple [.int D, .int s', .int n']), o22, o23, o24, o25, o26, o27, o28, o29]) a19 a20 h19 h20
  obtain ⟨tg, htg⟩ := ht
  have c29 := @r1_fits 200 20 (by first | decide | lia) D s' n' s.y tg hleap
  have c14' := @run_from_instant l1_T isT1 200 20 (by first | decide | lia) (by first | decide | lia) D s' n' tg
  simp only [St.D] at c24 c13 c20 c14 ds htg
  show fin (execs (run l1_T 200 20) 200 (_ :: _ :: _ :: _ :: _ :: _ :: _ :: _ :: _ :: _ :: _ :: _ :: body33) _) = _
  rw [execs_if (c := false) (by simp), cond_false, List.nil_append]
  rw [execs_if (c := false) (by simp [c24]), cond_false, List.nil_append]
  rw [execs_step (ρ' := fr1 S z s f true tx dm du atv [o16, some (.bool false), some (dS (fmtL s)), some (.tuple [.int D, .int X, .int s.ns]), o20, o21, o22, o23, o24, o25, o26, o27, o28, o29]) (by simp [exec, c13])]
  rw [execs_if (c := false) (by simp [c27', c20, d3]), cond_false, List.nil_append]
  rw [execs_step (ρ' := fr1 S z s f true tx dm du atv [o16, some (.bool false), some (dS (fmtL s)), some (.tuple [.int D, .int X, .int s.ns]), some s.D, o21, o22, o23, o24, o25, o26, o27, o28, o29]) (by simp [exec, c14])]
  rw [execs_if (c := false) (by simp [c27, ds]), cond_false, List.nil_append]
  rw [execs_step (ρ' := fr1 S z s f true tx dm du atv [o16, some (.bool false), some (dS (fmtL s)), some (.tuple [.int D, .int X, .int s.ns]), some s.D, some (.tuple [.int D, .int s', .int n']), o22, o23, o24, o25, o26, o27, o28, o29]) (by simp [exec, h18, c28])]
  rw [execs_step (ρ' := fr1 S z s f true tx dm du atv [o16, some (.bool false), some (dS (fmtL s)), some (.tuple [.int D, .int X, .int s.ns]), some s.D, some (.tuple [.int D, .int s', .int n']), some (offD tg), o23, o24, o25, o26, o27, o28, o29]) (by rw [exec, htg]; rfl)]
  rw [execs_step (ρ' := fr1 S z s f true tx dm du atv [o16, some (.bool false), some (dS (fmtL s)), some (.tuple [.int D, .int X, .int s.ns]), some s.D, some (.tuple [.int D, .int s', .int n']), some (offD tg), some (.bool (decide (instOk D s' n' tg))), o24, o25, o26, o27, o28, o29]) (by simp [exec, c29])]
  rw [execs_step (ρ' := fr1 S z s f true tx dm du atv [o16, some (.bool false), some (dS (fmtL s)), some (.tuple [.int D, .int X, .int s.ns]), some s.D, some (.tuple [.int D, .int s', .int n']), some (offD tg), some (.bool (decide (instOk D s' n' tg))), some .none, o25, o26, o27, o28, o29]) (by simp [exec])]
  by_cases ok : instOk D s' n' tg
  · rw [if_pos ok] at c14'
    rw [decide_eq_true ok]
    rw [execs_step (ρ' := fr1 S z s f true tx dm du atv [o16, some (.bool false), some (dS (fmtL s)), some (.tuple [.int D, .int X, .int s.ns]), some s.D, some (.tuple [.int D, .int s', .int n']), some (offD tg), some (.bool true), some (instSt D s' n' tg).D, o25, o26, o27, o28, o29]) (by simp [exec, c14'])]
    rw [execs_if (c := false) (by simp), cond_false, List.nil_append]
    have hb := @inst_back D s' n' tg ok.2.1.1 ok.2.1.2
    have := @law1_B3 S z f tx dm atv s (instSt D s' n' tg) hv ok.2.2 D s' n' true du o16 (some s.D) o25 o26 o27 o28 o29 (some (dS (fmtL s))) ⟨hb.1, hb.2, rfl⟩
    rw [hD, hX] at this
    exact this
  · rw [if_neg ok] at c14'
    rw [decide_eq_false ok]
    rw [execs_step (ρ' := fr1 S z s f true tx dm du atv [o16, some (.bool true), some (dS (fmtL s)), some (.tuple [.int D, .int X, .int s.ns]), some s.D, some (.tuple [.int D, .int s', .int n']), some (offD tg), some (.bool false), some .none, o25, o26, o27, o28, o29]) (by simp [exec, c14'])]
    rw [execs_if (c := false) (by simp), cond_false, List.nil_append]
    show fin (execs (run l1_T 200 20) 200 (_ :: _) _) = _
    rw [execs_if (c := true) (by simp)]
    rfl
end
end Mine

namespace Mine
open PySem

section
variable {S z f dm atv : PyData}
theorem law1_B1 (s : St) (t : List Nat) (ht : t.length ≤ 100) (du : Bool) (hp : parseM t = if du = true then some s else none) {a18 a19 a20 : Int} (h18 : index S (.int 18) = .ok (.int a18)) (h19 : index S (.int 19) = .ok (.int a19)) (h20 : index S (.int 20) = .ok (.int a20)) :
    fin (execs (run l1_T 200 20) 200 body14 (fr1 S z s f (decide s.valid) (dS t) dm du atv [none, none, none, none, none, none, none, none, none, none, none, none, none, none])) = .ok (.bool true) := by
  have c10 := @run_parse l1_T isT1 200 20 (by first | decide | lia) t (by first | decide | lia)
  rw [hp] at c10
  have c12 := @run_format l1_T isT1 200 20 (by first | decide | lia) (by first | decide | lia) s
  have c27 := @r1_plain 200 20 (by first | decide | lia) [.int s.y, .int s.mo, .int s.d, .int s.h, .int s.mi, .int s.se, .int s.ns, offD s.off] 8 rfl (D_flat s)
  have ds := @deq_self _ (D_flat s) (by simp)
  show fin (execs (run l1_T 200 20) 200 (_ :: _ :: _ :: _ :: _ :: _ :: _ :: body21) _) = _
  rw [execs_step (ρ' := fr1 S z s f (decide s.valid) (dS t) dm du atv [some .none, some (.bool false), none, none, none, none, none, none, none, none, none, none, none, none]) (by simp [exec])]
  have mid : ∃ o16, fin (execs (run l1_T 200 20) 200 (PS.tryAsg 16 (PE.call 10 [PE.loc 12]) 17 (PE.cst (PyData.bool true)) :: (l1_law.body.drop 16)) (fr1 S z s f (decide s.valid) (dS t) dm du atv [some .none, some (.bool false), none, none, none, none, none, none, none, none, none, none, none, none])) =
      fin (execs (run l1_T 200 20) 200 (l1_law.body.drop 18) (fr1 S z s f (decide s.valid) (dS t) dm du atv [o16, some (.bool !du), none, none, none, none, none, none, none, none, none, none, none, none])) := by
    cases du with
    | true =>
      simp only [if_true, resD, St.D] at c10
      refine ⟨some s.D, ?_⟩
      rw [execs_step (ρ' := fr1 S z s f (decide s.valid) (dS t) dm true atv [some s.D, some (.bool false), none, none, none, none, none, none, none, none, none, none, none, none]) (by simp [exec, c10])]
      show fin (execs (run l1_T 200 20) 200 (_ :: _ :: l1_law.body.drop 18) _) = _
      rw [execs_if (c := false) (by simp), cond_false, List.nil_append]
      rw [execs_if (c := false) (by simp [c27, ds]), cond_false, List.nil_append]
      rfl
    | false =>
      simp only [Bool.false_eq_true, if_false, resD] at c10
      refine ⟨some .none, ?_⟩
      rw [execs_step (ρ' := fr1 S z s f (decide s.valid) (dS t) dm false atv [some .none, some (.bool true), none, none, none, none, none, none, none, none, none, none, none, none]) (by simp [exec, c10])]
      show fin (execs (run l1_T 200 20) 200 (_ :: _ :: l1_law.body.drop 18) _) = _
      rw [execs_if (c := false) (by simp), cond_false, List.nil_append]
      rw [execs_if (c := false) (by simp), cond_false, List.nil_append]
      rfl
  obtain ⟨o16, e⟩ := mid
  refine Eq.trans e ?_
  show fin (execs (run l1_T 200 20) 200 (_ :: _ :: _ :: body21) _) = _
  rw [execs_step (ρ' := fr1 S z s f (decide s.valid) (dS t) dm du atv [o16, some (.bool false), some .none, none, none, none, none, none, none, none, none, none, none, none]) (by simp [exec])]
  by_cases hv : s.valid
  · rw [if_pos hv] at c12
    rw [decide_eq_true hv]
    simp only [St.D] at c12
    rw [execs_step (ρ' := fr1 S z s f true (dS t) dm du atv [o16, some (.bool false), some (dS (fmtL s)), none, none, none, none, none, none, none, none, none, none, none]) (by simp [exec, c12])]
    rw [execs_if (c := false) (by simp), cond_false, List.nil_append]
    exact law1_B2 s hv du o16 none none none none none none none none none none none h18 h19 h20
  · rw [if_neg hv] at c12
    rw [decide_eq_false hv]
    simp only [St.D] at c12
    rw [execs_step (ρ' := fr1 S z s f false (dS t) dm du atv [o16, some (.bool true), some .none, none, none, none, none, none, none, none, none, none, none, none]) (by simp [exec, c12])]
    rw [execs_if (c := false) (by simp), cond_false, List.nil_append]
    show fin (execs (run l1_T 200 20) 200 (_ :: _) _) = _
    rw [execs_if (c := true) (by simp)]
    rfl
end

/-! the setup -/
theorem index_mem {l : List PyData} {k : Int} (h0 : 0 ≤ k) (h1 : k < l.length) : ∃ d ∈ l, index (.tuple l) (.int k) = .ok d := by
  have hk : k.toNat < l.length := by first | decide | lia
  refine ⟨l[k.toNat], List.getElem_mem hk, ?_⟩
  have : idxAt k l.length = some k.toNat := by unfold idxAt; rw [if_pos h0, if_pos h1]
  simp [this, List.getElem?_eq_getElem hk]

noncomputable abbrev yearE : PE := (.idx (.bin .add (.cst (.tuple [(.int 0), (.int 9999), (.int 0), (.int 9999), (.int (-1)), (.int 10000), (.int 1900), (.int 204), (.int 96)])) (.bin .mul (.tup [(.bin .mod (.idx (.loc 0) (.cst (.int 1))) (.cst (.int 10000)))]) (.cst (.int 3)))) (.bin .mod (.idx (.loc 0) (.cst (.int 0))) (.cst (.int 12))))
noncomputable abbrev dateE : PE := (.idx (.bin .add (.cst (.tuple [(.tuple [(.int 12), (.int 31)]), (.tuple [(.int 1), (.int 1)]), (.tuple [(.int 6), (.int 30)]), (.tuple [(.int 7), (.int 1)]), (.tuple [(.int 12), (.int 31)]), (.tuple [(.int 1), (.int 1)]), (.tuple [(.int 2), (.int 29)]), (.tuple [(.int 3), (.int 1)])])) (.bin .mul (.tup [(.tup [(.bin .mod (.idx (.loc 0) (.cst (.int 3))) (.cst (.int 14))), (.idx (.cst (.tuple [(.int 1), (.int 31), (.int 30), (.int 28), (.int 29), (.int 0), (.int 32), (.int 31), (.int 30), (.int 1), (.int 15), (.int 28)])) (.bin .mod (.idx (.loc 0) (.cst (.int 4))) (.cst (.int 12))))])]) (.cst (.int 4)))) (.bin .mod (.idx (.loc 0) (.cst (.int 2))) (.cst (.int 12))))
noncomputable abbrev fracE : PE := (.idx (.cst (.tuple [(.str (PySem.Str.mk #[])), (.str (PySem.Str.mk #[])), (.str (PySem.Str.mk #[])), (.str (PySem.Str.mk #[46])), (.str (PySem.Str.mk #[46, 48])), (.str (PySem.Str.mk #[46, 48, 53])), (.str (PySem.Str.mk #[46, 49, 50, 48])), (.str (PySem.Str.mk #[46, 57, 57, 57, 57, 57, 57, 57, 57])), (.str (PySem.Str.mk #[46, 57, 57, 57, 57, 57, 57, 57, 57, 57])), (.str (PySem.Str.mk #[46, 48, 48, 48, 48, 48, 48, 48, 48, 49])), (.str (PySem.Str.mk #[46, 48, 48, 48, 48, 48, 48, 48, 48, 48])), (.str (PySem.Str.mk #[46, 49, 50, 51, 52, 53, 54, 55, 56, 57, 48]))])) (.bin .mod (.idx (.loc 0) (.cst (.int 12))) (.cst (.int 12))))

section
variable {S : PyData} {C : Calls} {r : Env'}
theorem ev_year {a0 a1 : Int} (h0 : index S (.int 0) = .ok (.int a0)) (h1 : index S (.int 1) = .ok (.int a1)) : ∃ y : Int, ev C yearE (some S :: r) = .ok (.int y) ∧ -1 ≤ y ∧ y ≤ 10000 := by
  obtain ⟨d, hd, e⟩ := @index_mem [(.int 0), (.int 9999), (.int 0), (.int 9999), (.int (-1)), (.int 10000), (.int 1900), (.int 204), (.int 96), .int (a1 % 10000), .int (a1 % 10000), .int (a1 % 10000)] (a0 % 12) (by first | decide | lia) (by simp; lia)
  have hev : ev C yearE (some S :: r) = .ok d := by rw [← e]; simp [h0, h1, List.replicate_succ]
  rw [hev]
  simp only [List.mem_cons, List.mem_nil_iff, or_false] at hd
  rcases hd with rfl | rfl | rfl | rfl | rfl | rfl | rfl | rfl | rfl | rfl | rfl | rfl
  · exact ⟨0, rfl, by first | decide | lia, by first | decide | lia⟩
  · exact ⟨9999, rfl, by first | decide | lia, by first | decide | lia⟩
  · exact ⟨0, rfl, by first | decide | lia, by first | decide | lia⟩
  · exact ⟨9999, rfl, by first | decide | lia, by first | decide | lia⟩
  · exact ⟨-1, rfl, by first | decide | lia, by first | decide | lia⟩
  · exact ⟨10000, rfl, by first | decide | lia, by first | decide | lia⟩
  · exact ⟨1900, rfl, by first | decide | lia, by first | decide | lia⟩
  · exact ⟨204, rfl, by first | decide | lia, by first | decide | lia⟩
  · exact ⟨96, rfl, by first | decide | lia, by first | decide | lia⟩
  · exact ⟨a1 % 10000, rfl, by first | decide | lia, by first | decide | lia⟩
  · exact ⟨a1 % 10000, rfl, by first | decide | lia, by first | decide | lia⟩
  · exact ⟨a1 % 10000, rfl, by first | decide | lia, by first | decide | lia⟩
theorem ev_date {a2 a3 a4 : Int} (h2 : index S (.int 2) = .ok (.int a2)) (h3 : index S (.int 3) = .ok (.int a3)) (h4 : index S (.int 4) = .ok (.int a4)) : ∃ mo d : Int, ev C dateE (some S :: r) = .ok (.tuple [.int mo, .int d]) ∧ (0 ≤ mo ∧ mo ≤ 13) ∧ (0 ≤ d ∧ d ≤ 32) := by
  obtain ⟨v, hv, ev'⟩ := @index_mem [(.int 1), (.int 31), (.int 30), (.int 28), (.int 29), (.int 0), (.int 32), (.int 31), (.int 30), (.int 1), (.int 15), (.int 28)] (a4 % 12) (by first | decide | lia) (by simp; lia)
  have hvd : ∃ w : Int, v = .int w ∧ 0 ≤ w ∧ w ≤ 32 := by
    simp only [List.mem_cons, List.mem_nil_iff, or_false] at hv
    rcases hv with rfl | rfl | rfl | rfl | rfl | rfl | rfl | rfl | rfl | rfl | rfl | rfl <;> exact ⟨_, rfl, by decide, by decide⟩
  obtain ⟨w, rfl, w0, w1⟩ := hvd
  obtain ⟨d, hd, e⟩ := @index_mem [(.tuple [(.int 12), (.int 31)]), (.tuple [(.int 1), (.int 1)]), (.tuple [(.int 6), (.int 30)]), (.tuple [(.int 7), (.int 1)]), (.tuple [(.int 12), (.int 31)]), (.tuple [(.int 1), (.int 1)]), (.tuple [(.int 2), (.int 29)]), (.tuple [(.int 3), (.int 1)]), .tuple [.int (a3 % 14), .int w], .tuple [.int (a3 % 14), .int w], .tuple [.int (a3 % 14), .int w], .tuple [.int (a3 % 14), .int w]] (a2 % 12) (by first | decide | lia) (by simp; lia)
  have hev : ev C dateE (some S :: r) = .ok d := by
    rw [← e]
    simp only [ev, evs, getL_0, R.bind_ok, h2, h3, h4, binop_5, show decide ((0 : Int) < 12) = true from rfl, show decide ((0 : Int) < 14) = true from rfl, R.when_true, ev']
    simp [List.replicate_succ]
  rw [hev]
  simp only [List.mem_cons, List.mem_nil_iff, or_false] at hd
  rcases hd with rfl | rfl | rfl | rfl | rfl | rfl | rfl | rfl | rfl | rfl | rfl | rfl <;> exact ⟨_, _, rfl, by first | decide | lia, by first | decide | lia⟩
end
end Mine

namespace Mine
open PySem

/-- a fraction as the law makes it, with its nanoseconds -/
structure FracF (f : List Nat) (ns : Int) : Prop where
  shape : (f = [] ∧ ns = 0) ∨ ∃ ds, f = 46 :: ds ∧ ds.all digit = true ∧ ds.length ≤ 10 ∧ (ds.length ≤ 9 → ns = digitsVal ds * 10 ^ (9 - ds.length))
  lo : 0 ≤ ns
  hi : ns ≤ 999999999
theorem FracF.len {f : List Nat} {ns : Int} (h : FracF f ns) : f.length ≤ 11 := by
  rcases h.shape with ⟨rfl, _⟩ | ⟨ds, rfl, _, h, _⟩
  · simp
  · simpa using h

theorem dropLast_app {a b : List Nat} (h : b ≠ []) : (a ++ b).dropLast = a ++ b.dropLast := by rw [List.dropLast_append_of_ne_nil h]

structure Rng (s : St) : Prop where
  y : -1 ≤ s.y ∧ s.y ≤ 10000
  mo : 0 ≤ s.mo ∧ s.mo ≤ 13
  d : 0 ≤ s.d ∧ s.d ≤ 32
  h : -1 ≤ s.h ∧ s.h ≤ 24
  mi : -1 ≤ s.mi ∧ s.mi ≤ 60
  se : -1 ≤ s.se ∧ s.se ≤ 61

noncomputable abbrev textG (s : St) (x : Nat) (f z : List Nat) : List Nat := headG s.y s.mo s.d s.h s.mi s.se x ++ f ++ z

theorem parse_G {s : St} {x : Nat} {t : List Nat} (hx : x = 84 ∨ x = 116) (hr : Rng s) : parseM (headG s.y s.mo s.d s.h s.mi s.se x ++ t) = if s.y = 10000 then none else tailP s.y s.mo s.d s.h s.mi s.se t := by
  by_cases h : s.y = 10000
  · rw [if_pos h, h]; exact parse_far
  · rw [if_neg h]
    have := hr.y; have := hr.mo; have := hr.d; have := hr.h; have := hr.mi; have := hr.se
    exact parse_headG hx (by first | decide | lia) (by first | decide | lia) (by first | decide | lia) (by first | decide | lia) (by first | decide | lia) (by first | decide | lia)

/-- the text, unharmed -/
theorem text_parse {s : St} {x : Nat} {f z : List Nat} (hx : x = 84 ∨ x = 116) (hr : Rng s) (hf : FracF f s.ns) (hz : ZoneF z s.off) :
    parseM (textG s x f z) = if s.valid ∧ (f.length ≠ 1 ∧ f.length ≠ 11) ∧ subAt [58, 54, 48] z = false then some s else none := by
  unfold textG
  rw [List.append_assoc, parse_G hx hr]
  by_cases hy : s.y = 10000
  · rw [if_pos hy, if_neg]
    rintro ⟨hv, _⟩
    have := hv.1.1
    lia
  · rw [if_neg hy]
    obtain ⟨hz1, hz2, hz3⟩ := headc hz.head
    have hval : ∀ o, o = s.off → St.mk s.y s.mo s.d s.h s.mi s.se s.ns o = s := fun o e => by subst e; rfl
    have tail : ∀ (ok : Bool), tailM s.y s.mo s.d s.h s.mi s.se s.ns z = if s.valid ∧ subAt [58, 54, 48] z = false then some s else none := fun _ => by
      unfold tailM
      cases hm : zoneM z with
      | none =>
        simp only
        rw [if_neg]
        rintro ⟨hv, hs⟩
        have := hz.good hs hv.1.2.2.2.2.2.2.1 hv.1.2.2.2.2.2.2.2
        rw [hm] at this; cases this
      | some o =>
        have ho := hz.same o hm
        simp only [hval o ho]
        have hs : subAt [58, 54, 48] z = false := by
          cases e : subAt [58, 54, 48] z with
          | false => rfl
          | true => rw [hz.bad e] at hm; cases hm
        by_cases hv : s.valid
        · rw [if_pos hv, if_pos ⟨hv, hs⟩]
        · rw [if_neg hv, if_neg (fun q => hv q.1)]
    have tl := tail true
    rcases hf.shape with ⟨rfl, hn⟩ | ⟨ds, rfl, hd, hl, hn⟩
    · rw [List.nil_append]
      have e := fracM_no hz2
      cases hc : z with
      | nil => exact absurd hc hz3
      | cons c r =>
        rw [hc] at e tl
        rw [tailP, e]
        simp only
        rw [← hn, tl]
        simp
    · rw [List.cons_append, tailP, fracM_dot hd hz1]
      by_cases q : ds.length < 1 ∨ ds.length > 9
      · rw [if_pos q]
        simp only
        rw [if_neg]
        rintro ⟨_, ⟨q1, q2⟩, _⟩
        simp at q1 q2
        rcases q with q | q
        · exact q1 (List.length_eq_zero_iff.mp (by first | decide | lia))
        · lia
      · rw [if_neg q]
        simp only
        rw [← hn (by first | decide | lia), tl]
        have : (46 :: ds).length ≠ 1 ∧ (46 :: ds).length ≠ 11 := by
          rw [List.length_cons]; lia
        simp only [this, ne_eq, not_false_eq_true, and_self, true_and]

/-- the text, its last sign gone -/
theorem text_cut {s : St} {x : Nat} {f z : List Nat} (hx : x = 84 ∨ x = 116) (hr : Rng s) (hf : FracF f s.ns) (hz : ZoneF z s.off) : parseM (textG s x f z).dropLast = none := by
  obtain ⟨hz1, hz2, hz3⟩ := headc hz.head
  unfold textG
  rw [dropLast_app hz3, List.append_assoc, parse_G hx hr]
  by_cases hy : s.y = 10000
  · rw [if_pos hy]
  · rw [if_neg hy]
    have hz1' : ∀ c r, z.dropLast = c :: r → digit c = false := fun c r e => by
      obtain ⟨c', q, rfl, _⟩ := hz.head
      cases q with
      | nil => cases e
      | cons q1 q2 => simp only [List.dropLast] at e; cases e; exact hz1 _ _ rfl
    have hz2' : ∀ c r, z.dropLast = c :: r → c ≠ 46 := fun c r e => by
      obtain ⟨c', q, rfl, _⟩ := hz.head
      cases q with
      | nil => cases e
      | cons q1 q2 => simp only [List.dropLast] at e; cases e; exact hz2 _ _ rfl
    have tl : ∀ ns, tailM s.y s.mo s.d s.h s.mi s.se ns z.dropLast = none := fun ns => by unfold tailM; rw [hz.cut]
    rcases hf.shape with ⟨rfl, hn⟩ | ⟨ds, rfl, hd, hl, hn⟩
    · rw [List.nil_append]
      have e := fracM_no hz2'
      cases hc : z.dropLast with
      | nil => rfl
      | cons c r =>
        rw [hc] at e
        rw [tailP, e]
        simp only
        rw [← hc, tl]
    · rw [List.cons_append, tailP, fracM_dot hd hz1']
      by_cases q : ds.length < 1 ∨ ds.length > 9
      · rw [if_pos q]
      · rw [if_neg q]
        simp only
        rw [tl]

theorem digit_ten {a : Int} : ∃ c : Nat, itoa (a % 10) = [c] ∧ digit c = true := by
  obtain ⟨k, hk⟩ : ∃ k : Nat, a % 10 = k := ⟨(a % 10).toNat, by first | decide | lia⟩
  refine ⟨48 + k, by rw [hk]; exact itoa_lt (by first | decide | lia), ?_⟩
  unfold digit; simp; lia

section
variable {S : PyData} {C : Calls} {r : Env'}
theorem ev_frac {a12 : Int} (h12 : index S (.int 12) = .ok (.int a12)) : ∃ f : List Nat, ev C fracE (some S :: r) = .ok (dS f) ∧ (f = [] ∨ ∃ ds, f = 46 :: ds ∧ ds.all digit = true ∧ ds.length ≤ 10) := by
  obtain ⟨d, hd, e⟩ := @index_mem [(.str (PySem.Str.mk #[])), (.str (PySem.Str.mk #[])), (.str (PySem.Str.mk #[])), (.str (PySem.Str.mk #[46])), (.str (PySem.Str.mk #[46, 48])), (.str (PySem.Str.mk #[46, 48, 53])), (.str (PySem.Str.mk #[46, 49, 50, 48])), (.str (PySem.Str.mk #[46, 57, 57, 57, 57, 57, 57, 57, 57])), (.str (PySem.Str.mk #[46, 57, 57, 57, 57, 57, 57, 57, 57, 57])), (.str (PySem.Str.mk #[46, 48, 48, 48, 48, 48, 48, 48, 48, 49])), (.str (PySem.Str.mk #[46, 48, 48, 48, 48, 48, 48, 48, 48, 48])), (.str (PySem.Str.mk #[46, 49, 50, 51, 52, 53, 54, 55, 56, 57, 48]))] (a12 % 12) (by first | decide | lia) (by simp; lia)
  have hev : ev C fracE (some S :: r) = .ok d := by rw [← e]; simp [h12]
  rw [hev]
  simp only [List.mem_cons, List.mem_nil_iff, or_false] at hd
  rcases hd with rfl | rfl | rfl | rfl | rfl | rfl | rfl | rfl | rfl | rfl | rfl | rfl
  · exact ⟨[], rfl, .inl rfl⟩
  · exact ⟨[], rfl, .inl rfl⟩
  · exact ⟨[], rfl, .inl rfl⟩
  · exact ⟨[46], rfl, .inr ⟨[], rfl, by decide, by decide⟩⟩
  · exact ⟨[46, 48], rfl, .inr ⟨_, rfl, by decide, by decide⟩⟩
  · exact ⟨[46, 48, 53], rfl, .inr ⟨_, rfl, by decide, by decide⟩⟩
  · exact ⟨[46, 49, 50, 48], rfl, .inr ⟨_, rfl, by decide, by decide⟩⟩
  · exact ⟨[46, 57, 57, 57, 57, 57, 57, 57, 57], rfl, .inr ⟨_, rfl, by decide, by decide⟩⟩
  · exact ⟨[46, 57, 57, 57, 57, 57, 57, 57, 57, 57], rfl, .inr ⟨_, rfl, by decide, by decide⟩⟩
  · exact ⟨[46, 48, 48, 48, 48, 48, 48, 48, 48, 49], rfl, .inr ⟨_, rfl, by decide, by decide⟩⟩
  · exact ⟨[46, 48, 48, 48, 48, 48, 48, 48, 48, 48], rfl, .inr ⟨_, rfl, by decide, by decide⟩⟩
  · exact ⟨[46, 49, 50, 51, 52, 53, 54, 55, 56, 57, 48], rfl, .inr ⟨_, rfl, by decide, by decide⟩⟩
end

/-- the nanoseconds of a fraction -/
noncomputable def nsOf (f : List Nat) : List Nat := (f.drop 1 ++ List.replicate 9 48).take 9
theorem nsOf_frac {f : List Nat} (h : f = [] ∨ ∃ ds, f = 46 :: ds ∧ ds.all digit = true ∧ ds.length ≤ 10) : FracF f (digitsVal (nsOf f)) ∧ (nsOf f).length = 9 ∧ (nsOf f).all digit = true := by
  have hlen : (nsOf f).length = 9 := by unfold nsOf; simp
  have hall : (nsOf f).all digit = true := by
    have h1 : (f.drop 1 ++ List.replicate 9 48).all digit = true := by
      rcases h with rfl | ⟨ds, rfl, hd, _⟩
      · decide
      · rw [List.drop_one, List.tail_cons, List.all_append, hd]; decide
    rw [List.all_eq_true] at h1 ⊢
    exact fun c hc => h1 c (List.mem_of_mem_take hc)
  have hb := digitsVal_bounds hall
  rw [hlen] at hb
  refine ⟨⟨?_, hb.1, by have := hb.2; lia⟩, hlen, hall⟩
  rcases h with rfl | ⟨ds, rfl, hd, hl⟩
  · exact .inl ⟨rfl, by decide⟩
  · refine .inr ⟨ds, rfl, hd, hl, fun h9 => ?_⟩
    have e : nsOf (46 :: ds) = ds ++ List.replicate (9 - ds.length) 48 := by
      unfold nsOf
      rw [List.drop_one, List.tail_cons, List.take_append, List.take_of_length_le h9, List.take_replicate]
      congr 1
      rw [Nat.min_eq_left (by first | decide | lia)]
    rw [e, digitsVal_app, digitsVal_zeros, List.length_replicate]; lia
end Mine

namespace Mine
open PySem

theorem index_ints {l : List Int} {k : Nat} (h : k < l.length) : index (.list (l.map PyData.int)) (.int (k : Int)) = .ok (.int (l.getD k 0)) := by
  have e : idxAt (k : Int) (l.map PyData.int).length = some k := by
    unfold idxAt
    rw [if_pos (by first | decide | lia), if_pos (by rw [List.length_map]; lia), Int.toNat_natCast]
  have h0 : decide ((0 : Int) ≤ (k : Int)) = true := by simp
  rw [index_2, h0, cond_true, e, R.ofOpt_some, R.bind_ok, List.getElem?_map, List.getElem?_eq_getElem h]
  simp [List.getD, h]

theorem harm_bad {t : List Nat} {at' : Int} {c : Nat} (h0 : 0 ≤ at') (hb : okc c = false) : parseM (cut t 0 (bound at' t.length) ++ [c] ++ cut t (bound (at' + 1) t.length) t.length) = none :=
  parse_bad (c := c) (by simp) hb
theorem cut_all_le (t : List Nat) (a b : Nat) : (cut t a b).length ≤ t.length := by
  unfold cut; rw [List.length_drop, List.length_take]; lia
theorem four0 {k : Int} (h1 : 0 ≤ k) (h2 : k < 4) : k = 0 ∨ k = 1 ∨ k = 2 ∨ k = 3 := by first | decide | lia

set_option maxHeartbeats 4000000 in
theorem law1_run (l : List Int) (hlen : ¬ (63 : Int) < l.length) : run l1_T 200 21 30 [.list (l.map PyData.int)] = .ok (.bool true) := by
  rw [run_at (show l1_T[30]? = some l1_law from rfl) rfl]
  by_cases h21 : l.length < 21
  · show fin (execs (run l1_T 200 20) 200 (_ :: _) _) = _
    rw [execs_if (c := true) (by simp; lia)]
    rfl
  · have hi := fun k h => @index_ints l k h
    generalize hS : PyData.list (l.map PyData.int) = S at *
    have hlS : app1 .len S = .ok (.int l.length) := by rw [← hS]; simp
    have i0 : index S (.int 0) = .ok (.int (l.getD 0 0)) := hi 0 (by first | decide | lia)
    generalize l.getD 0 0 = a0 at i0
    have i1 : index S (.int 1) = .ok (.int (l.getD 1 0)) := hi 1 (by first | decide | lia)
    generalize l.getD 1 0 = a1 at i1
    have i2 : index S (.int 2) = .ok (.int (l.getD 2 0)) := hi 2 (by first | decide | lia)
    generalize l.getD 2 0 = a2 at i2
    have i3 : index S (.int 3) = .ok (.int (l.getD 3 0)) := hi 3 (by first | decide | lia)
    generalize l.getD 3 0 = a3 at i3
    have i4 : index S (.int 4) = .ok (.int (l.getD 4 0)) := hi 4 (by first | decide | lia)
    generalize l.getD 4 0 = a4 at i4
    have i5 : index S (.int 5) = .ok (.int (l.getD 5 0)) := hi 5 (by first | decide | lia)
    generalize l.getD 5 0 = a5 at i5
    have i6 : index S (.int 6) = .ok (.int (l.getD 6 0)) := hi 6 (by first | decide | lia)
    generalize l.getD 6 0 = a6 at i6
    have i7 : index S (.int 7) = .ok (.int (l.getD 7 0)) := hi 7 (by first | decide | lia)
    generalize l.getD 7 0 = a7 at i7
    have i8 : index S (.int 8) = .ok (.int (l.getD 8 0)) := hi 8 (by first | decide | lia)
    generalize l.getD 8 0 = a8 at i8
    have i9 : index S (.int 9) = .ok (.int (l.getD 9 0)) := hi 9 (by first | decide | lia)
    generalize l.getD 9 0 = a9 at i9
    have i10 : index S (.int 10) = .ok (.int (l.getD 10 0)) := hi 10 (by first | decide | lia)
    generalize l.getD 10 0 = a10 at i10
    have i11 : index S (.int 11) = .ok (.int (l.getD 11 0)) := hi 11 (by first | decide | lia)
    generalize l.getD 11 0 = a11 at i11
    have i12 : index S (.int 12) = .ok (.int (l.getD 12 0)) := hi 12 (by first | decide | lia)
    generalize l.getD 12 0 = a12 at i12
    have i13 : index S (.int 13) = .ok (.int (l.getD 13 0)) := hi 13 (by first | decide | lia)
    generalize l.getD 13 0 = a13 at i13
    have i14 : index S (.int 14) = .ok (.int (l.getD 14 0)) := hi 14 (by first | decide | lia)
    generalize l.getD 14 0 = a14 at i14
    have i15 : index S (.int 15) = .ok (.int (l.getD 15 0)) := hi 15 (by first | decide | lia)
    generalize l.getD 15 0 = a15 at i15
    have i16 : index S (.int 16) = .ok (.int (l.getD 16 0)) := hi 16 (by first | decide | lia)
    generalize l.getD 16 0 = a16 at i16
    have i17 : index S (.int 17) = .ok (.int (l.getD 17 0)) := hi 17 (by first | decide | lia)
    generalize l.getD 17 0 = a17 at i17
    have i18 : index S (.int 18) = .ok (.int (l.getD 18 0)) := hi 18 (by first | decide | lia)
    generalize l.getD 18 0 = a18 at i18
    have i19 : index S (.int 19) = .ok (.int (l.getD 19 0)) := hi 19 (by first | decide | lia)
    generalize l.getD 19 0 = a19 at i19
    have i20 : index S (.int 20) = .ok (.int (l.getD 20 0)) := hi 20 (by first | decide | lia)
    generalize l.getD 20 0 = a20 at i20
    show fin (execs (run l1_T 200 20) 200 (_ :: _ :: _ :: _ :: _ :: _ :: _ :: _ :: _ :: _ :: _ :: _ :: _ :: _ :: body14) (some S :: none :: none :: none :: none :: none :: none :: none :: none :: none :: none :: none :: none :: none :: none :: none :: [none, none, none, none, none, none, none, none, none, none, none, none, none, none])) = _
    rw [execs_if (c := false) (by simp [hlS]; lia), cond_false, List.nil_append]
    obtain ⟨z, off, c25, hz⟩ := @r1_zone 200 20 (by first | decide | lia) (a9 % 12) (a10 % 25) (a11 % 60 + 1) (by first | decide | lia) (by first | decide | lia) (by first | decide | lia) (by first | decide | lia) (by first | decide | lia) (by first | decide | lia)
    rw [execs_step (ρ' := (some S :: some (dS z) :: some (offD off) :: none :: none :: none :: none :: none :: none :: none :: none :: none :: none :: none :: none :: none :: [none, none, none, none, none, none, none, none, none, none, none, none, none, none])) (by simp [exec, i9, i10, i11, c25])]
    obtain ⟨y, ey, y0, y1⟩ := @ev_year S (run l1_T 200 20) (some (dS z) :: some (offD off) :: none :: none :: none :: none :: none :: none :: none :: none :: none :: none :: none :: none :: none :: [none, none, none, none, none, none, none, none, none, none, none, none, none, none]) a0 a1 i0 i1
    rw [execs_step (ρ' := (some S :: some (dS z) :: some (offD off) :: some (.int y) :: none :: none :: none :: none :: none :: none :: none :: none :: none :: none :: none :: none :: [none, none, none, none, none, none, none, none, none, none, none, none, none, none])) (by rw [exec, ey]; rfl)]
    obtain ⟨mo, d, ed, mo0, d0⟩ := @ev_date S (run l1_T 200 20) (some (dS z) :: some (offD off) :: some (.int y) :: none :: none :: none :: none :: none :: none :: none :: none :: none :: none :: none :: none :: [none, none, none, none, none, none, none, none, none, none, none, none, none, none]) a2 a3 a4 i2 i3 i4
    rw [execs_step (ρ' := (some S :: some (dS z) :: some (offD off) :: some (.int y) :: some (.int mo) :: some (.int d) :: none :: none :: none :: none :: none :: none :: none :: none :: none :: none :: [none, none, none, none, none, none, none, none, none, none, none, none, none, none])) (by rw [exec, ed]; rfl)]
    obtain ⟨h, mi, se, c26, hr1, hr2, hr3⟩ := @r1_clock 200 20 (by first | decide | lia) (a5 % 3) a6 a7 a8 off (by first | decide | lia) (by first | decide | lia)
    rw [execs_step (ρ' := (some S :: some (dS z) :: some (offD off) :: some (.int y) :: some (.int mo) :: some (.int d) :: some (.int h) :: some (.int mi) :: some (.int se) :: none :: none :: none :: none :: none :: none :: none :: [none, none, none, none, none, none, none, none, none, none, none, none, none, none])) (by simp [exec, i5, i6, i7, i8, c26])]
    obtain ⟨f0, ef, hf0⟩ := @ev_frac S (run l1_T 200 20) (some (dS z) :: some (offD off) :: some (.int y) :: some (.int mo) :: some (.int d) :: some (.int h) :: some (.int mi) :: some (.int se) :: none :: none :: none :: none :: none :: none :: none :: [none, none, none, none, none, none, none, none, none, none, none, none, none, none]) a12 i12
    rw [execs_step (ρ' := (some S :: some (dS z) :: some (offD off) :: some (.int y) :: some (.int mo) :: some (.int d) :: some (.int h) :: some (.int mi) :: some (.int se) :: some (dS f0) :: none :: none :: none :: none :: none :: none :: [none, none, none, none, none, none, none, none, none, none, none, none, none, none])) (by rw [exec, ef]; rfl)]
    obtain ⟨dc, edc, hdc⟩ := @digit_ten a13
    have sm : smallI (a13 % 10) = true := by unfold smallI; simp; lia
    have six : ∃ f, (f = [] ∨ ∃ ds, f = 46 :: ds ∧ ds.all digit = true ∧ ds.length ≤ 10) ∧ ∀ rest, fin (execs (run l1_T 200 20) 200 ((PS.ite (PE.cmp .gt (PE.b1 .len (PE.loc 9)) (PE.cst (.int 1))) [PS.asg 9 (PE.bin .add (PE.bin .add (PE.cst (.str (PySem.Str.mk #[46]))) (PE.b1 .str (PE.bin .mod (PE.idx (PE.loc 0) (PE.cst (.int 13))) (PE.cst (.int 10))))) (PE.sliceFrom (PE.loc 9) (PE.cst (.int 2))))] []) :: rest) (some S :: some (dS z) :: some (offD off) :: some (.int y) :: some (.int mo) :: some (.int d) :: some (.int h) :: some (.int mi) :: some (.int se) :: some (dS f0) :: none :: none :: none :: none :: none :: none :: [none, none, none, none, none, none, none, none, none, none, none, none, none, none])) =
        fin (execs (run l1_T 200 20) 200 rest (some S :: some (dS z) :: some (offD off) :: some (.int y) :: some (.int mo) :: some (.int d) :: some (.int h) :: some (.int mi) :: some (.int se) :: some (dS f) :: none :: none :: none :: none :: none :: none :: [none, none, none, none, none, none, none, none, none, none, none, none, none, none])) := by
      by_cases hl : 1 < f0.length
      · rcases hf0 with rfl | ⟨ds, rfl, hd, hl10⟩
        · simp at hl
        · refine ⟨46 :: dc :: ds.drop 1, .inr ⟨dc :: ds.drop 1, rfl, ?_, ?_⟩, fun rest => ?_⟩
          · rw [List.all_cons, hdc, Bool.true_and, List.all_eq_true]
            rw [List.all_eq_true] at hd
            exact fun c hc => hd c (List.mem_of_mem_drop hc)
          · rw [List.length_cons, List.length_drop]; rw [List.length_cons] at hl; lia
          · rw [execs_if (c := true) (by simp; rw [List.length_cons] at hl; lia), cond_true]
            rw [List.cons_append, List.nil_append]
            have hcut : cut (46 :: ds) (bound 2 (46 :: ds).length) (46 :: ds).length = ds.drop 1 := by
              have hb : bound 2 (46 :: ds).length = 2 := by unfold bound; rw [if_neg (by first | decide | lia)]; rw [List.length_cons] at hl ⊢; lia
              rw [hb]; unfold cut
              rw [List.take_of_length_le (Nat.le_refl _)]
              rfl
            rw [execs_step (ρ' := (some S :: some (dS z) :: some (offD off) :: some (.int y) :: some (.int mo) :: some (.int d) :: some (.int h) :: some (.int mi) :: some (.int se) :: some (dS (46 :: dc :: ds.drop 1)) :: none :: none :: none :: none :: none :: none :: [none, none, none, none, none, none, none, none, none, none, none, none, none, none])) (by
              simp only [exec, ev, getL_0, getL_s, R.bind_ok, i13, binop_5, show decide ((0 : Int) < 10) = true from rfl, R.when_true, app1_4, sm, edc]
              rw [add_dS (by simp), R.bind_ok]
              simp only [sliceBy_1, sl_mk, List.toList_toArray, hcut, R.bind_ok]
              rw [add_dS (by simp; rw [List.length_cons] at hl; lia)]
              rfl)]
      · refine ⟨f0, hf0, fun rest => ?_⟩
        rw [execs_if (c := false) (by simp; lia), cond_false, List.nil_append]
    obtain ⟨f, hf, e6⟩ := six
    rw [e6]
    obtain ⟨hF, hn9, hna⟩ := nsOf_frac hf
    have hfl := hF.len
    have hstep7 : app1 .int (dS (nsOf f)) = .ok (.int (digitsVal (nsOf f))) := by
      have : (decide (1 ≤ (nsOf f).length) && decide ((nsOf f).length ≤ 18) && (nsOf f).all digit) = true := by rw [hn9, hna]; rfl
      rw [app1_5]
      simp only [sl_mk, List.toList_toArray, this, R.when_true]
    have hc1 : cut f (bound 1 f.length) f.length = f.drop 1 := by
      unfold cut
      rw [List.take_of_length_le (Nat.le_refl _)]
      unfold bound
      rw [if_neg (by first | decide | lia)]
      cases f with
      | nil => rfl
      | cons c q => rw [show min (1 : Int).toNat (c :: q).length = 1 by simp]
    have hc2 : cut (f.drop 1 ++ List.replicate 9 48) 0 (bound 9 (f.drop 1 ++ List.replicate 9 48).length) = nsOf f := by
      unfold cut nsOf
      rw [List.drop_zero]
      congr 1
      unfold bound
      rw [if_neg (by first | decide | lia), List.length_append, List.length_replicate]
      simp
    rw [execs_step (ρ' := (some S :: some (dS z) :: some (offD off) :: some (.int y) :: some (.int mo) :: some (.int d) :: some (.int h) :: some (.int mi) :: some (.int se) :: some (dS f) :: some (St.mk y mo d h mi se (digitsVal (nsOf f)) off).D :: none :: none :: none :: none :: none :: [none, none, none, none, none, none, none, none, none, none, none, none, none, none])) (by
      simp only [exec, ev, evs, getL_0, getL_s, R.bind_ok, sliceBy_1, sl_mk, List.toList_toArray, hc1]
      rw [show (PyData.str (PySem.Str.mk #[48, 48, 48, 48, 48, 48, 48, 48, 48])) = dS (List.replicate 9 48) from rfl, add_dS (by simp; lia), R.bind_ok]
      simp only [sliceBy_1, sl_mk, List.toList_toArray, hc2, R.bind_ok, hstep7]
      rfl)]
    generalize hst : St.mk y mo d h mi se (digitsVal (nsOf f)) off = s
    have hrng : Rng s := by subst hst; exact ⟨⟨y0, y1⟩, mo0, d0, hr1, hr2, hr3⟩
    have e1 : y = s.y := by rw [← hst]
    have e2 : mo = s.mo := by rw [← hst]
    have e3 : d = s.d := by rw [← hst]
    have e4 : h = s.h := by rw [← hst]
    have e5 : mi = s.mi := by rw [← hst]
    have e7 : se = s.se := by rw [← hst]
    have e8 : off = s.off := by rw [← hst]
    have hF' : FracF f s.ns := by rw [← hst]; exact hF
    rw [e8] at hz
    rw [e1, e2, e3, e4, e5, e7, e8]
    have c22 := @r1_sound 200 20 (by first | decide | lia) s ⟨hF'.lo, hF'.hi⟩
    rw [execs_step (ρ' := (some S :: some (dS z) :: some (offD s.off) :: some (.int s.y) :: some (.int s.mo) :: some (.int s.d) :: some (.int s.h) :: some (.int s.mi) :: some (.int s.se) :: some (dS f) :: some s.D :: some (.bool (decide s.valid)) :: none :: none :: none :: none :: [none, none, none, none, none, none, none, none, none, none, none, none, none, none])) (by simp only [St.D] at c22; simp [exec, c22])]
    have hy := hrng.y; have hmo := hrng.mo; have hd' := hrng.d; have hh := hrng.h; have hmi := hrng.mi; have hse := hrng.se
    obtain ⟨x, hx, ex⟩ : ∃ x : Nat, (x = 84 ∨ x = 116) ∧ index (.str (PySem.Str.mk #[84, 116])) (.int (a14 % 2)) = .ok (dS [x]) := by
      have : a14 % 2 = 0 ∨ a14 % 2 = 1 := by first | decide | lia
      rcases this with q | q
      · exact ⟨84, .inl rfl, by rw [q]; rfl⟩
      · exact ⟨116, .inr rfl, by rw [q]; rfl⟩
    have c23 := @r1_head 200 20 (by first | decide | lia) s x (by first | decide | lia) (by first | decide | lia) (by first | decide | lia) (by first | decide | lia) (by first | decide | lia) (by first | decide | lia)
    have hzl := hz.len
    have hhl : (headG s.y s.mo s.d s.h s.mi s.se x).length ≤ 20 := by
      unfold headG
      have q4 : (padL s.y 4).length ≤ 5 := by
        by_cases q : s.y = 10000
        · rw [q]; decide
        · obtain ⟨_, _, _, _, q', _⟩ := pad4 (v := s.y) (by first | decide | lia) (by first | decide | lia)
          rw [q']; simp
      have q2 : ∀ v : Int, -1 ≤ v → v ≤ 99 → (padL v 2).length ≤ 2 := fun v a b => by
        obtain ⟨_, _, q', _⟩ := pad2 a b
        rw [q']; simp
      have := q2 s.mo (by first | decide | lia) (by first | decide | lia); have := q2 s.d (by first | decide | lia) (by first | decide | lia); have := q2 s.h (by first | decide | lia) (by first | decide | lia); have := q2 s.mi (by first | decide | lia) (by first | decide | lia); have := q2 s.se (by first | decide | lia) (by first | decide | lia)
      simp only [List.length_append, List.length_singleton]; lia
    have htl : (textG s x f z).length ≤ 37 := by unfold textG; rw [List.length_append, List.length_append]; lia
    rw [execs_step (ρ' := (some S :: some (dS z) :: some (offD s.off) :: some (.int s.y) :: some (.int s.mo) :: some (.int s.d) :: some (.int s.h) :: some (.int s.mi) :: some (.int s.se) :: some (dS f) :: some s.D :: some (.bool (decide s.valid)) :: some (dS (textG s x f z)) :: none :: none :: none :: [none, none, none, none, none, none, none, none, none, none, none, none, none, none])) (by
      simp only [St.D] at c23
      simp only [exec, ev, evs, getL_0, getL_s, R.bind_ok, i14, binop_5, show decide ((0 : Int) < 2) = true from rfl, R.when_true, ex, c23]
      rw [add_dS (by first | decide | lia), R.bind_ok, add_dS (by rw [List.length_append]; lia)]
      rfl)]
    rw [execs_step (ρ' := (some S :: some (dS z) :: some (offD s.off) :: some (.int s.y) :: some (.int s.mo) :: some (.int s.d) :: some (.int s.h) :: some (.int s.mi) :: some (.int s.se) :: some (dS f) :: some s.D :: some (.bool (decide s.valid)) :: some (dS (textG s x f z)) :: some (.int (a15 % 12)) :: none :: none :: [none, none, none, none, none, none, none, none, none, none, none, none, none, none])) (by simp [exec, i15])]
    have due : ∃ du : Bool, (du = (decide s.valid && (decide (4 < a15 % 12) && (!(decide (f.length = 1) || decide (f.length = 11)) && !(subAt [58, 54, 48] z))))) := ⟨_, rfl⟩
    obtain ⟨du, hdu⟩ := due
    rw [execs_step (ρ' := (some S :: some (dS z) :: some (offD s.off) :: some (.int s.y) :: some (.int s.mo) :: some (.int s.d) :: some (.int s.h) :: some (.int s.mi) :: some (.int s.se) :: some (dS f) :: some s.D :: some (.bool (decide s.valid)) :: some (dS (textG s x f z)) :: some (.int (a15 % 12)) :: some (.bool du) :: none :: [none, none, none, none, none, none, none, none, none, none, none, none, none, none])) (by
      rw [hdu]
      have m1 : memb (.int (f.length : Int)) [.int 1, .int 11] = some (decide (f.length = 1) || decide (f.length = 11)) := by
        simp only [memb, deq_1, Option.bind_some, Option.map_some, Bool.or_false]
        congr 2
        · exact decide_eq_decide.mpr (by first | decide | lia)
        · exact decide_eq_decide.mpr (by first | decide | lia)
      simp only [exec, ev, evs, getL_0, getL_s, R.bind_ok, truthy_1, cmpop_5, app1_1, sl_mk, List.toList_toArray, cmpop_12, m1, R.ofOpt_some, cmpop_10]
      cases decide s.valid
      · rfl
      · simp only [R.bind_ok]
        cases decide (4 < a15 % 12)
        · rfl
        · simp only [R.bind_ok]
          cases (decide (f.length = 1) || decide (f.length = 11)) <;> rfl)]
    have sg : (decide ((0 : Int) < ((textG s x f z).length : Int) + 1)) = true := by simp; lia
    rw [execs_step (ρ' := (some S :: some (dS z) :: some (offD s.off) :: some (.int s.y) :: some (.int s.mo) :: some (.int s.d) :: some (.int s.h) :: some (.int s.mi) :: some (.int s.se) :: some (dS f) :: some s.D :: some (.bool (decide s.valid)) :: some (dS (textG s x f z)) :: some (.int (a15 % 12)) :: some (.bool du) :: some (.int (a16 % (((textG s x f z).length : Int) + 1))) :: [none, none, none, none, none, none, none, none, none, none, none, none, none, none])) (by
      simp only [exec, ev, getL_0, getL_s, R.bind_ok, i16, app1_1, sl_mk, List.toList_toArray, binop_1, binop_5, sg, R.when_true]
      rfl)]
    have at0 : 0 ≤ a16 % (((textG s x f z).length : Int) + 1) := Int.emod_nonneg _ (by first | decide | lia)
    generalize a16 % (((textG s x f z).length : Int) + 1) = at' at at0
    have tp := @text_parse s x f z hx hrng hF' hz
    have tc := @text_cut s x f z hx hrng hF' hz
    generalize hT : textG s x f z = T at *
    have fin14 : ∀ t : List Nat, t.length ≤ 100 → parseM t = (if du = true then some s else none) → fin (execs (run l1_T 200 20) 200 body14 (some S :: some (dS z) :: some (offD s.off) :: some (.int s.y) :: some (.int s.mo) :: some (.int s.d) :: some (.int s.h) :: some (.int s.mi) :: some (.int s.se) :: some (dS f) :: some s.D :: some (.bool (decide s.valid)) :: some (dS t) :: some (.int (a15 % 12)) :: some (.bool du) :: some (.int at') :: [none, none, none, none, none, none, none, none, none, none, none, none, none, none])) = .ok (.bool true) := fun t ht hp =>
      law1_B1 (S := S) (z := dS z) (f := dS f) (dm := .int (a15 % 12)) (atv := .int at') s t ht du hp i18 i19 i20
    by_cases h4 : a15 % 12 < 4
    · rw [execs_if (c := true) (by simp [h4]), cond_true, List.cons_append, List.nil_append]
      obtain ⟨c, hc, ec⟩ : ∃ c : Nat, okc c = false ∧ index (.str (PySem.Str.mk #[47, 120, 32, 1635])) (.int (a17 % 4)) = .ok (dS [c]) := by
        rcases four0 (k := a17 % 4) (by first | decide | lia) (by first | decide | lia) with q | q | q | q
        · exact ⟨47, by decide, by rw [q]; rfl⟩
        · exact ⟨120, by decide, by rw [q]; rfl⟩
        · exact ⟨32, by decide, by rw [q]; rfl⟩
        · exact ⟨1635, by decide, by rw [q]; rfl⟩
      have l1 := cut_all_le T 0 (bound at' T.length)
      have l2 := cut_all_le T (bound (at' + 1) T.length) T.length
      rw [execs_step (ρ' := (some S :: some (dS z) :: some (offD s.off) :: some (.int s.y) :: some (.int s.mo) :: some (.int s.d) :: some (.int s.h) :: some (.int s.mi) :: some (.int s.se) :: some (dS f) :: some s.D :: some (.bool (decide s.valid)) :: some (dS (cut T 0 (bound at' T.length) ++ [c] ++ cut T (bound (at' + 1) T.length) T.length)) :: some (.int (a15 % 12)) :: some (.bool du) :: some (.int at') :: [none, none, none, none, none, none, none, none, none, none, none, none, none, none])) (by
        simp only [exec, ev, getL_0, getL_s, R.bind_ok, sliceBy_1, sl_mk, List.toList_toArray, i17, binop_5, show decide ((0 : Int) < 4) = true from rfl, R.when_true, ec]
        rw [add_dS (by simp; lia), R.bind_ok]
        simp only [binop_1, R.bind_ok, sliceBy_1, sl_mk, List.toList_toArray]
        rw [add_dS (by simp; lia)]
        rfl)]
      refine fin14 _ (by simp; lia) ?_
      rw [harm_bad at0 hc]
      have : du = false := by rw [hdu, show decide (4 < a15 % 12) = false from by simp; lia]; simp
      rw [this]; rfl
    · rw [execs_if (c := false) (by simp [h4]), cond_false, List.cons_append, List.nil_append]
      by_cases h5 : a15 % 12 = 4
      · rw [execs_if (c := true) (by simp [h5]), cond_true, List.cons_append, List.nil_append]
        have hcut : cut T 0 (bound (-1) T.length) = T.dropLast := by
          unfold cut bound
          rw [if_pos (by first | decide | lia), List.drop_zero, List.dropLast_eq_take]
          congr 1; lia
        rw [execs_step (ρ' := (some S :: some (dS z) :: some (offD s.off) :: some (.int s.y) :: some (.int s.mo) :: some (.int s.d) :: some (.int s.h) :: some (.int s.mi) :: some (.int s.se) :: some (dS f) :: some s.D :: some (.bool (decide s.valid)) :: some (dS T.dropLast) :: some (.int (a15 % 12)) :: some (.bool du) :: some (.int at') :: [none, none, none, none, none, none, none, none, none, none, none, none, none, none])) (by
          simp only [exec, ev, getL_0, getL_s, R.bind_ok, sliceBy_1, sl_mk, List.toList_toArray, hcut]
          rfl)]
        refine fin14 _ (by rw [List.length_dropLast]; lia) ?_
        rw [tc]
        have : du = false := by rw [hdu, show decide (4 < a15 % 12) = false from by simp; lia]; simp
        rw [this]; rfl
      · rw [execs_if (c := false) (by simp [h5]), cond_false, List.nil_append]
        refine fin14 _ (by first | decide | lia) ?_
        rw [tp, hdu, show decide (4 < a15 % 12) = true from by simp; lia]
        by_cases q : s.valid ∧ (f.length ≠ 1 ∧ f.length ≠ 11) ∧ subAt [58, 54, 48] z = false
        · rw [if_pos q, if_pos]
          obtain ⟨q1, ⟨q2, q3⟩, q4⟩ := q
          simp [q1, q2, q3, q4]
        · rw [if_neg q, if_neg]
          intro w
          apply q
          simp at w
          refine ⟨w.1, ⟨w.2.1.1, w.2.1.2⟩, w.2.2⟩
end Mine

namespace Mine
open PySem PySem.W PyProof.Rows
noncomputable def fragOf (h : Heap) (as : List Addr) : Frag := as.filterMap fun a => (h.get? a).map fun o => (a, o)
theorem fragOf_in {h : Heap} {as : List Addr} : (fragOf h as).In h := by
  intro a o e
  unfold fragOf at e
  induction as with
  | nil => cases e
  | cons b r ih =>
    rw [List.filterMap_cons] at e
    cases q : h.get? b with
    | none => rw [q] at e; exact ih e
    | some ob =>
      rw [q] at e
      simp only [Option.map_some, List.lookup] at e
      split at e
      · rename_i z; cases e; rw [beq_iff_eq.mp z]; exact q
      · exact ih e
noncomputable def chk (fns : List Str) (gl : List (Str × PyData)) (nss : List (List Str)) (T : List Fn) (g : Nat) (K : Frag) : Bool := glOk K gl && btOk K && fnsOk K fns && tabOk K fns gl (genAt g) 0 fns nss T
noncomputable def ownHook (as : List Addr) (c : Frag → Bool) : Hook :=
  ⟨Bool, fun s => c (fragOf s.heap as), fun _ => true, fun _ h => ∃ K : Frag, K.In h ∧ c K = true, fun _ s e => ⟨_, fragOf_in, e⟩, fun _ _ _ ⟨K, a, b⟩ k => ⟨K, a.keeps k, b⟩⟩
noncomputable def chk1 (K : Frag) : Bool := chk l1_fns l1_gl l1_nss l1_T 27 K
end Mine
set_option maxRecDepth 100000 in
set_option maxHeartbeats 8000000 in
theorem PySem.Challenge.cw_sx_r042_1o_holds : PySem.Challenge.rw_sx_r042_1o.Holds := by
  open PySem PySem.W PyProof.Rows in
  w_on; o_law; o_head (Mine.ownHook (List.range 400) Mine.chk1); (case hw => w_witness2)
  intro w s₀ s₁ mg mb G Y fa o pm cd doc dV kV ho hd hcd hD hmg hg args vals as hpre hlay hrd hwl hlo
  obtain ⟨K, KX, hchk⟩ := Y
  obtain ⟨c3, h4⟩ := Mine.both hchk
  obtain ⟨c2, h3⟩ := Mine.both c3
  obtain ⟨h1, h2⟩ := Mine.both c2
  refine Ground.open G ?_
  intro T B D TE TW
  clear hd hcd hD B D TE TW ho hchk c3 c2
  have hmg' : mg (Str.ofString "law") = some (Value.ref fa) := hmg
  clear hmg
  wrow_args hpre hlay hrd hwl hlo
  rename_i ns _ _ _ _ _ _ _ a vs _ hl _ _ _ hI _ hlen _
  refine Mine.law_call (fns := Mine.l1_fns) (gl := Mine.l1_gl) (nss := Mine.l1_nss) (T := Mine.l1_T) (N := 200) (g := 27) (k := 30) (n := 20) KX T hg h1 h2 h3 h4 rfl hmg' ⟨_, rfl⟩ rfl rfl hl hI hlen (by decide) (Mine.law1_run ns hlen) ?_
  intro s' hk hos hb
  refine ⟨.inl ⟨_, .bool true, [], rfl, fun cls => ?_, .bool true, ?_, fun _ => ⟨List.nodup_nil, fun _ q => by cases q⟩⟩, hk, hos, hb⟩
  · rfl
  · exact postW_of (by wrow_shape) (by wtm_val) (by first | rfl | (str_meet; first | done | w_fin))
