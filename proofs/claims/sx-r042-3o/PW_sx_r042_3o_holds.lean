import PyProof.Rows.All

import Wide.All

import OpenK.KWalk

import OpenK.KCall

import KE.IntTextText

import PyProof.Conv_int

import PyProof.StrReplace2

import PyProof.StrLawsTight

import PyProof.Draws

import PyProof.ZipIter

import PyProof.EnumMake

import Open.Line

import Wide.FinOn

import PySem.Challenge.RW_sx_r042_3o

set_option Elab.async false

set_option linter.all false

set_option bootstrap.genMatcherCode false

set_option genInjectivity false
set_option genSizeOf false
namespace Mine
open PySem

set_option genInjectivity true in
inductive R (α : Type) where
  | ok (a : α)
  | exc (fresh : Bool)
  | stuck

noncomputable def R.bind {α β : Type} : R α → (α → R β) → R β
  | .ok a, f => f a
  | .exc b, _ => .exc b
  | .stuck, _ => .stuck

@[simp] theorem R.bind_ok {α β : Type} (a : α) (f : α → R β) : (R.ok a).bind f = f a := rfl
@[simp] theorem R.bind_exc {α β : Type} (b : Bool) (f : α → R β) : (R.exc b : R α).bind f = .exc b := rfl
@[simp] theorem R.bind_stuck {α β : Type} (f : α → R β) : (R.stuck : R α).bind f = .stuck := rfl

noncomputable def R.ofOpt {α : Type} : Option α → R α
  | some a => .ok a
  | none => .stuck
@[simp] theorem R.ofOpt_some {α : Type} (a : α) : R.ofOpt (some a) = .ok a := rfl
@[simp] theorem R.ofOpt_none {α : Type} : R.ofOpt (none : Option α) = .stuck := rfl

noncomputable def R.when {α : Type} (c : Bool) (a : α) : R α := bif c then .ok a else .stuck
@[simp] theorem R.when_true {α : Type} (a : α) : R.when true a = .ok a := rfl
@[simp] theorem R.when_false {α : Type} (a : α) : R.when false a = .stuck := rfl

inductive BOp where | add | sub | mul | div | mod
inductive COp where | lt | le | gt | ge | eq | ne | isIn | notIn
inductive Ty where | int | str | tuple | bool
inductive B1 where | len | str | int | abs | ord
inductive B2 where | min | max

inductive PE where
  | loc (i : Nat)
  | cst (d : PyData)
  | bin (op : BOp) (a b : PE)
  | neg (a : PE)
  | not (a : PE)
  | and (a b : PE)
  | or (a b : PE)
  | ite (t a b : PE)
  | tup (es : List PE)
  | lst (es : List PE)
  | cmp (op : COp) (a b : PE)
  | chain (o₁ o₂ : COp) (a b c : PE)
  | isNone (a : PE)
  | isNotNone (a : PE)
  | typeIs (a : PE) (t : Ty)
  | idx (a i : PE)
  | sliceTo (a hi : PE)
  | sliceFrom (a lo : PE)
  | slice (a lo hi : PE)
  | call (f : Nat) (args : List PE)
  | b1 (f : B1) (a : PE)
  | b2 (f : B2) (a b : PE)
  | join (sep a : PE)
  | rstrip (a c : PE)
  | replace (a : PE) (y : Str) (zs : List Str) (i : PE)
  | dget (ks vs : List PyData) (k d : PE)
  | all (elt it : PE)
  | anyZip (elt it₁ it₂ : PE)

inductive PS where
  | ret (e : PE)
  | asg (x : Nat) (e : PE)
  | asgT (xs : List Nat) (e : PE)
  | ite (t : PE) (b o : List PS)
  | whl (t : PE) (b : List PS)
  | forRange (x : Nat) (lo hi : PE) (b : List PS)
  | forTup (xs : List Nat) (e : PE) (b : List PS)
  | forZip (x y k : Nat) (e₁ e₂ e : PE)
  | raise
  | tryAsg (x : Nat) (e : PE) (y : Nat) (d : PE)

noncomputable def idxAt (i : Int) (n : Nat) : Option Nat :=
  if 0 ≤ i then (if i < (n : Int) then some i.toNat else none) else (if 0 ≤ i + n then some (i + n).toNat else none)
noncomputable def bound (i : Int) (n : Nat) : Nat := if i < 0 then (i + n).toNat else min i.toNat n
noncomputable def cut {α : Type} (l : List α) (lo hi : Nat) : List α := (l.take hi).drop lo

noncomputable abbrev sl (x : Str) : List Nat := x.cps.toList
noncomputable abbrev mkS (l : List Nat) : Str := ⟨l.toArray⟩
noncomputable abbrev dS (l : List Nat) : PyData := .str ⟨l.toArray⟩

noncomputable def limit : Nat := 16777216

noncomputable def smallI (a : Int) : Bool := decide (-4611686018427387904 < a) && decide (a < 4611686018427387904)

noncomputable def binop : BOp → PyData → PyData → R PyData
  | .add, .int a, .int b => .ok (.int (a + b))
  | .sub, .int a, .int b => .ok (.int (a - b))
  | .mul, .int a, .int b => .when (smallI a || smallI b) (.int (a * b))
  | .div, .int a, .int b => .when (decide (0 < b) && decide (b < 1073741824)) (.int (a / b))
  | .mod, .int a, .int b => .when (decide (0 < b)) (.int (a % b))
  | .add, .str a, .str b => .when (decide ((sl a).length + (sl b).length ≤ limit)) (dS (sl a ++ sl b))
  | .mul, .str a, .int n => .when (decide ((sl a).length ≤ 16) && decide (-1000 ≤ n) && decide (n ≤ 1000)) (dS (List.replicate n.toNat (sl a)).flatten)
  | .add, .tuple a, .tuple b => .when (decide (a.length + b.length ≤ 1000)) (.tuple (a ++ b))
  | _, _, _ => .stuck

noncomputable def feq : PyData → PyData → Option Bool
  | .int a, .int b => some (decide (a = b))
  | .none, .none => some true
  | .none, .int _ => some false
  | .int _, .none => some false
  | _, _ => none
noncomputable def flat : PyData → Bool
  | .int _ => true
  | .none => true
  | _ => false
noncomputable def feqs : List PyData → List PyData → Bool
  | [], [] => true
  | a :: r, b :: q => (match feq a b with | some c => c | none => false) && feqs r q
  | _, _ => false
@[simp] theorem feqsE_nil : feqs [] [] = true := rfl
@[simp] theorem feqsE_cons (a b : PyData) (r q : List PyData) : feqs (a :: r) (b :: q) = ((match feq a b with | some c => c | none => false) && feqs r q) := rfl
@[simp] theorem feqsE_l (a : PyData) (r : List PyData) : feqs (a :: r) [] = false := rfl
@[simp] theorem feqsE_r (a : PyData) (r : List PyData) : feqs [] (a :: r) = false := rfl

noncomputable def deq : PyData → PyData → Option Bool
  | .int a, .int b => some (decide (a = b))
  | .str a, .str b => some (decide (a = b))
  | .bool a, .bool b => some (decide (a = b))
  | .none, .none => some true
  | .none, .int _ => some false
  | .int _, .none => some false
  | .str x, .tuple l => bif (sl x).all (fun c => decide (c < 128)) && l.all flat then some false else none
  | .tuple l, .str x => bif (sl x).all (fun c => decide (c < 128)) && l.all flat then some false else none
  | .tuple a, .tuple b => bif a.all flat && b.all flat && decide (a.length ≤ 100) && decide (b.length ≤ 100) then some (feqs a b) else none
  | _, _ => none

noncomputable def intOf : PyData → Option Int
  | .int i => some i
  | _ => none
noncomputable def tupOf : PyData → Option (List PyData)
  | .tuple l => some l
  | _ => none
noncomputable def tlt : List PyData → List PyData → Option Bool
  | [], [] => some false
  | x :: r, y :: q => (intOf x).bind fun a => (intOf y).bind fun b => bif decide (a = b) then tlt r q else some (decide (a < b))
  | _, _ => none
theorem tltE (x y : PyData) (r q : List PyData) : tlt (x :: r) (y :: q) = (intOf x).bind fun a => (intOf y).bind fun b => bif decide (a = b) then tlt r q else some (decide (a < b)) := rfl
@[simp] theorem tltE_nil : tlt [] [] = some false := rfl
@[simp] theorem tltE_cons (a b : Int) (r q : List PyData) : tlt (.int a :: r) (.int b :: q) = bif decide (a = b) then tlt r q else some (decide (a < b)) := rfl

noncomputable def subAt (y : List Nat) : List Nat → Bool
  | [] => y.isEmpty
  | c :: r => y.isPrefixOf (c :: r) || subAt y r

noncomputable def memb (d : PyData) : List PyData → Option Bool
  | [] => some false
  | e :: r => (deq d e).bind fun c => (memb d r).map fun b => c || b
@[simp] theorem membE_nil (d : PyData) : memb d [] = some false := rfl
@[simp] theorem membE_cons (d e : PyData) (r : List PyData) : memb d (e :: r) = (deq d e).bind fun c => (memb d r).map fun b => c || b := rfl

noncomputable def cmpop : COp → PyData → PyData → R PyData
  | .eq, a, b => (R.ofOpt (deq a b)).bind fun c => .ok (.bool c)
  | .ne, a, b => (R.ofOpt (deq a b)).bind fun c => .ok (.bool !c)
  | .lt, .int a, .int b => .ok (.bool (decide (a < b)))
  | .le, .int a, .int b => .ok (.bool (decide (a ≤ b)))
  | .gt, .int a, .int b => .ok (.bool (decide (b < a)))
  | .ge, .int a, .int b => .ok (.bool (decide (b ≤ a)))
  | .lt, .tuple a, .tuple b => (R.ofOpt (tlt a b)).bind fun c => .ok (.bool c)
  | .gt, .tuple a, .tuple b => (R.ofOpt (tlt b a)).bind fun c => .ok (.bool c)
  | .isIn, .str y, .str x => .ok (.bool (subAt (sl y) (sl x)))
  | .notIn, .str y, .str x => .ok (.bool !(subAt (sl y) (sl x)))
  | .isIn, .int i, .tuple x => (R.ofOpt (memb (.int i) x)).bind fun c => .ok (.bool c)
  | .notIn, .int i, .tuple x => (R.ofOpt (memb (.int i) x)).bind fun c => .ok (.bool !c)
  | .isIn, .tuple t, .tuple x => (R.ofOpt (memb (.tuple t) x)).bind fun c => .when (!x.isEmpty) (.bool c)
  | .notIn, .tuple t, .tuple x => (R.ofOpt (memb (.tuple t) x)).bind fun c => .when (!x.isEmpty) (.bool !c)
  | _, _, _ => .stuck

noncomputable def truthy : PyData → R Bool
  | .bool b => .ok b
  | _ => .stuck

noncomputable def typeIs : PyData → Ty → Bool
  | .int _, .int => true
  | .str _, .str => true
  | .tuple _, .tuple => true
  | .bool _, .bool => true
  | _, _ => false

noncomputable def index : PyData → PyData → R PyData
  | .tuple l, .int i => (R.ofOpt (idxAt i l.length)).bind fun k => R.ofOpt l[k]?
  | .list l, .int i => (R.ofOpt (bif decide (0 ≤ i) then idxAt i l.length else none)).bind fun k => R.ofOpt l[k]?
  | .str x, .int i => (R.ofOpt (idxAt i (sl x).length)).bind fun k => (R.ofOpt (sl x)[k]?).bind fun c => .ok (dS [c])
  | _, _ => .stuck

noncomputable def sliceBy : PyData → (Nat → Nat × Nat) → R PyData
  | .str x, f => .ok (dS (cut (sl x) (f (sl x).length).1 (f (sl x).length).2))
  | .tuple l, f => .ok (.tuple (cut l (f l.length).1 (f l.length).2))
  | _, _ => .stuck

noncomputable def digit (c : Nat) : Bool := decide (48 ≤ c) && decide (c ≤ 57)
noncomputable def digitsVal (l : List Nat) : Int := l.foldl (fun (a : Int) (c : Nat) => a * 10 + ((c : Int) - 48)) 0

noncomputable def itoa (i : Int) : List Nat := (Str.ofString (toString i)).cps.toList
@[simp] theorem sl_mk (a : Array Nat) : sl ⟨a⟩ = a.toList := rfl

noncomputable def app1 : B1 → PyData → R PyData
  | .len, .str x => .ok (.int (sl x).length)
  | .len, .tuple l => .ok (.int l.length)
  | .len, .list l => .ok (.int l.length)
  | .str, .int i => .when (smallI i) (dS (itoa i))
  | .abs, .int i => .ok (.int (if i < 0 then -i else i))
  | .ord, .str x => match sl x with
    | [c] => .ok (.int c)
    | _ => .stuck
  | _, _ => .stuck

noncomputable def app2 : B2 → PyData → PyData → R PyData
  | .min, .int a, .int b => .ok (.int (if b < a then b else a))
  | .max, .int a, .int b => .ok (.int (if a < b then b else a))
  | _, _, _ => .stuck

noncomputable def itemsOf : PyData → Option (List PyData)
  | .tuple l => some l
  | .list l => some l
  | _ => none

noncomputable def rstripL (cs : List Nat) (x : List Nat) : List Nat := (x.reverse.dropWhile fun c => cs.contains c).reverse
noncomputable def rstripD : PyData → PyData → R PyData
  | .str x, .str c => .ok (dS (rstripL (sl c) (sl x)))
  | _, _ => .stuck

noncomputable def asStr : PyData → R Str
  | .str x => .ok x
  | _ => .stuck
noncomputable def seqOf : PyData → Option (List PyData)
  | .tuple l => some l
  | _ => none

noncomputable abbrev Env' := List (Option PyData)
noncomputable abbrev Calls := Nat → List PyData → R PyData

noncomputable def getL (ρ : Env') (i : Nat) : R PyData := match ρ[i]? with
  | some (some d) => .ok d
  | _ => .stuck

noncomputable def allR : List (R PyData) → R PyData
  | [] => .ok (.bool true)
  | x :: r => match x with
    | .ok (.bool true) => allR r
    | .ok (.bool false) => .ok (.bool false)
    | _ => .stuck
@[simp] theorem allRE_nil : allR [] = .ok (.bool true) := rfl
@[simp] theorem allRE_true (r : List (R PyData)) : allR (.ok (.bool true) :: r) = allR r := rfl
@[simp] theorem allRE_false (r : List (R PyData)) : allR (.ok (.bool false) :: r) = .ok (.bool false) := rfl
noncomputable def outD (p : PyData × PyData) : Option Bool := (intOf p.1).bind fun x => (tupOf p.2).bind fun l => (l[1]?.bind intOf).bind fun lo => (l[2]?.bind intOf).bind fun hi => some (decide (x < lo) || decide (hi < x))
noncomputable def anyZ : List (PyData × PyData) → Option Bool
  | [] => some false
  | p :: r => (outD p).bind fun b => (anyZ r).map fun c => b || c
noncomputable def anyV : PyData → PyData → R PyData
  | .tuple l, .list q => (R.ofOpt (anyZ (l.zip q))).bind fun b => .ok (.bool b)
  | _, _ => .stuck
theorem anyZE (p : PyData × PyData) (r : List (PyData × PyData)) : anyZ (p :: r) = (outD p).bind fun b => (anyZ r).map fun c => b || c := rfl

mutual
noncomputable def ev (C : Calls) : PE → Env' → R PyData
  | .loc i, ρ => getL ρ i
  | .cst d, _ => .ok d
  | .bin op a b, ρ => (ev C a ρ).bind fun x => (ev C b ρ).bind fun y => binop op x y
  | .neg a, ρ => (ev C a ρ).bind fun x => match x with
    | .int i => .ok (.int (-i))
    | _ => .stuck
  | .not a, ρ => (ev C a ρ).bind fun x => (truthy x).bind fun t => .ok (.bool !t)
  | .and a b, ρ => (ev C a ρ).bind fun x => (truthy x).bind fun t => match t with
    | true => ev C b ρ
    | false => .ok x
  | .or a b, ρ => (ev C a ρ).bind fun x => (truthy x).bind fun t => match t with
    | true => .ok x
    | false => ev C b ρ
  | .ite t a b, ρ => (ev C t ρ).bind fun x => (truthy x).bind fun t => match t with
    | true => ev C a ρ
    | false => ev C b ρ
  | .tup es, ρ => (evs C es ρ).bind fun l => .ok (.tuple l)
  | .lst es, ρ => (evs C es ρ).bind fun l => .ok (.list l)
  | .cmp op a b, ρ => (ev C a ρ).bind fun x => (ev C b ρ).bind fun y => cmpop op x y
  | .chain o₁ o₂ a b c, ρ => (ev C a ρ).bind fun x => (ev C b ρ).bind fun y => (cmpop o₁ x y).bind fun z => (truthy z).bind fun t => match t with
    | true => (ev C c ρ).bind fun u => cmpop o₂ y u
    | false => .ok z
  | .isNone a, ρ => (ev C a ρ).bind fun x => .ok (.bool (match x with | .none => true | _ => false))
  | .isNotNone a, ρ => (ev C a ρ).bind fun x => .ok (.bool (match x with | .none => false | _ => true))
  | .typeIs a t, ρ => (ev C a ρ).bind fun x => .ok (.bool (typeIs x t))
  | .idx a i, ρ => (ev C a ρ).bind fun x => (ev C i ρ).bind fun y => index x y
  | .sliceTo a hi, ρ => (ev C a ρ).bind fun x => (ev C hi ρ).bind fun y => match y with
    | .int j => sliceBy x fun n => (0, bound j n)
    | _ => .stuck
  | .sliceFrom a lo, ρ => (ev C a ρ).bind fun x => (ev C lo ρ).bind fun y => match y with
    | .int j => sliceBy x fun n => (bound j n, n)
    | _ => .stuck
  | .slice a lo hi, ρ => (ev C a ρ).bind fun x => (ev C lo ρ).bind fun y => (ev C hi ρ).bind fun z => match y, z with
    | .int j, .int k => sliceBy x fun n => (bound j n, bound k n)
    | _, _ => .stuck
  | .call f args, ρ => (evs C args ρ).bind fun l => C f l
  | .b1 f a, ρ => (ev C a ρ).bind fun x => app1 f x
  | .b2 f a b, ρ => (ev C a ρ).bind fun x => (ev C b ρ).bind fun y => app2 f x y
  | .join _ _, _ => .stuck
  | .rstrip a c, ρ => (ev C a ρ).bind fun x => (ev C c ρ).bind fun y => rstripD x y
  | .replace _ _ _ _, _ => .stuck
  | .dget _ _ _ _, _ => .stuck
  | .all elt it, ρ => (ev C it ρ).bind fun x => (R.ofOpt (seqOf x)).bind fun l => allR (l.map fun d => ev C elt [some d])
  | .anyZip _ a b, ρ => (ev C a ρ).bind fun x => (ev C b ρ).bind fun y => anyV x y
noncomputable def evs (C : Calls) : List PE → Env' → R (List PyData)
  | [], _ => .ok []
  | e :: r, ρ => (ev C e ρ).bind fun x => (evs C r ρ).bind fun l => .ok (x :: l)
end
@[simp] theorem evE_loc (C : Calls)  (i : Nat) (ρ : Env') : ev C (.loc i) ρ = getL ρ i := rfl
@[simp] theorem evE_cst (C : Calls)  (d : PyData) (ρ : Env') : ev C (.cst d) ρ = .ok d := rfl
@[simp] theorem evE_bin (C : Calls)  (op : BOp) (a : PE) (b : PE) (ρ : Env') : ev C (.bin op a b) ρ = (ev C a ρ).bind fun x => (ev C b ρ).bind fun y => binop op x y := rfl
@[simp] theorem evE_neg (C : Calls)  (a : PE) (ρ : Env') : ev C (.neg a) ρ = (ev C a ρ).bind fun x => match x with
    | .int i => .ok (.int (-i))
    | _ => .stuck := rfl
@[simp] theorem evE_not (C : Calls)  (a : PE) (ρ : Env') : ev C (.not a) ρ = (ev C a ρ).bind fun x => (truthy x).bind fun t => .ok (.bool !t) := rfl
@[simp] theorem evE_and (C : Calls)  (a : PE) (b : PE) (ρ : Env') : ev C (.and a b) ρ = (ev C a ρ).bind fun x => (truthy x).bind fun t => match t with
    | true => ev C b ρ
    | false => .ok x := rfl
@[simp] theorem evE_or (C : Calls)  (a : PE) (b : PE) (ρ : Env') : ev C (.or a b) ρ = (ev C a ρ).bind fun x => (truthy x).bind fun t => match t with
    | true => .ok x
    | false => ev C b ρ := rfl
@[simp] theorem evE_ite (C : Calls)  (t : PE) (a : PE) (b : PE) (ρ : Env') : ev C (.ite t a b) ρ = (ev C t ρ).bind fun x => (truthy x).bind fun t => match t with
    | true => ev C a ρ
    | false => ev C b ρ := rfl
@[simp] theorem evE_tup (C : Calls)  (es : List PE) (ρ : Env') : ev C (.tup es) ρ = (evs C es ρ).bind fun l => .ok (.tuple l) := rfl
@[simp] theorem evE_lst (C : Calls)  (es : List PE) (ρ : Env') : ev C (.lst es) ρ = (evs C es ρ).bind fun l => .ok (.list l) := rfl
@[simp] theorem evE_cmp (C : Calls)  (op : COp) (a : PE) (b : PE) (ρ : Env') : ev C (.cmp op a b) ρ = (ev C a ρ).bind fun x => (ev C b ρ).bind fun y => cmpop op x y := rfl
@[simp] theorem evE_chain (C : Calls)  (o₁ : COp) (o₂ : COp) (a : PE) (b : PE) (c : PE) (ρ : Env') : ev C (.chain o₁ o₂ a b c) ρ = (ev C a ρ).bind fun x => (ev C b ρ).bind fun y => (cmpop o₁ x y).bind fun z => (truthy z).bind fun t => match t with
    | true => (ev C c ρ).bind fun u => cmpop o₂ y u
    | false => .ok z := rfl
@[simp] theorem evE_isNone (C : Calls)  (a : PE) (ρ : Env') : ev C (.isNone a) ρ = (ev C a ρ).bind fun x => .ok (.bool (match x with | .none => true | _ => false)) := rfl
@[simp] theorem evE_isNotNone (C : Calls)  (a : PE) (ρ : Env') : ev C (.isNotNone a) ρ = (ev C a ρ).bind fun x => .ok (.bool (match x with | .none => false | _ => true)) := rfl
@[simp] theorem evE_typeIs (C : Calls)  (a : PE) (t : Ty) (ρ : Env') : ev C (.typeIs a t) ρ = (ev C a ρ).bind fun x => .ok (.bool (typeIs x t)) := rfl
@[simp] theorem evE_idx (C : Calls)  (a : PE) (i : PE) (ρ : Env') : ev C (.idx a i) ρ = (ev C a ρ).bind fun x => (ev C i ρ).bind fun y => index x y := rfl
@[simp] theorem evE_sliceTo (C : Calls)  (a : PE) (hi : PE) (ρ : Env') : ev C (.sliceTo a hi) ρ = (ev C a ρ).bind fun x => (ev C hi ρ).bind fun y => match y with
    | .int j => sliceBy x fun n => (0, bound j n)
    | _ => .stuck := rfl
@[simp] theorem evE_sliceFrom (C : Calls)  (a : PE) (lo : PE) (ρ : Env') : ev C (.sliceFrom a lo) ρ = (ev C a ρ).bind fun x => (ev C lo ρ).bind fun y => match y with
    | .int j => sliceBy x fun n => (bound j n, n)
    | _ => .stuck := rfl
@[simp] theorem evE_slice (C : Calls)  (a : PE) (lo : PE) (hi : PE) (ρ : Env') : ev C (.slice a lo hi) ρ = (ev C a ρ).bind fun x => (ev C lo ρ).bind fun y => (ev C hi ρ).bind fun z => match y, z with
    | .int j, .int k => sliceBy x fun n => (bound j n, bound k n)
    | _, _ => .stuck := rfl
@[simp] theorem evE_call (C : Calls)  (f : Nat) (args : List PE) (ρ : Env') : ev C (.call f args) ρ = (evs C args ρ).bind fun l => C f l := rfl
@[simp] theorem evE_b1 (C : Calls)  (f : B1) (a : PE) (ρ : Env') : ev C (.b1 f a) ρ = (ev C a ρ).bind fun x => app1 f x := rfl
@[simp] theorem evE_b2 (C : Calls)  (f : B2) (a : PE) (b : PE) (ρ : Env') : ev C (.b2 f a b) ρ = (ev C a ρ).bind fun x => (ev C b ρ).bind fun y => app2 f x y := rfl
@[simp] theorem evE_join (C : Calls) (s : PE) (a : PE) (ρ : Env') : ev C (.join s a) ρ = .stuck := rfl
@[simp] theorem evE_rstrip (C : Calls)  (a : PE) (c : PE) (ρ : Env') : ev C (.rstrip a c) ρ = (ev C a ρ).bind fun x => (ev C c ρ).bind fun y => rstripD x y := rfl
@[simp] theorem evE_replace (C : Calls) (a : PE) (y : Str) (zs : List Str) (i : PE) (ρ : Env') : ev C (.replace a y zs i) ρ = .stuck := rfl
@[simp] theorem evE_dget (C : Calls) (ks : List PyData) (vs : List PyData) (k : PE) (d : PE) (ρ : Env') : ev C (.dget ks vs k d) ρ = .stuck := rfl
@[simp] theorem evE_all (C : Calls)  (elt : PE) (it : PE) (ρ : Env') : ev C (.all elt it) ρ = (ev C it ρ).bind fun x => (R.ofOpt (seqOf x)).bind fun l => allR (l.map fun d => ev C elt [some d]) := rfl
theorem evE_anyZip (C : Calls) (elt a b : PE) (ρ : Env') : ev C (.anyZip elt a b) ρ = (ev C a ρ).bind fun x => (ev C b ρ).bind fun y => anyV x y := rfl
@[simp] theorem evsE_nil (C : Calls)  (ρ : Env') : evs C [] ρ = .ok [] := rfl
@[simp] theorem evsE_cons (C : Calls)  (e : PE) (r : List PE) (ρ : Env') : evs C (e :: r) ρ = (ev C e ρ).bind fun x => (evs C r ρ).bind fun l => .ok (x :: l) := rfl

set_option genInjectivity true in
inductive Fl where
  | next (ρ : Env')
  | ret (d : PyData)

noncomputable def putAll : List Nat → List PyData → Env' → Option Env'
  | [], [], ρ => some ρ
  | x :: xs, d :: ds, ρ => putAll xs ds (ρ.set x (some d))
  | _, _, _ => none
@[simp] theorem putAllE_nil (ρ : Env') : putAll [] [] ρ = some ρ := rfl
@[simp] theorem putAllE_cons (x : Nat) (xs : List Nat) (d : PyData) (ds : List PyData) (ρ : Env') : putAll (x :: xs) (d :: ds) ρ = putAll xs ds (ρ.set x (some d)) := rfl
@[simp] theorem putAllE_l (x : Nat) (xs : List Nat) (ρ : Env') : putAll (x :: xs) [] ρ = none := rfl
@[simp] theorem putAllE_r (d : PyData) (ds : List PyData) (ρ : Env') : putAll [] (d :: ds) ρ = none := rfl

noncomputable def loopW (t : Env' → R PyData) (b : Env' → R Fl) : Nat → Env' → R Fl
  | 0, _ => .stuck
  | n + 1, ρ => (t ρ).bind fun x => (truthy x).bind fun c => match c with
    | true => (b ρ).bind fun f => match f with
      | .next ρ' => loopW t b n ρ'
      | .ret d => .ok (.ret d)
    | false => .ok (.next ρ)
theorem loopWE (t : Env' → R PyData) (b : Env' → R Fl) (n : Nat) (ρ : Env') : loopW t b (n + 1) ρ = (t ρ).bind fun x => (truthy x).bind fun c => match c with
    | true => (b ρ).bind fun f => match f with
      | .next ρ' => loopW t b n ρ'
      | .ret d => .ok (.ret d)
    | false => .ok (.next ρ) := rfl
noncomputable def loopF (set : PyData → Env' → Option Env') (b : Env' → R Fl) : List PyData → Env' → R Fl
  | [], ρ => .ok (.next ρ)
  | d :: r, ρ => (R.ofOpt (set d ρ)).bind fun ρ₁ => (b ρ₁).bind fun f => match f with
    | .next ρ' => loopF set b r ρ'
    | .ret d => .ok (.ret d)
theorem loopFE (set : PyData → Env' → Option Env') (b : Env' → R Fl) (d : PyData) (r : List PyData) (ρ : Env') : loopF set b (d :: r) ρ = (R.ofOpt (set d ρ)).bind fun ρ₁ => (b ρ₁).bind fun f => match f with
    | .next ρ' => loopF set b r ρ'
    | .ret d => .ok (.ret d) := rfl

noncomputable def tset (xs : List Nat) (d : PyData) (ρ : Env') : Option Env' := match d with
  | .tuple q => putAll xs q ρ
  | _ => none
noncomputable def zset (x y : Nat) (d : PyData) (ρ : Env') : Option Env' := match d with
  | .tuple [a, c] => some ((ρ.set x (some a)).set y (some c))
  | _ => none
noncomputable def zipD (s : Str) (q : List PyData) : List PyData := (((sl s).map fun c => dS [c]).zip q).map fun p => .tuple [p.1, p.2]

noncomputable def zbody (C : Calls) (e : PE) (k : Nat) (ρ : Env') : R Fl := (ev C e ρ).bind fun d => (asStr d).bind fun t => .ok (.next (ρ.set k (some (.str t))))
noncomputable def noExc {α : Type} : R α → R α
  | .exc _ => .stuck
  | x => x

mutual
noncomputable def exec (C : Calls) (N : Nat) : PS → Env' → R Fl
  | .ret e, ρ => (ev C e ρ).bind fun d => .ok (.ret d)
  | .asg x e, ρ => (ev C e ρ).bind fun d => .ok (.next (ρ.set x (some d)))
  | .asgT xs e, ρ => (ev C e ρ).bind fun d => match d with
    | .tuple l => (R.ofOpt (putAll xs l ρ)).bind fun ρ' => .ok (.next ρ')
    | _ => .stuck
  | .ite t b o, ρ => (ev C t ρ).bind fun x => (truthy x).bind fun c => match c with
    | true => execs C N b ρ
    | false => execs C N o ρ
  | .whl t b, ρ => noExc (loopW (fun ρ => ev C t ρ) (fun ρ => execs C N b ρ) N ρ)
  | .forRange _ _ _ _, _ => .stuck
  | .forTup xs e b, ρ => (ev C e ρ).bind fun u => match u with
    | .tuple l => noExc (loopF (tset xs) (fun ρ => execs C N b ρ) l ρ)
    | _ => .stuck
  | .forZip x y k e₁ e₂ e, ρ => (ev C e₁ ρ).bind fun u => (ev C e₂ ρ).bind fun v => match u, v with
    | .str s, .tuple q => noExc (loopF (zset x y) (zbody C e k) (zipD s q) ρ)
    | _, _ => .stuck
  | .raise, _ => .exc true
  | .tryAsg x e y d, ρ => match ev C e ρ with
    | .ok v => .ok (.next (ρ.set x (some v)))
    | .exc false => (match d with
      | .cst v => .ok (.next (ρ.set y (some v)))
      | .tup [] => .ok (.next (ρ.set y (some (.tuple []))))
      | _ => .stuck)
    | .exc true => .stuck
    | .stuck => .stuck
noncomputable def execs (C : Calls) (N : Nat) : List PS → Env' → R Fl
  | [], ρ => .ok (.next ρ)
  | s :: r, ρ => (exec C N s ρ).bind fun f => match f with
    | .next ρ' => execs C N r ρ'
    | .ret d => .ok (.ret d)
end
theorem execE_ret (C : Calls) (N : Nat) (e : PE) (ρ : Env') : exec C N (.ret e) ρ = (ev C e ρ).bind fun d => .ok (.ret d) := rfl
theorem execE_asg (C : Calls) (N : Nat) (x : Nat) (e : PE) (ρ : Env') : exec C N (.asg x e) ρ = (ev C e ρ).bind fun d => .ok (.next (ρ.set x (some d))) := rfl
theorem execE_asgT (C : Calls) (N : Nat) (xs : List Nat) (e : PE) (ρ : Env') : exec C N (.asgT xs e) ρ = (ev C e ρ).bind fun d => match d with
    | .tuple l => (R.ofOpt (putAll xs l ρ)).bind fun ρ' => .ok (.next ρ')
    | _ => .stuck := rfl
theorem execE_ite (C : Calls) (N : Nat) (t : PE) (b : List PS) (o : List PS) (ρ : Env') : exec C N (.ite t b o) ρ = (ev C t ρ).bind fun x => (truthy x).bind fun c => match c with
    | true => execs C N b ρ
    | false => execs C N o ρ := rfl
theorem execE_whl (C : Calls) (N : Nat) (t : PE) (b : List PS) (ρ : Env') : exec C N (.whl t b) ρ = noExc (loopW (fun ρ => ev C t ρ) (fun ρ => execs C N b ρ) N ρ) := rfl
theorem execE_forRange (C : Calls) (N : Nat) (x : Nat) (lo hi : PE) (b : List PS) (ρ : Env') : exec C N (.forRange x lo hi b) ρ = .stuck := rfl
theorem execE_forTup (C : Calls) (N : Nat) (xs : List Nat) (e : PE) (b : List PS) (ρ : Env') : exec C N (.forTup xs e b) ρ = (ev C e ρ).bind fun u => match u with
    | .tuple l => noExc (loopF (tset xs) (fun ρ => execs C N b ρ) l ρ)
    | _ => .stuck := rfl
theorem execE_forZip (C : Calls) (N : Nat) (x y k : Nat) (e₁ e₂ e : PE) (ρ : Env') : exec C N (.forZip x y k e₁ e₂ e) ρ = (ev C e₁ ρ).bind fun u => (ev C e₂ ρ).bind fun v => match u, v with
    | .str s, .tuple q => noExc (loopF (zset x y) (zbody C e k) (zipD s q) ρ)
    | _, _ => .stuck := rfl
theorem execE_raise (C : Calls) (N : Nat) (ρ : Env') : exec C N (.raise) ρ = .exc true := rfl
theorem execE_tryAsg (C : Calls) (N : Nat) (x : Nat) (e : PE) (y : Nat) (d : PE) (ρ : Env') : exec C N (.tryAsg x e y d) ρ = match ev C e ρ with
    | .ok v => .ok (.next (ρ.set x (some v)))
    | .exc false => (match d with
      | .cst v => .ok (.next (ρ.set y (some v)))
      | .tup [] => .ok (.next (ρ.set y (some (.tuple []))))
      | _ => .stuck)
    | .exc true => .stuck
    | .stuck => .stuck := rfl
theorem execsE_nil (C : Calls) (N : Nat) (ρ : Env') : execs C N [] ρ = .ok (.next ρ) := rfl
theorem execsE_cons (C : Calls) (N : Nat) (s : PS) (r : List PS) (ρ : Env') : execs C N (s :: r) ρ = (exec C N s ρ).bind fun f => match f with
    | .next ρ' => execs C N r ρ'
    | .ret d => .ok (.ret d) := rfl

structure Fn where
  np : Nat
  nl : Nat
  body : List PS

@[simp] noncomputable def start (f : Fn) (args : List PyData) : Env' := args.map some ++ List.replicate (f.nl - f.np) none

noncomputable def fin : R Fl → R PyData
  | .ok (.ret d) => .ok d
  | .ok (.next _) => .ok .none
  | .exc _ => .exc false
  | .stuck => .stuck
@[simp] theorem fin_ret (d : PyData) : fin (.ok (.ret d)) = .ok d := rfl
@[simp] theorem fin_next (ρ : Env') : fin (.ok (.next ρ)) = .ok .none := rfl
@[simp] theorem fin_exc (b : Bool) : fin (.exc b) = .exc false := rfl

noncomputable def run (T : List Fn) (N : Nat) : Nat → Nat → List PyData → R PyData
  | 0, _, _ => .stuck
  | n + 1, k, args => match T[k]? with
    | none => .stuck
    | some f => bif args.length == f.np then fin (execs (run T N n) N f.body (start f args)) else .stuck
theorem runE (T : List Fn) (N n k : Nat) (args : List PyData) : run T N (n + 1) k args = match T[k]? with
    | none => .stuck
    | some f => bif args.length == f.np then fin (execs (run T N n) N f.body (start f args)) else .stuck := rfl

theorem run_at {T : List Fn} {N n k : Nat} {args : List PyData} {f : Fn} (h : T[k]? = some f) (hl : (args.length == f.np) = true) :
    run T N (n + 1) k args = fin (execs (run T N n) N f.body (start f args)) := by
  rw [runE, h]; simp only [hl, cond_true]


section
variable {a b i j : Int} {x y z : Str} {l q : List PyData} {d e : PyData} {p r : Bool}
@[simp] theorem binop_1 : binop .add (.int a) (.int b) = .ok (.int (a + b)) := rfl
@[simp] theorem binop_2 : binop .sub (.int a) (.int b) = .ok (.int (a - b)) := rfl
@[simp] theorem binop_3 : binop .mul (.int a) (.int b) = .when (smallI a || smallI b) (.int (a * b)) := rfl
@[simp] theorem binop_4 : binop .div (.int a) (.int b) = .when (decide (0 < b) && decide (b < 1073741824)) (.int (a / b)) := rfl
@[simp] theorem binop_5 : binop .mod (.int a) (.int b) = .when (decide (0 < b)) (.int (a % b)) := rfl
@[simp] theorem binop_6 : binop .add (.str x) (.str y) = .when (decide ((sl x).length + (sl y).length ≤ limit)) (dS (sl x ++ sl y)) := rfl
@[simp] theorem binop_7 : binop .mul (.str x) (.int a) = .when (decide ((sl x).length ≤ 16) && decide (-1000 ≤ a) && decide (a ≤ 1000)) (dS (List.replicate a.toNat (sl x)).flatten) := rfl
@[simp] theorem binop_8 : binop .add (.tuple l) (.tuple q) = .when (decide (l.length + q.length ≤ 1000)) (.tuple (l ++ q)) := rfl
@[simp] theorem feq_1 : feq (.int a) (.int b) = some (decide (a = b)) := rfl
@[simp] theorem feq_2 : feq .none .none = some true := rfl
@[simp] theorem feq_3 : feq .none (.int b) = some false := rfl
@[simp] theorem feq_4 : feq (.int b) .none = some false := rfl
@[simp] theorem flat_1 : flat (.int a) = true := rfl
@[simp] theorem flat_2 : flat .none = true := rfl
@[simp] theorem deq_1 : deq (.int a) (.int b) = some (decide (a = b)) := rfl
@[simp] theorem deq_2 : deq (.str x) (.str y) = some (decide (x = y)) := rfl
@[simp] theorem deq_3 : deq (.bool p) (.bool r) = some (decide (p = r)) := rfl
@[simp] theorem deq_4 : deq .none .none = some true := rfl
@[simp] theorem deq_5 : deq .none (.int a) = some false := rfl
@[simp] theorem deq_6 : deq (.int a) .none = some false := rfl
@[simp] theorem deq_9 : deq (.str x) (.tuple l) = bif (sl x).all (fun c => decide (c < 128)) && l.all flat then some false else none := rfl
@[simp] theorem deq_10 : deq (.tuple l) (.str x) = bif (sl x).all (fun c => decide (c < 128)) && l.all flat then some false else none := rfl
@[simp] theorem deq_11 : deq (.tuple l) (.tuple q) = bif l.all flat && q.all flat && decide (l.length ≤ 100) && decide (q.length ≤ 100) then some (feqs l q) else none := rfl
@[simp] theorem cmpop_1 : cmpop .eq d e = (R.ofOpt (deq d e)).bind fun c => .ok (.bool c) := by cases d <;> cases e <;> rfl
@[simp] theorem cmpop_2 : cmpop .ne d e = (R.ofOpt (deq d e)).bind fun c => .ok (.bool !c) := by cases d <;> cases e <;> rfl
@[simp] theorem cmpop_3 : cmpop .lt (.int a) (.int b) = .ok (.bool (decide (a < b))) := rfl
@[simp] theorem cmpop_4 : cmpop .le (.int a) (.int b) = .ok (.bool (decide (a ≤ b))) := rfl
@[simp] theorem cmpop_5 : cmpop .gt (.int a) (.int b) = .ok (.bool (decide (b < a))) := rfl
@[simp] theorem cmpop_6 : cmpop .ge (.int a) (.int b) = .ok (.bool (decide (b ≤ a))) := rfl
@[simp] theorem cmpop_7 : cmpop .lt (.tuple l) (.tuple q) = (R.ofOpt (tlt l q)).bind fun c => .ok (.bool c) := rfl
@[simp] theorem cmpop_8 : cmpop .gt (.tuple l) (.tuple q) = (R.ofOpt (tlt q l)).bind fun c => .ok (.bool c) := rfl
@[simp] theorem cmpop_9 : cmpop .isIn (.str y) (.str x) = .ok (.bool (subAt (sl y) (sl x))) := rfl
@[simp] theorem cmpop_10 : cmpop .notIn (.str y) (.str x) = .ok (.bool !(subAt (sl y) (sl x))) := rfl
@[simp] theorem cmpop_11 : cmpop .isIn (.int a) (.tuple l) = (R.ofOpt (memb (.int a) l)).bind fun c => .ok (.bool c) := rfl
@[simp] theorem cmpop_12 : cmpop .notIn (.int a) (.tuple l) = (R.ofOpt (memb (.int a) l)).bind fun c => .ok (.bool !c) := rfl
@[simp] theorem cmpop_13 : cmpop .isIn (.tuple q) (.tuple l) = (R.ofOpt (memb (.tuple q) l)).bind fun c => .when (!l.isEmpty) (.bool c) := rfl
@[simp] theorem cmpop_14 : cmpop .notIn (.tuple q) (.tuple l) = (R.ofOpt (memb (.tuple q) l)).bind fun c => .when (!l.isEmpty) (.bool !c) := rfl
@[simp] theorem truthy_1 : truthy (.bool p) = .ok p := rfl
@[simp] theorem typeIs_1 : typeIs (.int a) .int = true := rfl
@[simp] theorem typeIs_2 : typeIs (.str x) .str = true := rfl
@[simp] theorem typeIs_3 : typeIs (.tuple l) .tuple = true := rfl
@[simp] theorem typeIs_4 : typeIs (.bool p) .bool = true := rfl
@[simp] theorem typeIs_5 : typeIs (.str x) .int = false := rfl
@[simp] theorem typeIs_6 : typeIs .none .int = false := rfl
@[simp] theorem typeIs_7 : typeIs .none .str = false := rfl
@[simp] theorem typeIs_8 : typeIs (.int a) .str = false := rfl
@[simp] theorem index_1 : index (.tuple l) (.int i) = (R.ofOpt (idxAt i l.length)).bind fun k => R.ofOpt l[k]? := rfl
@[simp] theorem index_2 : index (.list l) (.int i) = (R.ofOpt (bif decide (0 ≤ i) then idxAt i l.length else none)).bind fun k => R.ofOpt l[k]? := rfl
@[simp] theorem index_3 : index (.str x) (.int i) = (R.ofOpt (idxAt i (sl x).length)).bind fun k => (R.ofOpt (sl x)[k]?).bind fun c => .ok (dS [c]) := rfl
@[simp] theorem sliceBy_1 {f : Nat → Nat × Nat} : sliceBy (.str x) f = .ok (dS (cut (sl x) (f (sl x).length).1 (f (sl x).length).2)) := rfl
@[simp] theorem sliceBy_2 {f : Nat → Nat × Nat} : sliceBy (.tuple l) f = .ok (.tuple (cut l (f l.length).1 (f l.length).2)) := rfl
@[simp] theorem app1_1 : app1 .len (.str x) = .ok (.int (sl x).length) := rfl
@[simp] theorem app1_2 : app1 .len (.tuple l) = .ok (.int l.length) := rfl
@[simp] theorem app1_3 : app1 .len (.list l) = .ok (.int l.length) := rfl
@[simp] theorem app1_4 : app1 .str (.int i) = .when (smallI i) (dS (itoa i)) := rfl
@[simp] theorem app1_6 : app1 .abs (.int i) = .ok (.int (if i < 0 then -i else i)) := rfl
@[simp] theorem app1_7 {c : Nat} : app1 .ord (dS [c]) = .ok (.int c) := rfl
@[simp] theorem app2_1 : app2 .min (.int a) (.int b) = .ok (.int (if b < a then b else a)) := rfl
@[simp] theorem app2_2 : app2 .max (.int a) (.int b) = .ok (.int (if a < b then b else a)) := rfl
@[simp] theorem itemsOf_1 : itemsOf (.tuple l) = some l := rfl
@[simp] theorem itemsOf_2 : itemsOf (.list l) = some l := rfl
@[simp] theorem rstripD_1 : rstripD (.str x) (.str y) = .ok (dS (rstripL (sl y) (sl x))) := rfl
@[simp] theorem seqOf_1 : seqOf (.tuple l) = some l := rfl
@[simp] theorem getL_0 {ρ : Env'} : getL (some d :: ρ) 0 = .ok d := rfl
@[simp] theorem getL_s {ρ : Env'} {o : Option PyData} {n : Nat} : getL (o :: ρ) (n + 1) = getL ρ n := rfl
end

theorem execs_step {C : Calls} {N : Nat} {s : PS} {r : List PS} {ρ ρ' : Env'} (h : exec C N s ρ = .ok (.next ρ')) : execs C N (s :: r) ρ = execs C N r ρ' := by
  ((first | rewrite [execsE_nil] | rewrite [execsE_cons]); rw [h]); rfl
theorem execs_ret {C : Calls} {N : Nat} {s : PS} {r : List PS} {ρ : Env'} {d : PyData} (h : exec C N s ρ = .ok (.ret d)) : execs C N (s :: r) ρ = .ok (.ret d) := by
  ((first | rewrite [execsE_nil] | rewrite [execsE_cons]); rw [h]); rfl
theorem exec_if_true {C : Calls} {N : Nat} {t : PE} {b o : List PS} {ρ : Env'} (h : ev C t ρ = .ok (.bool true)) : exec C N (.ite t b o) ρ = execs C N b ρ := by
  ((first | rewrite [execE_ret] | rewrite [execE_asg] | rewrite [execE_asgT] | rewrite [execE_ite] | rewrite [execE_whl] | rewrite [execE_forRange] | rewrite [execE_forTup] | rewrite [execE_forZip] | rewrite [execE_raise] | rewrite [execE_tryAsg]); rw [h]); rfl
theorem exec_if_false {C : Calls} {N : Nat} {t : PE} {b o : List PS} {ρ : Env'} (h : ev C t ρ = .ok (.bool false)) : exec C N (.ite t b o) ρ = execs C N o ρ := by
  ((first | rewrite [execE_ret] | rewrite [execE_asg] | rewrite [execE_asgT] | rewrite [execE_ite] | rewrite [execE_whl] | rewrite [execE_forRange] | rewrite [execE_forTup] | rewrite [execE_forZip] | rewrite [execE_raise] | rewrite [execE_tryAsg]); rw [h]); rfl
theorem execs_if {C : Calls} {N : Nat} {t : PE} {b o r : List PS} {ρ : Env'} {c : Bool} (h : ev C t ρ = .ok (.bool c)) :
    execs C N (.ite t b o :: r) ρ = bif c then execs C N (b ++ r) ρ else execs C N (o ++ r) ρ := by
  have app : ∀ (b : List PS) (ρ : Env'), execs C N (b ++ r) ρ = (execs C N b ρ).bind fun f => match f with
      | .next ρ' => execs C N r ρ'
      | .ret d => .ok (.ret d) := by
    intro b
    induction b with
    | nil => intro ρ; rfl
    | cons s b ih =>
      intro ρ
      (rewrite [List.cons_append]; (first | rewrite [execsE_nil] | rewrite [execsE_cons]); (first | rewrite [execsE_nil] | rewrite [execsE_cons]); try with_reducible rfl)
      cases exec C N s ρ with
      | ok f => cases f with
        | next ρ' => simp only [R.bind_ok]; exact ih ρ'
        | ret d => rfl
      | exc b => rfl
      | stuck => rfl
  ((first | rewrite [execsE_nil] | rewrite [execsE_cons]); try with_reducible rfl)
  cases c with
  | true => rw [exec_if_true h, cond_true, app]
  | false => rw [exec_if_false h, cond_false, app]
section
variable {C : Calls} {ρ : Env'} {e f g : PE} {a b c : Int} {P Q : Prop} [Decidable P] [Decidable Q]
theorem ev_chainLe (h1 : ev C e ρ = .ok (.int a)) (h2 : ev C f ρ = .ok (.int b)) (h3 : ev C g ρ = .ok (.int c)) : ev C (.chain .le .le e f g) ρ = .ok (.bool (decide (a ≤ b ∧ b ≤ c))) := by
  ((first | rewrite [evE_loc] | rewrite [evE_cst] | rewrite [evE_bin] | rewrite [evE_neg] | rewrite [evE_not] | rewrite [evE_and] | rewrite [evE_or] | rewrite [evE_ite] | rewrite [evE_tup] | rewrite [evE_lst] | rewrite [evE_cmp] | rewrite [evE_chain] | rewrite [evE_isNone] | rewrite [evE_isNotNone] | rewrite [evE_typeIs] | rewrite [evE_idx] | rewrite [evE_sliceTo] | rewrite [evE_sliceFrom] | rewrite [evE_slice] | rewrite [evE_call] | rewrite [evE_b1] | rewrite [evE_b2] | rewrite [evE_join] | rewrite [evE_rstrip] | rewrite [evE_replace] | rewrite [evE_dget] | rewrite [evE_all] | rewrite [evE_anyZip]); rw [h1, h2, R.bind_ok, R.bind_ok])
  by_cases q : a ≤ b <;> simp [q, h3]
theorem ev_chainLt (h1 : ev C e ρ = .ok (.int a)) (h2 : ev C f ρ = .ok (.int b)) (h3 : ev C g ρ = .ok (.int c)) : ev C (.chain .le .lt e f g) ρ = .ok (.bool (decide (a ≤ b ∧ b < c))) := by
  ((first | rewrite [evE_loc] | rewrite [evE_cst] | rewrite [evE_bin] | rewrite [evE_neg] | rewrite [evE_not] | rewrite [evE_and] | rewrite [evE_or] | rewrite [evE_ite] | rewrite [evE_tup] | rewrite [evE_lst] | rewrite [evE_cmp] | rewrite [evE_chain] | rewrite [evE_isNone] | rewrite [evE_isNotNone] | rewrite [evE_typeIs] | rewrite [evE_idx] | rewrite [evE_sliceTo] | rewrite [evE_sliceFrom] | rewrite [evE_slice] | rewrite [evE_call] | rewrite [evE_b1] | rewrite [evE_b2] | rewrite [evE_join] | rewrite [evE_rstrip] | rewrite [evE_replace] | rewrite [evE_dget] | rewrite [evE_all] | rewrite [evE_anyZip]); rw [h1, h2, R.bind_ok, R.bind_ok])
  by_cases q : a ≤ b <;> simp [q, h3]
theorem ev_not (h : ev C e ρ = .ok (.bool (decide P))) : ev C (.not e) ρ = .ok (.bool (decide (¬ P))) := by
  ((first | rewrite [evE_loc] | rewrite [evE_cst] | rewrite [evE_bin] | rewrite [evE_neg] | rewrite [evE_not] | rewrite [evE_and] | rewrite [evE_or] | rewrite [evE_ite] | rewrite [evE_tup] | rewrite [evE_lst] | rewrite [evE_cmp] | rewrite [evE_chain] | rewrite [evE_isNone] | rewrite [evE_isNotNone] | rewrite [evE_typeIs] | rewrite [evE_idx] | rewrite [evE_sliceTo] | rewrite [evE_sliceFrom] | rewrite [evE_slice] | rewrite [evE_call] | rewrite [evE_b1] | rewrite [evE_b2] | rewrite [evE_join] | rewrite [evE_rstrip] | rewrite [evE_replace] | rewrite [evE_dget] | rewrite [evE_all] | rewrite [evE_anyZip]); rw [h]); simp
theorem ev_and (h1 : ev C e ρ = .ok (.bool (decide P))) (h2 : P → ev C f ρ = .ok (.bool (decide Q))) : ev C (.and e f) ρ = .ok (.bool (decide (P ∧ Q))) := by
  ((first | rewrite [evE_loc] | rewrite [evE_cst] | rewrite [evE_bin] | rewrite [evE_neg] | rewrite [evE_not] | rewrite [evE_and] | rewrite [evE_or] | rewrite [evE_ite] | rewrite [evE_tup] | rewrite [evE_lst] | rewrite [evE_cmp] | rewrite [evE_chain] | rewrite [evE_isNone] | rewrite [evE_isNotNone] | rewrite [evE_typeIs] | rewrite [evE_idx] | rewrite [evE_sliceTo] | rewrite [evE_sliceFrom] | rewrite [evE_slice] | rewrite [evE_call] | rewrite [evE_b1] | rewrite [evE_b2] | rewrite [evE_join] | rewrite [evE_rstrip] | rewrite [evE_replace] | rewrite [evE_dget] | rewrite [evE_all] | rewrite [evE_anyZip]); rw [h1, R.bind_ok])
  by_cases q : P
  · simp [q, h2 q]
  · simp [q]
theorem ev_or (h1 : ev C e ρ = .ok (.bool (decide P))) (h2 : ¬ P → ev C f ρ = .ok (.bool (decide Q))) : ev C (.or e f) ρ = .ok (.bool (decide (P ∨ Q))) := by
  ((first | rewrite [evE_loc] | rewrite [evE_cst] | rewrite [evE_bin] | rewrite [evE_neg] | rewrite [evE_not] | rewrite [evE_and] | rewrite [evE_or] | rewrite [evE_ite] | rewrite [evE_tup] | rewrite [evE_lst] | rewrite [evE_cmp] | rewrite [evE_chain] | rewrite [evE_isNone] | rewrite [evE_isNotNone] | rewrite [evE_typeIs] | rewrite [evE_idx] | rewrite [evE_sliceTo] | rewrite [evE_sliceFrom] | rewrite [evE_slice] | rewrite [evE_call] | rewrite [evE_b1] | rewrite [evE_b2] | rewrite [evE_join] | rewrite [evE_rstrip] | rewrite [evE_replace] | rewrite [evE_dget] | rewrite [evE_all] | rewrite [evE_anyZip]); rw [h1, R.bind_ok])
  by_cases q : P
  · simp [q]
  · simp [q, h2 q]
end
theorem execs_ifP {C : Calls} {N : Nat} {t : PE} {b o r : List PS} {ρ : Env'} {c : Prop} [Decidable c] (hc : c) (h : ev C t ρ = .ok (.bool (decide c))) :
    execs C N (.ite t b o :: r) ρ = execs C N (b ++ r) ρ := by rw [execs_if h, decide_eq_true hc]; rfl
theorem execs_ifN {C : Calls} {N : Nat} {t : PE} {b o r : List PS} {ρ : Env'} {c : Prop} [Decidable c] (hc : ¬ c) (h : ev C t ρ = .ok (.bool (decide c))) :
    execs C N (.ite t b o :: r) ρ = execs C N (o ++ r) ρ := by rw [execs_if h, decide_eq_false hc]; rfl
theorem loopW_true {t : Env' → R PyData} {b : Env' → R Fl} {n : Nat} {ρ ρ' : Env'} (h1 : t ρ = .ok (.bool true)) (h2 : b ρ = .ok (.next ρ')) : loopW t b (n + 1) ρ = loopW t b n ρ' := by
  rw [loopWE, h1]; simp [h2]
theorem loopW_false {t : Env' → R PyData} {b : Env' → R Fl} {n : Nat} {ρ : Env'} (h1 : t ρ = .ok (.bool false)) : loopW t b (n + 1) ρ = .ok (.next ρ) := by
  rw [loopWE, h1]; (first | rfl | simp)
theorem loopW_ret {t : Env' → R PyData} {b : Env' → R Fl} {n : Nat} {ρ : Env'} {d : PyData} (h1 : t ρ = .ok (.bool true)) (h2 : b ρ = .ok (.ret d)) : loopW t b (n + 1) ρ = .ok (.ret d) := by
  rw [loopWE, h1]; simp [h2]

end Mine

namespace Mine
open PySem

theorem add_dS {a b : List Nat} (h : a.length + b.length ≤ 100000) : binop .add (dS a) (dS b) = .ok (dS (a ++ b)) := by
  rw [binop_6, decide_eq_true (show a.length + b.length ≤ limit by unfold limit; lia)]; rfl
theorem mulR {a b : Int} (h : smallI b = true) : binop .mul (.int a) (.int b) = .ok (.int (a * b)) := by
  rw [binop_3, h, Bool.or_true]; rfl
theorem cmp_ne {a b : Int} : cmpop .ne (.int a) (.int b) = .ok (.bool (decide (¬ a = b))) := by rw [cmpop_2, deq_1, decide_not]; rfl
section
variable {C : Calls} {N : Nat} {ρ ρ' : Env'} {r : List PS} {w : R PyData}
theorem exec_asg {x : Nat} {e : PE} {d : PyData} (h : ev C e ρ = .ok d) : exec C N (.asg x e) ρ = .ok (.next (ρ.set x (some d))) := by
  rw [execE_asg, h]; rfl
theorem exec_asgT {xs : List Nat} {e : PE} {l : List PyData} (h : ev C e ρ = .ok (.tuple l)) (h2 : putAll xs l ρ = some ρ') : exec C N (.asgT xs e) ρ = .ok (.next ρ') := by
  rw [execE_asgT, h, R.bind_ok]
  show (R.ofOpt (putAll xs l ρ)).bind _ = _
  rw [h2]; rfl
theorem evs_c {e : PE} {r : List PE} {d : PyData} {l : List PyData} (h1 : ev C e ρ = .ok d) (h2 : evs C r ρ = .ok l) : evs C (e :: r) ρ = .ok (d :: l) := by
  rw [evsE_cons, h1, h2]; rfl
theorem evs3 {a b c : PE} {x y z : PyData} (h1 : ev C a ρ = .ok x) (h2 : ev C b ρ = .ok y) (h3 : ev C c ρ = .ok z) : evs C [a, b, c] ρ = .ok [x, y, z] := evs_c h1 (evs_c h2 (evs_c h3 rfl))
theorem ev_callL {f : Nat} {as : List PE} {l : List PyData} {r : R PyData} (h1 : evs C as ρ = .ok l) (h : C f l = r) : ev C (.call f as) ρ = r := by
  rw [evE_call, h1, R.bind_ok]; exact h
theorem ev_call0 {f : Nat} {r : R PyData} (h : C f [] = r) : ev C (.call f []) ρ = r := ev_callL rfl h
theorem ev_call1 {f : Nat} {a : PE} {x : PyData} {r : R PyData} (h1 : ev C a ρ = .ok x) (h : C f [x] = r) : ev C (.call f [a]) ρ = r := ev_callL (evs_c h1 rfl) h
theorem ev_call2 {f : Nat} {a b : PE} {x y : PyData} {r : R PyData} (h1 : ev C a ρ = .ok x) (h2 : ev C b ρ = .ok y) (h : C f [x, y] = r) : ev C (.call f [a, b]) ρ = r := ev_callL (evs_c h1 (evs_c h2 rfl)) h
theorem ev_call3 {f : Nat} {a b c : PE} {x y z : PyData} {r : R PyData} (h1 : ev C a ρ = .ok x) (h2 : ev C b ρ = .ok y) (h3 : ev C c ρ = .ok z) (h : C f [x, y, z] = r) : ev C (.call f [a, b, c]) ρ = r := ev_callL (evs3 h1 h2 h3) h
theorem ev_call4 {f : Nat} {a b c d : PE} {x y z u : PyData} {r : R PyData} (h1 : ev C a ρ = .ok x) (h2 : ev C b ρ = .ok y) (h3 : ev C c ρ = .ok z) (h4 : ev C d ρ = .ok u) (h : C f [x, y, z, u] = r) : ev C (.call f [a, b, c, d]) ρ = r := ev_callL (evs_c h1 (evs3 h2 h3 h4)) h
theorem ev_ix {a i : PE} {x y : PyData} (h1 : ev C a ρ = .ok x) (h2 : ev C i ρ = .ok y) : ev C (.idx a i) ρ = index x y := by
  rw [evE_idx, h1, h2, R.bind_ok, R.bind_ok]
theorem ev_tupL {es : List PE} {l : List PyData} (h : evs C es ρ = .ok l) : ev C (.tup es) ρ = .ok (.tuple l) := by rw [evE_tup, h]; rfl
theorem ev_tup1 {a : PE} {x : PyData} (h : ev C a ρ = .ok x) : ev C (.tup [a]) ρ = .ok (.tuple [x]) := ev_tupL (evs_c h rfl)
theorem ev_tup2 {a b : PE} {x y : PyData} (h1 : ev C a ρ = .ok x) (h2 : ev C b ρ = .ok y) : ev C (.tup [a, b]) ρ = .ok (.tuple [x, y]) := ev_tupL (evs_c h1 (evs_c h2 rfl))
theorem ev_tup3 {a b c : PE} {x y z : PyData} (h1 : ev C a ρ = .ok x) (h2 : ev C b ρ = .ok y) (h3 : ev C c ρ = .ok z) : ev C (.tup [a, b, c]) ρ = .ok (.tuple [x, y, z]) := ev_tupL (evs3 h1 h2 h3)
theorem ev_bin {op : BOp} {a b : PE} {x y : PyData} (h1 : ev C a ρ = .ok x) (h2 : ev C b ρ = .ok y) : ev C (.bin op a b) ρ = binop op x y := by
  rw [evE_bin, h1, h2, R.bind_ok, R.bind_ok]
theorem ev_cmp {op : COp} {a b : PE} {x y : PyData} (h1 : ev C a ρ = .ok x) (h2 : ev C b ρ = .ok y) : ev C (.cmp op a b) ρ = cmpop op x y := by
  rw [evE_cmp, h1, h2, R.bind_ok, R.bind_ok]
theorem ev_add {a b : PE} {x y : List Nat} (h1 : ev C a ρ = .ok (dS x)) (h2 : ev C b ρ = .ok (dS y)) (h : x.length + y.length ≤ 100000) : ev C (.bin .add a b) ρ = .ok (dS (x ++ y)) := (ev_bin h1 h2).trans (add_dS h)
theorem ev_andF {a b : PE} (h : ev C a ρ = .ok (.bool false)) : ev C (.and a b) ρ = .ok (.bool false) := by
  rw [evE_and, h]; rfl
theorem ev_andT {a b : PE} {x : PyData} (h : ev C a ρ = .ok (.bool true)) (h2 : ev C b ρ = .ok x) : ev C (.and a b) ρ = .ok x := by
  rw [evE_and, h, R.bind_ok, truthy_1, R.bind_ok]; exact h2
theorem ev_orF {a b : PE} {x : R PyData} (h : ev C a ρ = .ok (.bool false)) (h2 : ev C b ρ = x) : ev C (.or a b) ρ = x := by
  rw [evE_or, h, R.bind_ok, truthy_1, R.bind_ok]; exact h2
theorem ev_notB {e : PE} {b : Bool} (h : ev C e ρ = .ok (.bool b)) : ev C (.not e) ρ = .ok (.bool !b) := by
  rw [evE_not, h]; rfl
theorem ev_iteP {t a b : PE} {x y : PyData} {P : Prop} [Decidable P] (h : ev C t ρ = .ok (.bool (decide P))) (h1 : P → ev C a ρ = .ok x) (h2 : ¬ P → ev C b ρ = .ok y) : ev C (.ite t a b) ρ = .ok (if P then x else y) := by
  rw [evE_ite, h, R.bind_ok, truthy_1, R.bind_ok]
  by_cases p : P
  · rw [decide_eq_true p, if_pos p]; exact h1 p
  · rw [decide_eq_false p, if_neg p]; exact h2 p
theorem asg_ {x : Nat} {e : PE} {d : PyData} (h : ev C e ρ = .ok d) (hρ : ρ.set x (some d) = ρ') (k : fin (execs C N r ρ') = w) : fin (execs C N (.asg x e :: r) ρ) = w := by
  rw [execs_step (exec_asg h), hρ]; exact k
theorem asgT_ {xs : List Nat} {e : PE} {l : List PyData} (h : ev C e ρ = .ok (.tuple l)) (hρ : putAll xs l ρ = some ρ') (k : fin (execs C N r ρ') = w) : fin (execs C N (.asgT xs e :: r) ρ) = w := by
  rw [execs_step (exec_asgT h hρ)]; exact k
theorem retO_ {e : PE} {d : PyData} (h : ev C e ρ = .ok d) : fin (execs C N (.ret e :: r) ρ) = .ok d := by
  rw [execs_ret (d := d)]
  · rfl
  · exact congrArg (fun r => R.bind r fun d => R.ok (Fl.ret d)) h
theorem if_ {t : PE} {b o : List PS} {P : Prop} [Decidable P] (h : ev C t ρ = .ok (.bool (decide P))) (h1 : P → fin (execs C N (b ++ r) ρ) = w) (h2 : ¬ P → fin (execs C N (o ++ r) ρ) = w) : fin (execs C N (.ite t b o :: r) ρ) = w := by
  by_cases p : P
  · rw [execs_ifP p h]; exact h1 p
  · rw [execs_ifN p h]; exact h2 p
theorem skip_ {t : PE} {b o : List PS} (h : ev C t ρ = .ok (.bool false)) (k : fin (execs C N (o ++ r) ρ) = w) : fin (execs C N (.ite t b o :: r) ρ) = w := by
  rw [execs_if h]; exact k
theorem take_ {t : PE} {b o : List PS} (h : ev C t ρ = .ok (.bool true)) (k : fin (execs C N (b ++ r) ρ) = w) : fin (execs C N (.ite t b o :: r) ρ) = w := by
  rw [execs_if h]; exact k
end
end Mine

namespace Mine
open PySem
noncomputable def p_is_long : Fn := ⟨1, 1, [
  (.ret (.and (.cmp .eq (.bin .mod (.loc 0) (.cst (.int 4))) (.cst (.int 0))) (.or (.cmp .ne (.bin .mod (.loc 0) (.cst (.int 100))) (.cst (.int 0))) (.cmp .eq (.bin .mod (.loc 0) (.cst (.int 400))) (.cst (.int 0))))))]⟩
noncomputable def p_days_ahead_of_year : Fn := ⟨1, 1, [
  (.ret (.bin .add (.bin .sub (.bin .add (.bin .mul (.cst (.int 365)) (.loc 0)) (.bin .div (.bin .add (.loc 0) (.cst (.int 3))) (.cst (.int 4)))) (.bin .div (.bin .add (.loc 0) (.cst (.int 99))) (.cst (.int 100)))) (.bin .div (.bin .add (.loc 0) (.cst (.int 399))) (.cst (.int 400)))))]⟩
noncomputable def p_days_ahead_of_month : Fn := ⟨2, 2, [
  (.ite (.and (.cmp .gt (.loc 1) (.cst (.int 2))) (.call 0 [(.loc 0)])) [(.ret (.bin .add (.idx (.cst (.list [(.int 0), (.int 31), (.int 59), (.int 90), (.int 120), (.int 151), (.int 181), (.int 212), (.int 243), (.int 273), (.int 304), (.int 334)])) (.bin .sub (.loc 1) (.cst (.int 1)))) (.cst (.int 1))))] []),
  (.ret (.idx (.cst (.list [(.int 0), (.int 31), (.int 59), (.int 90), (.int 120), (.int 151), (.int 181), (.int 212), (.int 243), (.int 273), (.int 304), (.int 334)])) (.bin .sub (.loc 1) (.cst (.int 1)))))]⟩
noncomputable def p_days_from_civil : Fn := ⟨3, 3, [
  (.ret (.bin .sub (.bin .add (.bin .add (.call 1 [(.loc 0)]) (.call 2 [(.loc 0), (.loc 1)])) (.loc 2)) (.cst (.int 1))))]⟩
noncomputable def p_civil_from_days : Fn := ⟨1, 4, [
  (.asg 1 (.bin .div (.bin .mul (.loc 0) (.cst (.int 400))) (.cst (.int 146097)))),
  (.ite (.cmp .gt (.call 1 [(.loc 1)]) (.loc 0)) [(.asg 1 (.bin .sub (.loc 1) (.cst (.int 1))))] [(.ite (.cmp .le (.call 1 [(.bin .add (.loc 1) (.cst (.int 1)))]) (.loc 0)) [(.asg 1 (.bin .add (.loc 1) (.cst (.int 1))))] [])]),
  (.asg 2 (.bin .sub (.loc 0) (.call 1 [(.loc 1)]))),
  (.asg 3 (.cst (.int 12))),
  (.whl (.cmp .gt (.call 2 [(.loc 1), (.loc 3)]) (.loc 2)) [(.asg 3 (.bin .sub (.loc 3) (.cst (.int 1))))]),
  (.ret (.tup [(.loc 1), (.loc 3), (.bin .add (.bin .sub (.loc 2) (.call 2 [(.loc 1), (.loc 3)])) (.cst (.int 1)))]))]⟩
noncomputable def p_instant : Fn := ⟨1, 4, [
  (.asg 1 (.idx (.loc 0) (.cst (.int 7)))),
  (.ite (.isNone (.loc 1)) [(.asg 1 (.cst (.int 0)))] []),
  (.asg 2 (.call 3 [(.idx (.loc 0) (.cst (.int 0))), (.idx (.loc 0) (.cst (.int 1))), (.idx (.loc 0) (.cst (.int 2)))])),
  (.asg 3 (.bin .sub (.bin .add (.bin .mul (.bin .add (.bin .mul (.loc 2) (.cst (.int 24))) (.idx (.loc 0) (.cst (.int 3)))) (.cst (.int 60))) (.idx (.loc 0) (.cst (.int 4)))) (.loc 1))),
  (.ret (.tup [(.bin .div (.loc 3) (.cst (.int 1440))), (.bin .add (.bin .mul (.bin .mod (.loc 3) (.cst (.int 1440))) (.cst (.int 60))) (.idx (.loc 0) (.cst (.int 5)))), (.idx (.loc 0) (.cst (.int 6)))]))]⟩
noncomputable def p_is_leap : Fn := ⟨1, 1, [
  (.ite (.cmp .ne (.bin .mod (.loc 0) (.cst (.int 4))) (.cst (.int 0))) [(.ret (.cst (.bool false)))] []),
  (.ite (.cmp .ne (.bin .mod (.loc 0) (.cst (.int 100))) (.cst (.int 0))) [(.ret (.cst (.bool true)))] []),
  (.ret (.cmp .eq (.bin .mod (.loc 0) (.cst (.int 400))) (.cst (.int 0))))]⟩
noncomputable def p_month_length : Fn := ⟨2, 3, [
  (.asg 2 (.lst [(.cst (.int 31)), (.cst (.int 28)), (.cst (.int 31)), (.cst (.int 30)), (.cst (.int 31)), (.cst (.int 30)), (.cst (.int 31)), (.cst (.int 31)), (.cst (.int 30)), (.cst (.int 31)), (.cst (.int 30)), (.cst (.int 31))])),
  (.ite (.and (.cmp .eq (.loc 1) (.cst (.int 2))) (.call 6 [(.loc 0)])) [(.ret (.cst (.int 29)))] []),
  (.ret (.idx (.loc 2) (.bin .sub (.loc 1) (.cst (.int 1)))))]⟩
noncomputable def p_is_valid : Fn := ⟨1, 13, [
  (.asgT [1, 2, 3, 4, 5, 6, 7, 8] (.loc 0)),
  (.ite (.not (.chain .le .le (.cst (.int 0)) (.loc 1) (.cst (.int 9999)))) [(.ret (.cst (.bool false)))] []),
  (.ite (.not (.chain .le .le (.cst (.int 1)) (.loc 2) (.cst (.int 12)))) [(.ret (.cst (.bool false)))] []),
  (.ite (.not (.chain .le .le (.cst (.int 1)) (.loc 3) (.call 7 [(.loc 1), (.loc 2)]))) [(.ret (.cst (.bool false)))] []),
  (.ite (.not (.chain .le .le (.cst (.int 0)) (.loc 4) (.cst (.int 23)))) [(.ret (.cst (.bool false)))] []),
  (.ite (.not (.chain .le .le (.cst (.int 0)) (.loc 5) (.cst (.int 59)))) [(.ret (.cst (.bool false)))] []),
  (.ite (.not (.chain .le .le (.cst (.int 0)) (.loc 7) (.cst (.int 999999999)))) [(.ret (.cst (.bool false)))] []),
  (.ite (.isNotNone (.loc 8)) [(.ite (.not (.chain .le .le (.neg (.cst (.int 1439))) (.loc 8) (.cst (.int 1439)))) [(.ret (.cst (.bool false)))] [])] []),
  (.ite (.chain .le .le (.cst (.int 0)) (.loc 6) (.cst (.int 59))) [(.ret (.cst (.bool true)))] []),
  (.ite (.cmp .ne (.loc 6) (.cst (.int 60))) [(.ret (.cst (.bool false)))] []),
  (.asg 9 (.call 5 [(.tup [(.loc 1), (.loc 2), (.loc 3), (.loc 4), (.loc 5), (.cst (.int 59)), (.loc 7), (.loc 8)])])),
  (.asg 10 (.idx (.loc 9) (.cst (.int 0)))),
  (.asg 11 (.idx (.loc 9) (.cst (.int 1)))),
  (.ite (.cmp .ne (.loc 11) (.cst (.int 86399))) [(.ret (.cst (.bool false)))] []),
  (.ite (.not (.chain .le .lt (.cst (.int 0)) (.loc 10) (.cst (.int 3652425)))) [(.ret (.cst (.bool false)))] []),
  (.asg 12 (.call 4 [(.loc 10)])),
  (.ite (.and (.cmp .eq (.idx (.loc 12) (.cst (.int 1))) (.cst (.int 6))) (.cmp .eq (.idx (.loc 12) (.cst (.int 2))) (.cst (.int 30)))) [(.ret (.cst (.bool true)))] []),
  (.ite (.and (.cmp .eq (.idx (.loc 12) (.cst (.int 1))) (.cst (.int 12))) (.cmp .eq (.idx (.loc 12) (.cst (.int 2))) (.cst (.int 31)))) [(.ret (.cst (.bool true)))] []),
  (.ret (.cst (.bool false)))]⟩
noncomputable def p_digits : Fn := ⟨3, 6, [
  (.asg 3 (.cst (.int 0))),
  (.asg 4 (.loc 1)),
  (.whl (.cmp .lt (.loc 4) (.loc 2)) [(.asg 5 (.idx (.loc 0) (.loc 4))), (.ite (.cmp .notIn (.loc 5) (.cst (.str (PySem.Str.mk #[48, 49, 50, 51, 52, 53, 54, 55, 56, 57])))) [(.ret (.neg (.cst (.int 1))))] []), (.asg 3 (.bin .add (.bin .mul (.loc 3) (.cst (.int 10))) (.bin .sub (.b1 .ord (.loc 5)) (.cst (.int 48))))), (.asg 4 (.bin .add (.loc 4) (.cst (.int 1))))]),
  (.ret (.loc 3))]⟩
noncomputable def p_parse : Fn := ⟨1, 18, [
  (.asg 1 (.b1 .len (.loc 0))),
  (.ite (.cmp .lt (.loc 1) (.cst (.int 20))) [.raise] []),
  (.asg 2 (.call 9 [(.loc 0), (.cst (.int 0)), (.cst (.int 4))])),
  (.asg 3 (.call 9 [(.loc 0), (.cst (.int 5)), (.cst (.int 7))])),
  (.asg 4 (.call 9 [(.loc 0), (.cst (.int 8)), (.cst (.int 10))])),
  (.asg 5 (.call 9 [(.loc 0), (.cst (.int 11)), (.cst (.int 13))])),
  (.asg 6 (.call 9 [(.loc 0), (.cst (.int 14)), (.cst (.int 16))])),
  (.asg 7 (.call 9 [(.loc 0), (.cst (.int 17)), (.cst (.int 19))])),
  (.ite (.or (.cmp .lt (.loc 2) (.cst (.int 0))) (.or (.cmp .lt (.loc 3) (.cst (.int 0))) (.cmp .lt (.loc 4) (.cst (.int 0))))) [.raise] []),
  (.ite (.or (.cmp .lt (.loc 5) (.cst (.int 0))) (.or (.cmp .lt (.loc 6) (.cst (.int 0))) (.cmp .lt (.loc 7) (.cst (.int 0))))) [.raise] []),
  (.ite (.or (.cmp .ne (.idx (.loc 0) (.cst (.int 4))) (.cst (.str (PySem.Str.mk #[45])))) (.cmp .ne (.idx (.loc 0) (.cst (.int 7))) (.cst (.str (PySem.Str.mk #[45]))))) [.raise] []),
  (.ite (.and (.cmp .ne (.idx (.loc 0) (.cst (.int 10))) (.cst (.str (PySem.Str.mk #[84])))) (.cmp .ne (.idx (.loc 0) (.cst (.int 10))) (.cst (.str (PySem.Str.mk #[116]))))) [.raise] []),
  (.ite (.or (.cmp .ne (.idx (.loc 0) (.cst (.int 13))) (.cst (.str (PySem.Str.mk #[58])))) (.cmp .ne (.idx (.loc 0) (.cst (.int 16))) (.cst (.str (PySem.Str.mk #[58]))))) [.raise] []),
  (.asg 8 (.cst (.int 19))),
  (.asg 9 (.cst (.int 0))),
  (.ite (.cmp .eq (.idx (.loc 0) (.loc 8)) (.cst (.str (PySem.Str.mk #[46])))) [(.asg 10 (.bin .add (.loc 8) (.cst (.int 1)))), (.whl (.and (.cmp .lt (.loc 10) (.loc 1)) (.cmp .isIn (.idx (.loc 0) (.loc 10)) (.cst (.str (PySem.Str.mk #[48, 49, 50, 51, 52, 53, 54, 55, 56, 57]))))) [(.asg 10 (.bin .add (.loc 10) (.cst (.int 1))))]), (.asg 11 (.bin .sub (.bin .sub (.loc 10) (.loc 8)) (.cst (.int 1)))), (.ite (.or (.cmp .lt (.loc 11) (.cst (.int 1))) (.cmp .gt (.loc 11) (.cst (.int 9)))) [.raise] []), (.asg 9 (.call 9 [(.loc 0), (.bin .add (.loc 8) (.cst (.int 1))), (.loc 10)])), (.asg 12 (.loc 11)), (.whl (.cmp .lt (.loc 12) (.cst (.int 9))) [(.asg 9 (.bin .mul (.loc 9) (.cst (.int 10)))), (.asg 12 (.bin .add (.loc 12) (.cst (.int 1))))]), (.asg 8 (.loc 10))] []),
  (.ite (.cmp .ge (.loc 8) (.loc 1)) [.raise] []),
  (.asg 13 (.idx (.loc 0) (.loc 8))),
  (.ite (.or (.cmp .eq (.loc 13) (.cst (.str (PySem.Str.mk #[90])))) (.cmp .eq (.loc 13) (.cst (.str (PySem.Str.mk #[122]))))) [(.ite (.cmp .ne (.bin .add (.loc 8) (.cst (.int 1))) (.loc 1)) [.raise] []), (.asg 14 (.cst (.int 0)))] [(.ite (.or (.cmp .eq (.loc 13) (.cst (.str (PySem.Str.mk #[43])))) (.cmp .eq (.loc 13) (.cst (.str (PySem.Str.mk #[45]))))) [(.ite (.cmp .ne (.bin .add (.loc 8) (.cst (.int 6))) (.loc 1)) [.raise] []), (.asg 15 (.call 9 [(.loc 0), (.bin .add (.loc 8) (.cst (.int 1))), (.bin .add (.loc 8) (.cst (.int 3)))])), (.asg 16 (.call 9 [(.loc 0), (.bin .add (.loc 8) (.cst (.int 4))), (.bin .add (.loc 8) (.cst (.int 6)))])), (.ite (.or (.cmp .lt (.loc 15) (.cst (.int 0))) (.or (.cmp .lt (.loc 16) (.cst (.int 0))) (.cmp .ne (.idx (.loc 0) (.bin .add (.loc 8) (.cst (.int 3)))) (.cst (.str (PySem.Str.mk #[58])))))) [.raise] []), (.ite (.or (.cmp .gt (.loc 15) (.cst (.int 23))) (.cmp .gt (.loc 16) (.cst (.int 59)))) [.raise] []), (.asg 14 (.bin .add (.bin .mul (.loc 15) (.cst (.int 60))) (.loc 16))), (.ite (.cmp .eq (.loc 13) (.cst (.str (PySem.Str.mk #[45])))) [(.asg 14 (.neg (.loc 14))), (.ite (.cmp .eq (.loc 14) (.cst (.int 0))) [(.asg 14 (.cst .none))] [])] [])] [.raise])]),
  (.asg 17 (.tup [(.loc 2), (.loc 3), (.loc 4), (.loc 5), (.loc 6), (.loc 7), (.loc 9), (.loc 14)])),
  (.ite (.not (.call 8 [(.loc 17)])) [.raise] []),
  (.ret (.loc 17))]⟩
noncomputable def p_pad : Fn := ⟨2, 3, [
  (.asg 2 (.b1 .str (.loc 0))),
  (.whl (.cmp .lt (.b1 .len (.loc 2)) (.loc 1)) [(.asg 2 (.bin .add (.cst (.str (PySem.Str.mk #[48]))) (.loc 2)))]),
  (.ret (.loc 2))]⟩
noncomputable def p_format_stamp : Fn := ⟨1, 8, [
  (.ite (.not (.call 8 [(.loc 0)])) [.raise] []),
  (.asg 1 (.bin .add (.bin .add (.bin .add (.bin .add (.call 11 [(.idx (.loc 0) (.cst (.int 0))), (.cst (.int 4))]) (.cst (.str (PySem.Str.mk #[45])))) (.call 11 [(.idx (.loc 0) (.cst (.int 1))), (.cst (.int 2))])) (.cst (.str (PySem.Str.mk #[45])))) (.call 11 [(.idx (.loc 0) (.cst (.int 2))), (.cst (.int 2))]))),
  (.asg 1 (.bin .add (.bin .add (.bin .add (.bin .add (.bin .add (.bin .add (.loc 1) (.cst (.str (PySem.Str.mk #[84])))) (.call 11 [(.idx (.loc 0) (.cst (.int 3))), (.cst (.int 2))])) (.cst (.str (PySem.Str.mk #[58])))) (.call 11 [(.idx (.loc 0) (.cst (.int 4))), (.cst (.int 2))])) (.cst (.str (PySem.Str.mk #[58])))) (.call 11 [(.idx (.loc 0) (.cst (.int 5))), (.cst (.int 2))]))),
  (.asg 2 (.idx (.loc 0) (.cst (.int 6)))),
  (.ite (.cmp .ne (.loc 2) (.cst (.int 0))) [(.asg 3 (.call 11 [(.loc 2), (.cst (.int 9))])), (.asg 4 (.b1 .len (.loc 3))), (.whl (.and (.cmp .gt (.loc 4) (.cst (.int 0))) (.cmp .eq (.idx (.loc 3) (.bin .sub (.loc 4) (.cst (.int 1)))) (.cst (.str (PySem.Str.mk #[48]))))) [(.asg 4 (.bin .sub (.loc 4) (.cst (.int 1))))]), (.asg 1 (.bin .add (.bin .add (.loc 1) (.cst (.str (PySem.Str.mk #[46])))) (.slice (.loc 3) (.cst (.int 0)) (.loc 4))))] []),
  (.asg 5 (.idx (.loc 0) (.cst (.int 7)))),
  (.ite (.isNone (.loc 5)) [(.ret (.bin .add (.loc 1) (.cst (.str (PySem.Str.mk #[45, 48, 48, 58, 48, 48])))))] []),
  (.ite (.cmp .eq (.loc 5) (.cst (.int 0))) [(.ret (.bin .add (.loc 1) (.cst (.str (PySem.Str.mk #[90])))))] []),
  (.ite (.cmp .lt (.loc 5) (.cst (.int 0))) [(.asg 6 (.cst (.str (PySem.Str.mk #[45])))), (.asg 7 (.neg (.loc 5)))] [(.asg 6 (.cst (.str (PySem.Str.mk #[43])))), (.asg 7 (.loc 5))]),
  (.ret (.bin .add (.bin .add (.bin .add (.bin .add (.loc 1) (.loc 6)) (.call 11 [(.bin .div (.loc 7) (.cst (.int 60))), (.cst (.int 2))])) (.cst (.str (PySem.Str.mk #[58])))) (.call 11 [(.bin .mod (.loc 7) (.cst (.int 60))), (.cst (.int 2))])))]⟩
noncomputable def p_to_instant : Fn := ⟨1, 1, [
  (.ret (.call 5 [(.loc 0)]))]⟩
noncomputable def p_from_instant : Fn := ⟨2, 12, [
  (.asgT [2, 3, 4] (.loc 0)),
  (.ite (.cmp .ne (.loc 3) (.cst (.int 86400))) [(.asg 5 (.bin .div (.loc 3) (.cst (.int 60))))] [(.asg 5 (.cst (.int 1439)))]),
  (.asg 6 (.loc 1)),
  (.ite (.isNone (.loc 6)) [(.asg 6 (.cst (.int 0)))] []),
  (.asg 7 (.bin .add (.bin .add (.bin .mul (.loc 2) (.cst (.int 1440))) (.loc 5)) (.loc 6))),
  (.ite (.not (.chain .le .lt (.cst (.int 0)) (.loc 7) (.bin .mul (.cst (.int 3652425)) (.cst (.int 1440))))) [.raise] []),
  (.ite (.not (.chain .le .le (.cst (.int 0)) (.loc 3) (.cst (.int 86400)))) [.raise] []),
  (.ite (.cmp .eq (.loc 3) (.cst (.int 86400))) [(.asg 8 (.cst (.int 60)))] [(.asg 8 (.bin .mod (.loc 3) (.cst (.int 60))))]),
  (.asg 9 (.call 4 [(.bin .div (.loc 7) (.cst (.int 1440)))])),
  (.asg 10 (.bin .mod (.loc 7) (.cst (.int 1440)))),
  (.asg 11 (.tup [(.idx (.loc 9) (.cst (.int 0))), (.idx (.loc 9) (.cst (.int 1))), (.idx (.loc 9) (.cst (.int 2))), (.bin .div (.loc 10) (.cst (.int 60))), (.bin .mod (.loc 10) (.cst (.int 60))), (.loc 8), (.loc 4), (.loc 1)])),
  (.ite (.not (.call 8 [(.loc 11)])) [.raise] []),
  (.ret (.loc 11))]⟩
noncomputable def p_compare : Fn := ⟨2, 4, [
  (.asg 2 (.call 5 [(.loc 0)])),
  (.asg 3 (.call 5 [(.loc 1)])),
  (.ite (.cmp .lt (.loc 2) (.loc 3)) [(.ret (.neg (.cst (.int 1))))] []),
  (.ite (.cmp .gt (.loc 2) (.loc 3)) [(.ret (.cst (.int 1)))] []),
  (.ret (.cst (.int 0)))]⟩
noncomputable def p_T : List Fn := [p_is_long, p_days_ahead_of_year, p_days_ahead_of_month, p_days_from_civil, p_civil_from_days, p_instant, p_is_leap, p_month_length, p_is_valid, p_digits, p_parse, p_pad, p_format_stamp, p_to_instant, p_from_instant]
end Mine

namespace Mine
open PySem
structure IsT (T : List Fn) : Prop where
  at_ : ∀ (k : Nat) (f : Fn), p_T[k]? = some f → T[k]? = some f

noncomputable def leapB (y : Int) : Bool := decide (y % 4 = 0 ∧ (y % 100 ≠ 0 ∨ y % 400 = 0))

theorem run_is_leap {T : List Fn} (hT : IsT T) {N n : Nat} (hn : 1 ≤ n) (y : Int) : run T N n 6 [.int y] = .ok (.bool (leapB y)) := by
  obtain ⟨m, rfl⟩ := Nat.exists_eq_add_of_le' hn
  rw [run_at (hT.at_ 6 p_is_leap rfl) rfl]
  unfold leapB
  refine if_ (P := ¬ y % 4 = 0) ((ev_cmp (x := .int (y % 4)) (y := .int 0) rfl rfl).trans cmp_ne) (fun q => (retO_ rfl).trans (by rw [decide_eq_false fun z => q z.1])) (fun q => ?_)
  refine if_ (P := ¬ y % 100 = 0) ((ev_cmp (x := .int (y % 100)) (y := .int 0) rfl rfl).trans cmp_ne) (fun r => (retO_ rfl).trans (by rw [decide_eq_true ⟨Classical.not_not.mp q, .inl r⟩])) (fun r => ?_)
  exact (retO_ (d := .bool (decide (y % 400 = 0))) rfl).trans (congrArg (fun b => R.ok (PyData.bool b)) (decide_eq_decide.mpr ⟨fun z => ⟨Classical.not_not.mp q, .inr z⟩, fun z => z.2.resolve_left r⟩))
theorem run_is_long {T : List Fn} (hT : IsT T) {N n : Nat} (hn : 1 ≤ n) (y : Int) : run T N n 0 [.int y] = .ok (.bool (leapB y)) := by
  obtain ⟨m, rfl⟩ := Nat.exists_eq_add_of_le' hn
  rw [run_at (hT.at_ 0 p_is_long rfl) rfl]
  exact (retO_ (ev_and (P := y % 4 = 0) (Q := ¬ y % 100 = 0 ∨ y % 400 = 0) rfl fun _ => ev_or ((ev_cmp (x := .int (y % 100)) (y := .int 0) rfl rfl).trans cmp_ne) fun _ => rfl)).trans (congrArg (fun b => R.ok (PyData.bool b)) (decide_eq_decide.mpr Iff.rfl))

noncomputable def dY (y : Int) : Int := 365 * y + (y + 3) / 4 - (y + 99) / 100 + (y + 399) / 400
theorem run_dY {T : List Fn} (hT : IsT T) {N n : Nat} (hn : 1 ≤ n) (y : Int) : run T N n 1 [.int y] = .ok (.int (dY y)) := by
  obtain ⟨m, rfl⟩ := Nat.exists_eq_add_of_le' hn
  rw [run_at (hT.at_ 1 p_days_ahead_of_year rfl) rfl]
  first | rfl | simp [execsE_nil, execsE_cons, execE_ret, execE_asg, execE_asgT, execE_ite, execE_whl, execE_forRange, execE_forTup, execE_forZip, execE_raise, execE_tryAsg, p_days_ahead_of_year, dY, smallI]

noncomputable def aheadC (m : Int) : Int := if m ≤ 1 then 0 else if m = 2 then 31 else if m = 3 then 59 else if m = 4 then 90 else if m = 5 then 120 else if m = 6 then 151 else if m = 7 then 181 else if m = 8 then 212
  else if m = 9 then 243 else if m = 10 then 273 else if m = 11 then 304 else 334
noncomputable def dM (y m : Int) : Int := aheadC m + if 2 < m ∧ leapB y = true then 1 else 0

theorem twelve {m : Int} (h1 : 1 ≤ m) (h2 : m ≤ 12) : m = 1 ∨ m = 2 ∨ m = 3 ∨ m = 4 ∨ m = 5 ∨ m = 6 ∨ m = 7 ∨ m = 8 ∨ m = 9 ∨ m = 10 ∨ m = 11 ∨ m = 12 := by first | assumption | rfl | exact Nat.le_add_left _ _ | decide | lia

theorem run_dM {T : List Fn} (hT : IsT T) {N n : Nat} (hn : 2 ≤ n) (y m : Int) (h1 : 1 ≤ m) (h2 : m ≤ 12) : run T N n 2 [.int y, .int m] = .ok (.int (dM y m)) := by
  obtain ⟨k, rfl⟩ := Nat.exists_eq_add_of_le' hn
  rw [run_at (hT.at_ 2 p_days_ahead_of_month rfl) rfl]
  have key : index (.list [(.int 0), (.int 31), (.int 59), (.int 90), (.int 120), (.int 151), (.int 181), (.int 212), (.int 243), (.int 273), (.int 304), (.int 334)]) (.int (m - 1)) = .ok (.int (aheadC m)) := by
    rcases twelve h1 h2 with rfl | rfl | rfl | rfl | rfl | rfl | rfl | rfl | rfl | rfl | rfl | rfl <;> rfl
  unfold dM
  refine if_ (P := 2 < m ∧ leapB y = true) (ev_and rfl fun _ => (ev_call1 (x := .int y) rfl (run_is_long hT (Nat.le_add_left 1 k) y)).trans (by rw [Bool.decide_eq_true])) (fun q => ?_) (fun q => ?_)
  · rw [if_pos q]; exact retO_ ((ev_bin (x := .int (aheadC m)) (y := .int 1) ((ev_ix rfl rfl).trans key) rfl).trans rfl)
  · rw [if_neg q, Int.add_zero]; exact retO_ ((ev_ix rfl rfl).trans key)

noncomputable def dFC (y m d : Int) : Int := dY y + dM y m + d - 1
theorem run_dFC {T : List Fn} (hT : IsT T) {N n : Nat} (hn : 3 ≤ n) (y m d : Int) (h1 : 1 ≤ m) (h2 : m ≤ 12) : run T N n 3 [.int y, .int m, .int d] = .ok (.int (dFC y m d)) := by
  obtain ⟨k, rfl⟩ := Nat.exists_eq_add_of_le' hn
  rw [run_at (hT.at_ 3 p_days_from_civil rfl) rfl]
  exact retO_ ((ev_bin (x := .int (dY y + dM y m + d)) (y := .int 1) ((ev_bin (x := .int (dY y + dM y m)) (y := .int d) ((ev_bin (x := .int (dY y)) (y := .int (dM y m)) (ev_call1 (x := .int y) rfl (run_dY hT (Nat.le_add_left 1 _) y)) (ev_call2 (x := .int y) (y := .int m) rfl rfl (run_dM hT (Nat.le_add_left 2 k) y m h1 h2))).trans rfl) rfl).trans rfl) rfl).trans rfl)

noncomputable def mLen (y m : Int) : Int := if m = 2 then (if leapB y = true then 29 else 28) else if m = 4 ∨ m = 6 ∨ m = 9 ∨ m = 11 then 30 else 31
theorem run_mLen {T : List Fn} (hT : IsT T) {N n : Nat} (hn : 2 ≤ n) (y m : Int) (h1 : 1 ≤ m) (h2 : m ≤ 12) : run T N n 7 [.int y, .int m] = .ok (.int (mLen y m)) := by
  obtain ⟨k, rfl⟩ := Nat.exists_eq_add_of_le' hn
  rw [run_at (hT.at_ 7 p_month_length rfl) rfl]
  refine asg_ (ρ' := [some (.int y), some (.int m), some (.list [.int 31, .int 28, .int 31, .int 30, .int 31, .int 30, .int 31, .int 31, .int 30, .int 31, .int 30, .int 31])]) (d := .list [.int 31, .int 28, .int 31, .int 30, .int 31, .int 30, .int 31, .int 31, .int 30, .int 31, .int 30, .int 31]) rfl rfl ?_
  have key : index (.list [.int 31, .int 28, .int 31, .int 30, .int 31, .int 30, .int 31, .int 31, .int 30, .int 31, .int 30, .int 31]) (.int (m - 1)) = .ok (.int (if m = 2 then 28 else mLen y m)) := by
    rcases twelve h1 h2 with rfl | rfl | rfl | rfl | rfl | rfl | rfl | rfl | rfl | rfl | rfl | rfl <;> rfl
  refine if_ (P := m = 2 ∧ leapB y = true) (ev_and rfl fun _ => (ev_call1 (x := .int y) rfl (run_is_leap hT (Nat.le_add_left 1 k) y)).trans (by rw [Bool.decide_eq_true])) (fun q => ?_) (fun q => ?_)
  · exact (retO_ rfl).trans (by rw [show mLen y m = if leapB y = true then 29 else 28 from if_pos q.1, if_pos q.2])
  · refine (retO_ ((ev_ix rfl rfl).trans key)).trans (congrArg (fun i => R.ok (PyData.int i)) ?_)
    by_cases hm : m = 2
    · rw [if_pos hm, show mLen y m = if leapB y = true then 29 else 28 from if_pos hm, if_neg fun z => q ⟨hm, z⟩]
    · rw [if_neg hm]

end Mine

namespace Mine
open PySem

theorem leapB_iff (y : Int) : leapB y = true ↔ (y % 4 = 0 ∧ (y % 100 ≠ 0 ∨ y % 400 = 0)) := by first | rfl | simp [leapB]
theorem up4 (y : Int) : (y + 1 + 3) / 4 = (y + 3) / 4 + if y % 4 = 0 then 1 else 0 := by split <;> lia
theorem up100 (y : Int) : (y + 1 + 99) / 100 = (y + 99) / 100 + if y % 100 = 0 then 1 else 0 := by split <;> lia
theorem up400 (y : Int) : (y + 1 + 399) / 400 = (y + 399) / 400 + if y % 400 = 0 then 1 else 0 := by split <;> lia
theorem of100 {y : Int} (h : y % 100 = 0) : y % 4 = 0 := by first | assumption | rfl | exact Nat.le_add_left _ _ | decide | lia
theorem of400 {y : Int} (h : y % 400 = 0) : y % 100 = 0 := by first | assumption | rfl | exact Nat.le_add_left _ _ | decide | lia
theorem addUp (y a b c i j k : Int) : 365 * (y + 1) + (a + i) - (b + j) + (c + k) = 365 * y + a - b + c + 365 + (i - j + k) := by first | assumption | rfl | exact Nat.le_add_left _ _ | decide | lia
theorem dY_succ (y : Int) : dY (y + 1) = dY y + 365 + if leapB y = true then 1 else 0 := by
  unfold dY
  rw [up4, up100, up400, addUp]
  refine congrArg _ ?_
  by_cases h4 : y % 4 = 0
  · by_cases h1 : y % 100 = 0
    · by_cases h0 : y % 400 = 0
      · rw [if_pos h4, if_pos h1, if_pos h0, if_pos ((leapB_iff y).mpr ⟨h4, .inr h0⟩)]; rfl
      · rw [if_pos h4, if_pos h1, if_neg h0, if_neg fun q => ((leapB_iff y).mp q).2.elim (fun z => z h1) h0]; rfl
    · rw [if_pos h4, if_neg h1, if_neg fun q => h1 (of400 q), if_pos ((leapB_iff y).mpr ⟨h4, .inl h1⟩)]; rfl
  · rw [if_neg h4, if_neg fun q => h4 (of100 q), if_neg fun q => h4 (of100 (of400 q)), if_neg fun q => h4 ((leapB_iff y).mp q).1]; rfl
theorem dY_up (y : Int) : dY y + 365 ≤ dY (y + 1) := by rw [dY_succ]; split <;> lia
theorem dY_far (a : Int) : ∀ n : Nat, dY a + 365 ≤ dY (a + 1 + n)
  | 0 => by rw [Int.natCast_zero, Int.add_zero]; exact dY_up a
  | n + 1 => by
    have h1 := dY_far a n
    have h2 := dY_up (a + 1 + n)
    rw [Int.natCast_succ, ← Int.add_assoc]
    lia
theorem dY_lt {a b : Int} (h : a < b) : dY a + 365 ≤ dY b := by
  have := dY_far a (b - a - 1).toNat
  rwa [show a + 1 + (((b - a - 1).toNat : Nat) : Int) = b by lia] at this
theorem dY_mono {a b : Int} (h : a ≤ b) : dY a ≤ dY b := by
  rcases Int.lt_or_eq_of_le h with q | q
  · have := dY_lt q; lia
  · rw [q]; exact Int.le_refl _

noncomputable def cM (y rest : Int) : Nat → Int
  | 0 => 1
  | m + 1 => if dM y (m + 1) ≤ rest then m + 1 else cM y rest m

theorem dM_one (y : Int) : dM y 1 = 0 := by first | rfl | simp [dM, aheadC]

theorem cM_spec (y rest : Int) (h0 : 0 ≤ rest) : ∀ m : Nat, 1 ≤ m → 1 ≤ cM y rest m ∧ cM y rest m ≤ m ∧ dM y (cM y rest m) ≤ rest ∧ (∀ k : Int, cM y rest m < k → k ≤ m → rest < dM y k) := by
  intro m
  induction m with
  | zero => intro h; lia
  | succ m ih =>
    intro _
    rw [cM]
    split
    · rename_i h
      exact ⟨by omega, by simp, h, fun k h1 h2 => absurd h1 (by rw [show ((m + 1 : Nat) : Int) = m + 1 from rfl] at h2; omega)⟩
    · rename_i h
      by_cases hm : m = 0
      · subst hm; simp [dM_one] at h; lia
      · obtain ⟨a, b, c, d⟩ := ih (by first | assumption | rfl | exact Nat.le_add_left _ _ | decide | lia)
        refine ⟨a, by first | assumption | rfl | exact Nat.le_add_left _ _ | decide | lia, c, fun k h1 h2 => ?_⟩
        by_cases hk : k ≤ m
        · exact d k h1 hk
        · have : k = m + 1 := by push_cast at h2; lia
          subst this; lia

theorem loop_month {T : List Fn} (hT : IsT T) {N n : Nat} (hn : 2 ≤ n) (days y rest : Int) (h0 : 0 ≤ rest) : ∀ (m k : Nat), 1 ≤ m → m ≤ 12 →
    loopW (fun ρ => ev (run T N n) (.cmp .gt (.call 2 [(.loc 1), (.loc 3)]) (.loc 2)) ρ) (fun ρ => execs (run T N n) N [(.asg 3 (.bin .sub (.loc 3) (.cst (.int 1))))] ρ) (k + m)
      [some (.int days), some (.int y), some (.int rest), some (.int m)] = .ok (.next [some (.int days), some (.int y), some (.int rest), some (.int (cM y rest m))]) := by
  intro m
  induction m with
  | zero => intro k h; lia
  | succ m ih =>
    intro k _ h2
    rw [cM]
    by_cases h : dM y (m + 1) ≤ rest
    · rw [if_pos h, ← Nat.add_assoc, loopW_false]
      · first | rfl | simp
      · simp [run_dM hT hn y (m + 1) (by first | assumption | rfl | exact Nat.le_add_left _ _ | decide | lia) (by first | assumption | rfl | exact Nat.le_add_left _ _ | decide | lia)]; lia
    · rw [if_neg h, ← Nat.add_assoc]
      by_cases hm : m = 0
      · subst hm; simp [dM_one] at h; lia
      · rw [loopW_true (ρ' := [some (.int days), some (.int y), some (.int rest), some (.int m)]), ih k (by first | assumption | rfl | exact Nat.le_add_left _ _ | decide | lia) (by first | assumption | rfl | exact Nat.le_add_left _ _ | decide | lia)]
        · simp [run_dM hT hn y (m + 1) (by first | assumption | rfl | exact Nat.le_add_left _ _ | decide | lia) (by first | assumption | rfl | exact Nat.le_add_left _ _ | decide | lia)]; lia
        · first | rfl | simp [execsE_nil, execsE_cons, execE_ret, execE_asg, execE_asgT, execE_ite, execE_whl, execE_forRange, execE_forTup, execE_forZip, execE_raise, execE_tryAsg]

noncomputable def cY0 (days : Int) : Int := days * 400 / 146097
noncomputable def cY (days : Int) : Int := if dY (cY0 days) > days then cY0 days - 1 else if dY (cY0 days + 1) ≤ days then cY0 days + 1 else cY0 days
noncomputable def cR (days : Int) : Int := days - dY (cY days)

theorem cY_spec (days : Int) : dY (cY days) ≤ days ∧ days < dY (cY days + 1) := by
  unfold cY cY0
  generalize h : days * 400 / 146097 = y
  have h1 : dY (y - 1) ≤ days := by unfold dY; lia
  have h2 : days < dY (y + 2) := by unfold dY; lia
  split
  · exact ⟨h1, by rw [show y - 1 + 1 = y by first | assumption | rfl | exact Nat.le_add_left _ _ | decide | lia]; lia⟩
  · split
    · exact ⟨by assumption, by rw [show y + 1 + 1 = y + 2 by first | assumption | rfl | exact Nat.le_add_left _ _ | decide | lia]; exact h2⟩
    · lia

noncomputable def cMo (days : Int) : Int := cM (cY days) (cR days) 12
noncomputable def cD (days : Int) : Int := cR days - dM (cY days) (cMo days) + 1

theorem cR_nonneg (days : Int) : 0 ≤ cR days := by have := (cY_spec days).1; unfold cR; lia

theorem run_cFD {T : List Fn} (hT : IsT T) {N n : Nat} (hn : 3 ≤ n) (hN : 12 ≤ N) (days : Int) :
    run T N n 4 [.int days] = .ok (.tuple [.int (cY days), .int (cMo days), .int (cD days)]) := by
  obtain ⟨k, rfl⟩ := Nat.exists_eq_add_of_le' hn
  obtain ⟨q, rfl⟩ : ∃ q, N = q + 12 := ⟨N - 12, by first | assumption | rfl | exact Nat.le_add_left _ _ | decide | lia⟩
  rw [run_at (hT.at_ 4 p_civil_from_days rfl) rfl]
  have hl := loop_month (N := q + 12) hT (n := k + 2) (by first | assumption | rfl | exact Nat.le_add_left _ _ | decide | lia) days (cY days) (cR days) (cR_nonneg days) 12 q (by first | assumption | rfl | exact Nat.le_add_left _ _ | decide | lia) (by first | assumption | rfl | exact Nat.le_add_left _ _ | decide | lia)
  have hm := cM_spec (cY days) (cR days) (cR_nonneg days) 12 (by first | assumption | rfl | exact Nat.le_add_left _ _ | decide | lia)
  have hd := run_dM (N := q + 12) hT (n := k + 2) (by first | assumption | rfl | exact Nat.le_add_left _ _ | decide | lia) (cY days) (cMo days) hm.1 hm.2.1
  have key : ∀ (y : Int), y = cY days → fin (execs (run T (q + 12) (k + 2)) (q + 12) [(.asg 2 (.bin .sub (.loc 0) (.call 1 [(.loc 1)]))),
      (.asg 3 (.cst (.int 12))),
      (.whl (.cmp .gt (.call 2 [(.loc 1), (.loc 3)]) (.loc 2)) [(.asg 3 (.bin .sub (.loc 3) (.cst (.int 1))))]),
      (.ret (.tup [(.loc 1), (.loc 3), (.bin .add (.bin .sub (.loc 2) (.call 2 [(.loc 1), (.loc 3)])) (.cst (.int 1)))]))]
      [some (.int days), some (.int y), none, none]) = .ok (.tuple [.int (cY days), .int (cMo days), .int (cD days)]) := by
    intro y hy
    subst hy
    rw [execs_step (ρ' := [some (.int days), some (.int (cY days)), some (.int (cR days)), none]) (by first | rfl | simp [execE_ret, execE_asg, execE_asgT, execE_ite, execE_whl, execE_forRange, execE_forTup, execE_forZip, execE_raise, execE_tryAsg, run_dY hT, cR])]
    rw [execs_step (ρ' := [some (.int days), some (.int (cY days)), some (.int (cR days)), some (.int 12)]) (by first | rfl | simp [execE_ret, execE_asg, execE_asgT, execE_ite, execE_whl, execE_forRange, execE_forTup, execE_forZip, execE_raise, execE_tryAsg])]
    rw [execs_step (by ((first | rewrite [execE_ret] | rewrite [execE_asg] | rewrite [execE_asgT] | rewrite [execE_ite] | rewrite [execE_whl] | rewrite [execE_forRange] | rewrite [execE_forTup] | rewrite [execE_forZip] | rewrite [execE_raise] | rewrite [execE_tryAsg]); try with_reducible rfl); rw [show ((12 : Int) = ((12 : Nat) : Int)) from rfl, hl]; rfl)]
    rw [show cM (cY days) (cR days) 12 = cMo days from rfl]
    first | rfl | simp [execsE_nil, execsE_cons, execE_ret, execE_asg, execE_asgT, execE_ite, execE_whl, execE_forRange, execE_forTup, execE_forZip, execE_raise, execE_tryAsg, hd, cD]
  simp only [p_civil_from_days, start, List.map_cons, List.map_nil, Nat.reduceSub, List.replicate_succ, List.replicate_zero, List.cons_append, List.nil_append]
  rw [execs_step (ρ' := [some (.int days), some (.int (cY0 days)), none, none]) (by first | rfl | simp [execE_ret, execE_asg, execE_asgT, execE_ite, execE_whl, execE_forRange, execE_forTup, execE_forZip, execE_raise, execE_tryAsg, smallI, cY0])]
  rw [execs_if (c := decide (days < dY (cY0 days))) (by first | rfl | simp [run_dY hT])]
  by_cases h1 : days < dY (cY0 days)
  · simp only [h1, decide_true, cond_true, List.cons_append, List.nil_append]
    rw [execs_step (ρ' := [some (.int days), some (.int (cY0 days - 1)), none, none]) (by first | rfl | simp [execE_ret, execE_asg, execE_asgT, execE_ite, execE_whl, execE_forRange, execE_forTup, execE_forZip, execE_raise, execE_tryAsg])]
    exact key _ (by unfold cY; rw [if_pos h1])
  · simp only [h1, decide_false, cond_false, List.cons_append, List.nil_append]
    rw [execs_if (c := decide (dY (cY0 days + 1) ≤ days)) (by first | rfl | simp [run_dY hT])]
    by_cases h2 : dY (cY0 days + 1) ≤ days
    · simp only [h2, decide_true, cond_true, List.cons_append, List.nil_append]
      rw [execs_step (ρ' := [some (.int days), some (.int (cY0 days + 1)), none, none]) (by first | rfl | simp [execE_ret, execE_asg, execE_asgT, execE_ite, execE_whl, execE_forRange, execE_forTup, execE_forZip, execE_raise, execE_tryAsg])]
      exact key _ (by unfold cY; rw [if_neg h1, if_pos h2])
    · simp only [h2, decide_false, cond_false, List.cons_append, List.nil_append]
      exact key _ (by unfold cY; rw [if_neg h1, if_neg h2])
end Mine

set_option genInjectivity false
set_option genSizeOf false
namespace Mine
open PySem

structure St where
  y : Int
  mo : Int
  d : Int
  h : Int
  mi : Int
  se : Int
  ns : Int
  off : Option Int

noncomputable def offD : Option Int → PyData
  | none => .none
  | some i => .int i
@[simp] theorem offD_none : offD none = .none := rfl
@[simp] theorem offD_some (i : Int) : offD (some i) = .int i := rfl
noncomputable def shift (o : Option Int) : Int := o.getD 0
@[simp] theorem shift_none : shift none = 0 := rfl
@[simp] theorem shift_some (i : Int) : shift (some i) = i := rfl
noncomputable abbrev St.D (s : St) : PyData := .tuple [.int s.y, .int s.mo, .int s.d, .int s.h, .int s.mi, .int s.se, .int s.ns, offD s.off]

noncomputable def St.t (s : St) : Int := (dFC s.y s.mo s.d * 24 + s.h) * 60 + s.mi - shift s.off

theorem run_instant {T : List Fn} (hT : IsT T) {N n : Nat} (hn : 4 ≤ n) (s : St) (h1 : 1 ≤ s.mo) (h2 : s.mo ≤ 12) :
    run T N n 5 [s.D] = .ok (.tuple [.int (s.t / 1440), .int (s.t % 1440 * 60 + s.se), .int s.ns]) := by
  obtain ⟨k, rfl⟩ := Nat.exists_eq_add_of_le' hn
  rw [run_at (hT.at_ 5 p_instant rfl) rfl]
  have tail : fin (execs (run T N (k + 3)) N (p_instant.body.drop 2) [some s.D, some (.int (shift s.off)), none, none]) = .ok (.tuple [.int (s.t / 1440), .int (s.t % 1440 * 60 + s.se), .int s.ns]) := by
    refine asg_ (ρ' := [some s.D, some (.int (shift s.off)), some (.int (dFC s.y s.mo s.d)), none]) (d := .int (dFC s.y s.mo s.d)) (ev_call3 (x := .int s.y) (y := .int s.mo) (z := .int s.d) rfl rfl rfl (run_dFC hT (Nat.le_add_left 3 k) s.y s.mo s.d h1 h2)) rfl ?_
    refine asg_ (ρ' := [some s.D, some (.int (shift s.off)), some (.int (dFC s.y s.mo s.d)), some (.int s.t)]) (d := .int s.t) ?_ rfl ?_
    · exact (ev_bin (x := .int ((dFC s.y s.mo s.d * 24 + s.h) * 60 + s.mi)) (y := .int (shift s.off)) ((ev_bin (x := .int ((dFC s.y s.mo s.d * 24 + s.h) * 60)) (y := .int s.mi) ((ev_bin (x := .int (dFC s.y s.mo s.d * 24 + s.h)) (y := .int 60) ((ev_bin (x := .int (dFC s.y s.mo s.d * 24)) (y := .int s.h) ((ev_bin (x := .int (dFC s.y s.mo s.d)) (y := .int 24) rfl rfl).trans (mulR rfl)) rfl).trans rfl) rfl).trans (mulR rfl)) rfl).trans rfl) rfl).trans rfl
    · exact retO_ (ev_tup3 rfl ((ev_bin (x := .int (s.t % 1440 * 60)) (y := .int s.se) ((ev_bin (x := .int (s.t % 1440)) (y := .int 60) rfl rfl).trans (mulR rfl)) rfl).trans rfl) rfl)
  refine asg_ (ρ' := [some s.D, some (offD s.off), none, none]) (d := offD s.off) rfl rfl ?_
  cases ho : s.off with
  | none =>
    rw [ho, shift_none] at tail
    refine take_ rfl (asg_ (d := .int 0) rfl rfl ?_)
    rw [St.D, ho] at tail ⊢; exact tail
  | some o =>
    rw [ho, shift_some] at tail
    refine skip_ rfl ?_
    rw [St.D, ho] at tail ⊢; exact tail

noncomputable def leapAt (t : Int) : Prop := t % 1440 = 1439 ∧ (0 ≤ t / 1440 ∧ t / 1440 < 3652425) ∧ ((cMo (t / 1440) = 6 ∧ cD (t / 1440) = 30) ∨ (cMo (t / 1440) = 12 ∧ cD (t / 1440) = 31))
noncomputable instance (t : Int) : Decidable (leapAt t) := by unfold leapAt; infer_instance

noncomputable def St.plain (s : St) : Prop := (0 ≤ s.y ∧ s.y ≤ 9999) ∧ (1 ≤ s.mo ∧ s.mo ≤ 12) ∧ (1 ≤ s.d ∧ s.d ≤ mLen s.y s.mo) ∧ (0 ≤ s.h ∧ s.h ≤ 23) ∧ (0 ≤ s.mi ∧ s.mi ≤ 59) ∧ (0 ≤ s.ns ∧ s.ns ≤ 999999999) ∧ (-1439 ≤ shift s.off ∧ shift s.off ≤ 1439)
noncomputable instance (s : St) : Decidable s.plain := by unfold St.plain; infer_instance
noncomputable def St.valid (s : St) : Prop := s.plain ∧ ((0 ≤ s.se ∧ s.se ≤ 59) ∨ (s.se = 60 ∧ leapAt s.t))
noncomputable instance (s : St) : Decidable s.valid := by unfold St.valid; infer_instance

theorem run_is_valid {T : List Fn} (hT : IsT T) {N n : Nat} (hn : 5 ≤ n) (hN : 12 ≤ N) (s : St) : run T N n 8 [s.D] = .ok (.bool (decide s.valid)) := by
  obtain ⟨k, rfl⟩ := Nat.exists_eq_add_of_le' hn
  rw [run_at (hT.at_ 8 p_is_valid rfl) rfl]
  obtain ⟨y, mo, d, h, mi, se, ns, off⟩ := s
  refine asgT_ (ρ' := [some (St.D ⟨y, mo, d, h, mi, se, ns, off⟩), some (.int y), some (.int mo), some (.int d), some (.int h), some (.int mi), some (.int se), some (.int ns), some (offD off), none, none, none, none]) (l := [.int y, .int mo, .int d, .int h, .int mi, .int se, .int ns, offD off]) rfl rfl ?_
  have no : ∀ {C : Calls} {ρ : Env'} {r : List PS}, ¬ St.valid ⟨y, mo, d, h, mi, se, ns, off⟩ → fin (execs C N (.ret (.cst (.bool false)) :: r) ρ) = .ok (.bool (decide (St.valid ⟨y, mo, d, h, mi, se, ns, off⟩))) := fun h1 => (retO_ rfl).trans (by rw [decide_eq_false h1])
  refine if_ (P := ¬ (0 ≤ y ∧ y ≤ 9999)) (ev_not (ev_chainLe rfl rfl rfl)) (fun q => no fun v => q v.1.1) (fun q => ?_)
  have a1 := Classical.not_not.mp q; clear q
  refine if_ (P := ¬ (1 ≤ mo ∧ mo ≤ 12)) (ev_not (ev_chainLe rfl rfl rfl)) (fun q => no fun v => q v.1.2.1) (fun q => ?_)
  have a2 := Classical.not_not.mp q; clear q
  refine if_ (P := ¬ (1 ≤ d ∧ d ≤ mLen y mo)) (ev_not (ev_chainLe rfl rfl (ev_call2 (x := .int y) (y := .int mo) rfl rfl (run_mLen hT (Nat.le_add_left 2 _) y mo a2.1 a2.2)))) (fun q => no fun v => q v.1.2.2.1) (fun q => ?_)
  have a3 := Classical.not_not.mp q; clear q
  refine if_ (P := ¬ (0 ≤ h ∧ h ≤ 23)) (ev_not (ev_chainLe rfl rfl rfl)) (fun q => no fun v => q v.1.2.2.2.1) (fun q => ?_)
  have a4 := Classical.not_not.mp q; clear q
  refine if_ (P := ¬ (0 ≤ mi ∧ mi ≤ 59)) (ev_not (ev_chainLe rfl rfl rfl)) (fun q => no fun v => q v.1.2.2.2.2.1) (fun q => ?_)
  have a5 := Classical.not_not.mp q; clear q
  refine if_ (P := ¬ (0 ≤ ns ∧ ns ≤ 999999999)) (ev_not (ev_chainLe rfl rfl rfl)) (fun q => no fun v => q v.1.2.2.2.2.2.1) (fun q => ?_)
  have a6 := Classical.not_not.mp q; clear q
  have off_ : ∀ {w : R PyData}, (¬ St.valid ⟨y, mo, d, h, mi, se, ns, off⟩ → .ok (.bool false) = w) → ((-1439 ≤ shift off ∧ shift off ≤ 1439) → fin (execs (run T N (k + 4)) N (p_is_valid.body.drop 8) [some (St.D ⟨y, mo, d, h, mi, se, ns, off⟩), some (.int y), some (.int mo), some (.int d), some (.int h), some (.int mi), some (.int se), some (.int ns), some (offD off), none, none, none, none]) = w) →
      fin (execs (run T N (k + 4)) N (p_is_valid.body.drop 7) [some (St.D ⟨y, mo, d, h, mi, se, ns, off⟩), some (.int y), some (.int mo), some (.int d), some (.int h), some (.int mi), some (.int se), some (.int ns), some (offD off), none, none, none, none]) = w := fun {w} k1 k2 => by
    cases off with
    | none => exact skip_ rfl (k2 (by decide))
    | some o => exact take_ rfl (if_ (P := ¬ (-1439 ≤ o ∧ o ≤ 1439)) (ev_not (ev_chainLe rfl rfl rfl)) (fun q => (retO_ rfl).trans (k1 fun v => q v.1.2.2.2.2.2.2)) (fun q => k2 (Classical.not_not.mp q)))
  refine off_ (fun h1 => by rw [decide_eq_false h1]) (fun a7 => ?_)
  clear off_
  have pl : St.plain ⟨y, mo, d, h, mi, se, ns, off⟩ := ⟨a1, a2, a3, a4, a5, a6, a7⟩
  refine if_ (P := 0 ≤ se ∧ se ≤ 59) (ev_chainLe rfl rfl rfl) (fun a8 => (retO_ rfl).trans (by rw [decide_eq_true (show St.valid ⟨y, mo, d, h, mi, se, ns, off⟩ from ⟨pl, .inl a8⟩)])) (fun a8 => ?_)
  refine if_ (P := ¬ se = 60) ((ev_cmp (x := .int se) (y := .int 60) rfl rfl).trans (by rw [cmpop_2, deq_1, decide_not]; rfl)) (fun a9 => no fun v => v.2.elim a8 fun q => a9 q.1) (fun q => ?_)
  have a9 := Classical.not_not.mp q; clear q
  subst a9
  have hi := run_instant (N := N) hT (n := k + 4) (by first | assumption | rfl | exact Nat.le_add_left _ _ | decide | lia) ⟨y, mo, d, h, mi, 59, ns, off⟩ a2.1 a2.2
  have et : St.t ⟨y, mo, d, h, mi, 59, ns, off⟩ = St.t ⟨y, mo, d, h, mi, 60, ns, off⟩ := rfl
  rw [et] at hi
  generalize ht : St.t ⟨y, mo, d, h, mi, 60, ns, off⟩ = t at hi
  refine asg_ (ρ' := [some (St.D ⟨y, mo, d, h, mi, 60, ns, off⟩), some (.int y), some (.int mo), some (.int d), some (.int h), some (.int mi), some (.int 60), some (.int ns), some (offD off), some (.tuple [.int (t / 1440), .int (t % 1440 * 60 + 59), .int ns]), none, none, none]) (d := .tuple [.int (t / 1440), .int (t % 1440 * 60 + 59), .int ns]) (ev_call1 (x := St.D ⟨y, mo, d, h, mi, 59, ns, off⟩) rfl hi) rfl ?_
  refine asg_ (ρ' := [some (St.D ⟨y, mo, d, h, mi, 60, ns, off⟩), some (.int y), some (.int mo), some (.int d), some (.int h), some (.int mi), some (.int 60), some (.int ns), some (offD off), some (.tuple [.int (t / 1440), .int (t % 1440 * 60 + 59), .int ns]), some (.int (t / 1440)), none, none]) (d := .int (t / 1440)) rfl rfl ?_
  refine asg_ (ρ' := [some (St.D ⟨y, mo, d, h, mi, 60, ns, off⟩), some (.int y), some (.int mo), some (.int d), some (.int h), some (.int mi), some (.int 60), some (.int ns), some (offD off), some (.tuple [.int (t / 1440), .int (t % 1440 * 60 + 59), .int ns]), some (.int (t / 1440)), some (.int (t % 1440 * 60 + 59)), none]) (d := .int (t % 1440 * 60 + 59)) rfl rfl ?_
  have hv : St.valid ⟨y, mo, d, h, mi, 60, ns, off⟩ ↔ leapAt t := by
    rw [← ht]
    exact ⟨fun v => v.2.elim (fun q => absurd q.2 (show ¬ ((60 : Int) ≤ 59) by decide)) fun q => q.2, fun v => ⟨pl, .inr ⟨rfl, v⟩⟩⟩
  have dv : decide (St.valid ⟨y, mo, d, h, mi, 60, ns, off⟩) = decide (leapAt t) := by simp only [hv]
  rw [dv]
  clear no
  refine if_ (P := ¬ t % 1440 * 60 + 59 = 86399) ((ev_cmp (x := .int (t % 1440 * 60 + 59)) (y := .int 86399) rfl rfl).trans (by rw [cmpop_2, deq_1, decide_not]; rfl)) (fun b1 => (retO_ rfl).trans (by rw [decide_eq_false fun v => b1 (by have := v.1; lia)])) (fun q => ?_)
  have b1 : t % 1440 = 1439 := by lia
  refine if_ (P := ¬ (0 ≤ t / 1440 ∧ t / 1440 < 3652425)) (ev_not (ev_chainLt rfl rfl rfl)) (fun b2 => (retO_ rfl).trans (by rw [decide_eq_false fun v => b2 v.2.1])) (fun q => ?_)
  have b2 := Classical.not_not.mp q; clear q
  refine asg_ (ρ' := [some (St.D ⟨y, mo, d, h, mi, 60, ns, off⟩), some (.int y), some (.int mo), some (.int d), some (.int h), some (.int mi), some (.int 60), some (.int ns), some (offD off), some (.tuple [.int (t / 1440), .int (t % 1440 * 60 + 59), .int ns]), some (.int (t / 1440)), some (.int (t % 1440 * 60 + 59)), some (.tuple [.int (cY (t / 1440)), .int (cMo (t / 1440)), .int (cD (t / 1440))])]) (d := .tuple [.int (cY (t / 1440)), .int (cMo (t / 1440)), .int (cD (t / 1440))]) (ev_call1 (x := .int (t / 1440)) rfl (run_cFD hT (Nat.le_add_left 3 _) hN (t / 1440))) rfl ?_
  refine if_ (P := cMo (t / 1440) = 6 ∧ cD (t / 1440) = 30) (ev_and rfl fun _ => rfl) (fun b3 => (retO_ rfl).trans (by rw [decide_eq_true (show leapAt t from ⟨b1, b2, .inl b3⟩)])) (fun b3 => ?_)
  refine if_ (P := cMo (t / 1440) = 12 ∧ cD (t / 1440) = 31) (ev_and rfl fun _ => rfl) (fun b4 => (retO_ rfl).trans (by rw [decide_eq_true (show leapAt t from ⟨b1, b2, .inr b4⟩)])) (fun b4 => ?_)
  exact (retO_ rfl).trans (by rw [decide_eq_false fun v => v.2.2.elim b3 b4])
end Mine

namespace Mine
open PySem

theorem itoa_nat (n : Nat) : itoa (n : Int) = (Nat.toDigits 10 n).map Char.toNat := by
  unfold itoa
  rw [Str.ofString_eq_toList]
  show List.map Char.toNat (toString n).toList = _
  rw [Nat.toString_eq_ofList_toDigits]
  first | rfl | simp
theorem digitChar_toNat {n : Nat} (h : n < 10) : n.digitChar.toNat = 48 + n := by
  have : n = 0 ∨ n = 1 ∨ n = 2 ∨ n = 3 ∨ n = 4 ∨ n = 5 ∨ n = 6 ∨ n = 7 ∨ n = 8 ∨ n = 9 := by first | assumption | rfl | exact Nat.le_add_left _ _ | decide | lia
  rcases this with h | h | h | h | h | h | h | h | h | h <;> subst h <;> rfl
theorem itoa_lt {n : Nat} (h : n < 10) : itoa (n : Int) = [48 + n] := by
  rw [itoa_nat, Nat.toDigits_of_lt_base h]
  first | rfl | simp [digitChar_toNat h]
theorem itoa_ge {n : Nat} (h : 10 ≤ n) : itoa (n : Int) = itoa ((n / 10 : Nat) : Int) ++ [48 + n % 10] := by
  rw [itoa_nat, itoa_nat, Nat.toDigits_of_base_le (by first | assumption | rfl | exact Nat.le_add_left _ _ | decide | lia) h]
  first | rfl | simp [digitChar_toNat (show n % 10 < 10 by first | assumption | rfl | exact Nat.le_add_left _ _ | decide | lia)]
theorem itoa_neg (n : Nat) : itoa (Int.negSucc n) = 45 :: itoa ((n + 1 : Nat) : Int) := by
  unfold itoa
  rw [Str.ofString_eq_toList, Str.ofString_eq_toList]
  show List.map Char.toNat ("-" ++ toString (n + 1)).toList = 45 :: List.map Char.toNat (toString (n + 1)).toList
  first | rfl | simp

noncomputable def dig : Nat → Nat → List Nat
  | 0, _ => []
  | w + 1, v => dig w (v / 10) ++ [48 + v % 10]
theorem dig_length (w : Nat) : ∀ v, (dig w v).length = w := by
  induction w with
  | zero => intro v; rfl
  | succ w ih => intro v; first | rfl | simp [dig, ih]
theorem dig_zero (w : Nat) : dig w 0 = List.replicate w 48 := by
  induction w with
  | zero => rfl
  | succ w ih => rw [dig, Nat.zero_div, ih, List.replicate_succ']

noncomputable def padL (i : Int) (w : Nat) : List Nat := List.replicate (w - (itoa i).length) 48 ++ itoa i

theorem padL_dig (w : Nat) : ∀ v : Nat, v < 10 ^ (w + 1) → padL (v : Int) (w + 1) = dig (w + 1) v := by
  induction w with
  | zero =>
    intro v h
    have h' : v < 10 := by simpa using h
    first | rfl | simp [padL, itoa_lt h', dig, Nat.mod_eq_of_lt h']
  | succ w ih =>
    intro v h
    by_cases h' : v < 10
    · rw [padL, itoa_lt h', dig, Nat.div_eq_of_lt h', dig_zero, Nat.mod_eq_of_lt h']; first | rfl | simp
    · have := ih (v / 10) (by rw [Nat.pow_succ] at h; lia)
      rw [dig, ← this, padL, padL, itoa_ge (by first | assumption | rfl | exact Nat.le_add_left _ _ | decide | lia)]
      first | rfl | simp

theorem pad_loop {C : Calls} {K : Nat} {v : Int} {w : Nat} (hw : w ≤ 9) : ∀ (j m : Nat) (x : List Nat), x.length + j = w ∨ (j = 0 ∧ w ≤ x.length) →
      loopW (fun ρ => ev C (.cmp .lt (.b1 .len (.loc 2)) (.loc 1)) ρ) (fun ρ => execs C K [(.asg 2 (.bin .add (.cst (.str (PySem.Str.mk #[48]))) (.loc 2)))] ρ) (m + j + 1)
        [some (.int v), some (.int w), some (dS x)] = .ok (.next [some (.int v), some (.int w), some (dS (List.replicate j 48 ++ x))]) := by
  have tst : ∀ x : List Nat, ev C (.cmp .lt (.b1 .len (.loc 2)) (.loc 1)) [some (.int v), some (.int w), some (dS x)] = .ok (.bool (decide ((x.length : Int) < w))) := fun x => rfl
  intro j
  induction j with
  | zero => exact fun m x h => loopW_false ((tst x).trans (by rw [decide_eq_false (by clear tst; lia)]))
  | succ j ih =>
    intro m x h
    have h1 : x.length + 1 + j = w := by clear ih tst; lia
    have h2 : x.length + 1 ≤ w := h1 ▸ Nat.le_add_right _ _
    refine (loopW_true (n := m + j + 1) ((tst x).trans (by rw [decide_eq_true (Int.ofNat_lt.mpr h2)])) ((execs_step (exec_asg (ev_add (x := [48]) (y := x) rfl rfl ?_))).trans rfl)).trans ((ih m (48 :: x) (.inl h1)).trans ?_)
    · exact Nat.le_trans (Nat.le_of_eq (Nat.add_comm _ _)) (Nat.le_trans h2 (Nat.le_trans hw (by decide)))
    · rw [List.replicate_succ', List.append_assoc]; rfl
theorem back {N d : Nat} (h : d + 1 ≤ N) : N - 1 - d + d + 1 = N := by lia
theorem run_pad {T : List Fn} (hT : IsT T) {N n : Nat} (hn : 1 ≤ n) (hN : 10 ≤ N) (v : Int) (w : Nat) (hv : smallI v = true) (hw : w ≤ 9) (hl : (itoa v).length ≤ 100) :
    run T N n 11 [.int v, .int w] = .ok (dS (padL v w)) := by
  obtain ⟨k, rfl⟩ := Nat.exists_eq_add_of_le' hn
  rw [run_at (hT.at_ 11 p_pad rfl) rfl]
  refine asg_ (ρ' := [some (.int v), some (.int w), some (dS (itoa v))]) (d := dS (itoa v)) (show R.when (smallI v) (dS (itoa v)) = _ by rw [hv]; rfl) rfl ?_
  have h := pad_loop (C := run T N k) (K := N) (v := v) hw (w - (itoa v).length) (N - 1 - (w - (itoa v).length)) (itoa v) (by lia)
  rw [back (by lia)] at h
  refine (congrArg fin (execs_step (ρ' := [some (.int v), some (.int w), some (dS (padL v w))]) ?_)).trans (retO_ rfl)
  exact congrArg noExc h

noncomputable def digV (l : List Nat) : Int := if l.all digit = true then digitsVal l else -1

theorem subAt_one (c : Nat) : ∀ l : List Nat, subAt [c] l = l.contains c
  | [] => rfl
  | d :: l => by
    rw [subAt, subAt_one c l, List.contains_cons]
    show ((c == d) && true || l.contains c) = _
    rw [Bool.and_true]
theorem digit_iff (c : Nat) : subAt [c] [48, 49, 50, 51, 52, 53, 54, 55, 56, 57] = digit c := by
  rw [subAt_one]
  by_cases h : c < 58
  · exact (by decide : ∀ c, c < 58 → [48, 49, 50, 51, 52, 53, 54, 55, 56, 57].contains c = digit c) c h
  · have h1 : [48, 49, 50, 51, 52, 53, 54, 55, 56, 57].contains c = false := by
      rw [Bool.eq_false_iff]
      intro q
      exact h (of_decide_eq_true (List.all_eq_true.mp (by decide : [48, 49, 50, 51, 52, 53, 54, 55, 56, 57].all (fun d => decide (d < 58)) = true) c (List.contains_iff_mem.mp q)))
    rw [h1]
    unfold digit
    rw [decide_eq_false (p := c ≤ 57) (fun q => h (Nat.lt_succ_of_le q)), Bool.and_false]

theorem digitsVal_snoc (l : List Nat) (c : Nat) : digitsVal (l ++ [c]) = digitsVal l * 10 + ((c : Int) - 48) := by first | rfl | simp [digitsVal, List.foldl_append]

theorem index_pre (pre z : List Nat) (i : Nat) (h : i < z.length) (k : Int) (hk : k = ((pre.length + i : Nat) : Int)) : index (dS (pre ++ z)) (.int k) = .ok (dS [z[i]]) := by
  subst hk
  have : pre.length + i < pre.length + z.length := by first | assumption | rfl | exact Nat.le_add_left _ _ | decide | lia
  have e : idxAt ((pre.length + i : Nat) : Int) (pre ++ z).length = some (pre.length + i) := by
    unfold idxAt
    rw [if_pos (by first | assumption | rfl | exact Nat.le_add_left _ _ | decide | lia), if_pos (by simp; lia)]
    simp; lia
  rw [index_3]
  dsimp only [sl_mk, List.toList_toArray]
  rw [e]
  first | rfl | simp [h]

theorem cut_self (t : List Nat) (a : Nat) : cut t a a = [] := by
  unfold cut
  exact List.drop_eq_nil_of_le (by rw [List.length_take]; exact Nat.min_le_left _ _)
theorem dig_loop {C : Calls} {N : Nat} {t : List Nat} {a b : Nat} (hb : b ≤ t.length) : ∀ (m k' j : Nat) (c : Option PyData), a ≤ j → j + m = b → (cut t a j).all digit = true →
    ∃ c', loopW (fun ρ => ev C (.cmp .lt (.loc 4) (.loc 2)) ρ)
        (fun ρ => execs C N [(.asg 5 (.idx (.loc 0) (.loc 4))), (.ite (.cmp .notIn (.loc 5) (.cst (.str (PySem.Str.mk #[48, 49, 50, 51, 52, 53, 54, 55, 56, 57])))) [(.ret (.neg (.cst (.int 1))))] []),
          (.asg 3 (.bin .add (.bin .mul (.loc 3) (.cst (.int 10))) (.bin .sub (.b1 .ord (.loc 5)) (.cst (.int 48))))), (.asg 4 (.bin .add (.loc 4) (.cst (.int 1))))] ρ) (k' + m + 1)
        [some (dS t), some (.int a), some (.int b), some (.int (digitsVal (cut t a j))), some (.int j), c] =
      (if (cut t a b).all digit = true then .ok (.next [some (dS t), some (.int a), some (.int b), some (.int (digitsVal (cut t a b))), some (.int b), c']) else .ok (.ret (.int (-1)))) := by
  have tst : ∀ (V : Int) (j : Nat) (c : Option PyData), ev C (.cmp .lt (.loc 4) (.loc 2)) [some (dS t), some (.int a), some (.int b), some (.int V), some (.int j), c] = .ok (.bool (decide ((j : Int) < b))) := fun _ _ _ => rfl
  intro m
  induction m with
  | zero =>
    intro k' j c h1 h2 h3
    obtain rfl : j = b := h2
    exact ⟨c, by rw [if_pos h3]; exact loopW_false ((tst _ _ _).trans (by rw [decide_eq_false (Int.lt_irrefl _)]))⟩
  | succ m ih =>
    intro k' j c h1 h2 h3
    have h2' : j + 1 + m = b := by rw [← h2, Nat.add_assoc, Nat.add_comm 1 m]
    have jb : j < b := h2' ▸ Nat.le_add_right _ _
    have hj : j < t.length := Nat.lt_of_lt_of_le jb hb
    have hs : cut t a (j + 1) = cut t a j ++ [t[j]] := by
      unfold cut
      rw [List.take_succ_eq_append_getElem hj, List.drop_append_of_le_length (by rw [List.length_take, Nat.min_eq_left (Nat.le_of_lt hj)]; exact h1)]
    have hx : index (dS t) (.int j) = .ok (dS [t[j]]) := by
      have := index_pre [] t j hj (j : Int) (by rw [List.length_nil, Nat.zero_add])
      rwa [List.nil_append] at this
    have hin : ∀ V : Int, ev C (.cmp .notIn (.loc 5) (.cst (.str (PySem.Str.mk #[48, 49, 50, 51, 52, 53, 54, 55, 56, 57])))) [some (dS t), some (.int a), some (.int b), some (.int V), some (.int j), some (dS [t[j]])] = .ok (.bool (decide (digit t[j] = false))) := fun V => by
      show R.ok (PyData.bool (!(subAt [t[j]] [48, 49, 50, 51, 52, 53, 54, 55, 56, 57]))) = _
      rw [digit_iff]
      cases digit t[j] <;> rfl
    have lt := (tst (digitsVal (cut t a j)) j c).trans (by rw [decide_eq_true (Int.ofNat_lt.mpr jb)])
    by_cases hd : digit t[j] = true
    · obtain ⟨c', e⟩ := ih k' (j + 1) (some (dS [t[j]])) (Nat.le_succ_of_le h1) h2' (by rw [hs, List.all_append, h3]; exact (Bool.and_true _).trans hd)
      rw [hs, digitsVal_snoc] at e
      refine ⟨c', (loopW_true (n := k' + m + 1) lt ?_).trans e⟩
      refine (execs_step (exec_asg ((ev_ix rfl rfl).trans hx))).trans ((execs_ifN (c := digit t[j] = false) (by rw [hd]; decide) (hin _)).trans ?_)
      refine (execs_step (exec_asg (d := .int (digitsVal (cut t a j) * 10 + ((t[j] : Int) - 48))) ((ev_bin (x := .int (digitsVal (cut t a j) * 10)) (y := .int ((t[j] : Int) - 48)) ((ev_bin (x := .int (digitsVal (cut t a j))) (y := .int 10) rfl rfl).trans (mulR rfl)) rfl).trans rfl))).trans rfl
    · have hall : ¬ (cut t a b).all digit = true := by
        intro q
        have : t[j] ∈ cut t a b := by
          unfold cut
          rw [List.mem_iff_getElem?]
          refine ⟨j - a, ?_⟩
          rw [List.getElem?_drop, Nat.add_sub_cancel' h1, List.getElem?_take, if_pos jb]
          exact List.getElem?_eq_getElem hj
        exact hd (List.all_eq_true.mp q _ this)
      refine ⟨c, ?_⟩
      rw [if_neg hall]
      exact loopW_ret lt ((execs_step (exec_asg ((ev_ix rfl rfl).trans hx))).trans ((execs_ifP (c := digit t[j] = false) (Bool.eq_false_iff.mpr hd) (hin _)).trans rfl))
theorem run_digits {T : List Fn} (hT : IsT T) {N n : Nat} (hn : 1 ≤ n) (t : List Nat) (a b : Nat) (hab : a ≤ b) (hb : b ≤ t.length) (hN : b - a + 1 ≤ N) :
    run T N n 9 [dS t, .int a, .int b] = .ok (.int (digV (cut t a b))) := by
  obtain ⟨k, rfl⟩ := Nat.exists_eq_add_of_le' hn
  rw [run_at (hT.at_ 9 p_digits rfl) rfl]
  refine asg_ (ρ' := [some (dS t), some (.int a), some (.int b), some (.int 0), none, none]) (d := .int 0) rfl rfl ?_
  refine asg_ (ρ' := [some (dS t), some (.int a), some (.int b), some (.int 0), some (.int a), none]) (d := .int a) rfl rfl ?_
  obtain ⟨c', e⟩ := dig_loop (C := run T N k) (N := N) (a := a) hb (b - a) (N - 1 - (b - a)) a none (Nat.le_refl a) (Nat.add_sub_cancel' hab) (by rw [cut_self]; rfl)
  rw [back hN, cut_self] at e
  unfold digV
  by_cases hall : (cut t a b).all digit = true
  · rw [if_pos hall] at e ⊢
    refine (congrArg fin (execs_step (ρ' := [some (dS t), some (.int a), some (.int b), some (.int (digitsVal (cut t a b))), some (.int b), c']) ?_)).trans (retO_ rfl)
    exact congrArg noExc e
  · rw [if_neg hall] at e ⊢
    refine congrArg fin (execs_ret (d := .int (-1)) ?_)
    exact congrArg noExc e
end Mine

namespace Mine
open PySem

noncomputable def zoneM : List Nat → Option (Option Int)
  | [] => none
  | c :: q =>
    if c = 90 ∨ c = 122 then (if q = [] then some (some 0) else none)
    else if c = 43 ∨ c = 45 then
      match q with
      | [a1, a2, m, b1, b2] =>
        if digV [a1, a2] < 0 ∨ digV [b1, b2] < 0 ∨ m ≠ 58 then none
        else if digV [a1, a2] > 23 ∨ digV [b1, b2] > 59 then none
        else if c = 45 then (if -(digV [a1, a2] * 60 + digV [b1, b2]) = 0 then some none else some (some (-(digV [a1, a2] * 60 + digV [b1, b2]))))
        else some (some (digV [a1, a2] * 60 + digV [b1, b2]))
      | _ => none
    else none

noncomputable def fracM : List Nat → Option (Int × List Nat)
  | [] => some (0, [])
  | c :: r => if c = 46 then
      (if (r.takeWhile digit).length < 1 ∨ (r.takeWhile digit).length > 9 then none
        else some (digitsVal (r.takeWhile digit) * 10 ^ (9 - (r.takeWhile digit).length), r.dropWhile digit))
    else some (0, c :: r)

noncomputable def tailM (y mo d h mi se ns : Int) (z : List Nat) : Option St :=
  match zoneM z with
  | none => none
  | some off => if (St.mk y mo d h mi se ns off).valid then some ⟨y, mo, d, h, mi, se, ns, off⟩ else none

noncomputable def parse20 (y1 y2 y3 y4 a m1 m2 b d1 d2 x h1 h2 e i1 i2 f s1 s2 c : Nat) (r : List Nat) : Option St :=
  if digV [y1, y2, y3, y4] < 0 ∨ digV [m1, m2] < 0 ∨ digV [d1, d2] < 0 then none
  else if digV [h1, h2] < 0 ∨ digV [i1, i2] < 0 ∨ digV [s1, s2] < 0 then none
  else if a ≠ 45 ∨ b ≠ 45 then none
  else if x ≠ 84 ∧ x ≠ 116 then none
  else if e ≠ 58 ∨ f ≠ 58 then none
  else match fracM (c :: r) with
    | none => none
    | some (ns, z) => tailM (digV [y1, y2, y3, y4]) (digV [m1, m2]) (digV [d1, d2]) (digV [h1, h2]) (digV [i1, i2]) (digV [s1, s2]) ns z
noncomputable def need (f : Nat → List Nat → Option St) : List Nat → Option St
  | [] => none
  | c :: r => f c r
theorem need_short {f : Nat → List Nat → Option St} {n : Nat} {t : List Nat} (h : t.length < n + 1) (hf : ∀ c r, r.length < n → f c r = none) : need f t = none := by
  cases t with
  | nil => rfl
  | cons c r => exact hf c r (Nat.lt_of_succ_lt_succ h)
theorem uncons {n : Nat} {t : List Nat} {P : List Nat → Prop} (h : n + 1 ≤ t.length) (k : ∀ c r, n ≤ r.length → P (c :: r)) : P t := by
  cases t with
  | nil => exact absurd h (Nat.not_succ_le_zero n)
  | cons c r => exact k c r (Nat.le_of_succ_le_succ h)
noncomputable def parseM (t : List Nat) : Option St :=
  need (fun y1 t => need (fun y2 t => need (fun y3 t => need (fun y4 t => need (fun a t => need (fun m1 t => need (fun m2 t => need (fun b t => need (fun d1 t => need (fun d2 t => need (fun x t => need (fun h1 t => need (fun h2 t => need (fun e t => need (fun i1 t => need (fun i2 t => need (fun f t => need (fun s1 t => need (fun s2 t => need (fun c r => parse20 y1 y2 y3 y4 a m1 m2 b d1 d2 x h1 h2 e i1 i2 f s1 s2 c r) t) t) t) t) t) t) t) t) t) t) t) t) t) t) t) t) t) t) t) t
theorem parseM_short {t : List Nat} (h : t.length < 20) : parseM t = none :=
  need_short h fun _ _ h => need_short h fun _ _ h => need_short h fun _ _ h => need_short h fun _ _ h => need_short h fun _ _ h => need_short h fun _ _ h => need_short h fun _ _ h => need_short h fun _ _ h => need_short h fun _ _ h => need_short h fun _ _ h => need_short h fun _ _ h => need_short h fun _ _ h => need_short h fun _ _ h => need_short h fun _ _ h => need_short h fun _ _ h => need_short h fun _ _ h => need_short h fun _ _ h => need_short h fun _ _ h => need_short h fun _ _ h => need_short h fun _ _ h => absurd h (Nat.not_lt_zero _)
@[elab_as_elim] theorem twenty {t : List Nat} {P : List Nat → Prop} (h : ¬ t.length < 20) (k : ∀ y1 y2 y3 y4 a m1 m2 b d1 d2 x h1 h2 e i1 i2 f s1 s2 c r, P (y1 :: y2 :: y3 :: y4 :: a :: m1 :: m2 :: b :: d1 :: d2 :: x :: h1 :: h2 :: e :: i1 :: i2 :: f :: s1 :: s2 :: c :: r)) : P t :=
  uncons (P := fun t => P (t)) (Nat.le_of_not_lt h) fun y1 t0 k0 => uncons (P := fun t => P (y1 :: t)) k0 fun y2 t1 k1 => uncons (P := fun t => P (y1 :: y2 :: t)) k1 fun y3 t2 k2 => uncons (P := fun t => P (y1 :: y2 :: y3 :: t)) k2 fun y4 t3 k3 => uncons (P := fun t => P (y1 :: y2 :: y3 :: y4 :: t)) k3 fun a t4 k4 => uncons (P := fun t => P (y1 :: y2 :: y3 :: y4 :: a :: t)) k4 fun m1 t5 k5 => uncons (P := fun t => P (y1 :: y2 :: y3 :: y4 :: a :: m1 :: t)) k5 fun m2 t6 k6 => uncons (P := fun t => P (y1 :: y2 :: y3 :: y4 :: a :: m1 :: m2 :: t)) k6 fun b t7 k7 => uncons (P := fun t => P (y1 :: y2 :: y3 :: y4 :: a :: m1 :: m2 :: b :: t)) k7 fun d1 t8 k8 => uncons (P := fun t => P (y1 :: y2 :: y3 :: y4 :: a :: m1 :: m2 :: b :: d1 :: t)) k8 fun d2 t9 k9 => uncons (P := fun t => P (y1 :: y2 :: y3 :: y4 :: a :: m1 :: m2 :: b :: d1 :: d2 :: t)) k9 fun x t10 k10 => uncons (P := fun t => P (y1 :: y2 :: y3 :: y4 :: a :: m1 :: m2 :: b :: d1 :: d2 :: x :: t)) k10 fun h1 t11 k11 => uncons (P := fun t => P (y1 :: y2 :: y3 :: y4 :: a :: m1 :: m2 :: b :: d1 :: d2 :: x :: h1 :: t)) k11 fun h2 t12 k12 => uncons (P := fun t => P (y1 :: y2 :: y3 :: y4 :: a :: m1 :: m2 :: b :: d1 :: d2 :: x :: h1 :: h2 :: t)) k12 fun e t13 k13 => uncons (P := fun t => P (y1 :: y2 :: y3 :: y4 :: a :: m1 :: m2 :: b :: d1 :: d2 :: x :: h1 :: h2 :: e :: t)) k13 fun i1 t14 k14 => uncons (P := fun t => P (y1 :: y2 :: y3 :: y4 :: a :: m1 :: m2 :: b :: d1 :: d2 :: x :: h1 :: h2 :: e :: i1 :: t)) k14 fun i2 t15 k15 => uncons (P := fun t => P (y1 :: y2 :: y3 :: y4 :: a :: m1 :: m2 :: b :: d1 :: d2 :: x :: h1 :: h2 :: e :: i1 :: i2 :: t)) k15 fun f t16 k16 => uncons (P := fun t => P (y1 :: y2 :: y3 :: y4 :: a :: m1 :: m2 :: b :: d1 :: d2 :: x :: h1 :: h2 :: e :: i1 :: i2 :: f :: t)) k16 fun s1 t17 k17 => uncons (P := fun t => P (y1 :: y2 :: y3 :: y4 :: a :: m1 :: m2 :: b :: d1 :: d2 :: x :: h1 :: h2 :: e :: i1 :: i2 :: f :: s1 :: t)) k17 fun s2 t18 k18 => uncons (P := fun t => P (y1 :: y2 :: y3 :: y4 :: a :: m1 :: m2 :: b :: d1 :: d2 :: x :: h1 :: h2 :: e :: i1 :: i2 :: f :: s1 :: s2 :: t)) k18 fun c t19 k19 => k y1 y2 y3 y4 a m1 m2 b d1 d2 x h1 h2 e i1 i2 f s1 s2 c t19

noncomputable def resD : Option St → R PyData
  | some s => .ok s.D
  | none => .exc false

theorem cut_pre (pre z : List Nat) (i j : Nat) : cut (pre ++ z) (pre.length + i) (pre.length + j) = cut z i j := by
  unfold cut
  rw [List.take_append, List.take_of_length_le (by first | assumption | rfl | exact Nat.le_add_left _ _ | decide | lia), Nat.add_sub_cancel_left, List.drop_append, List.drop_of_length_le (by first | assumption | rfl | exact Nat.le_add_left _ _ | decide | lia), Nat.add_sub_cancel_left]
  rfl
noncomputable abbrev parseB : List PS := [(.ite (.cmp .ge (.loc 8) (.loc 1)) [.raise] []),
  (.asg 13 (.idx (.loc 0) (.loc 8))),
  (.ite (.or (.cmp .eq (.loc 13) (.cst (.str (PySem.Str.mk #[90])))) (.cmp .eq (.loc 13) (.cst (.str (PySem.Str.mk #[122]))))) [(.ite (.cmp .ne (.bin .add (.loc 8) (.cst (.int 1))) (.loc 1)) [.raise] []), (.asg 14 (.cst (.int 0)))] [(.ite (.or (.cmp .eq (.loc 13) (.cst (.str (PySem.Str.mk #[43])))) (.cmp .eq (.loc 13) (.cst (.str (PySem.Str.mk #[45]))))) [(.ite (.cmp .ne (.bin .add (.loc 8) (.cst (.int 6))) (.loc 1)) [.raise] []), (.asg 15 (.call 9 [(.loc 0), (.bin .add (.loc 8) (.cst (.int 1))), (.bin .add (.loc 8) (.cst (.int 3)))])), (.asg 16 (.call 9 [(.loc 0), (.bin .add (.loc 8) (.cst (.int 4))), (.bin .add (.loc 8) (.cst (.int 6)))])), (.ite (.or (.cmp .lt (.loc 15) (.cst (.int 0))) (.or (.cmp .lt (.loc 16) (.cst (.int 0))) (.cmp .ne (.idx (.loc 0) (.bin .add (.loc 8) (.cst (.int 3)))) (.cst (.str (PySem.Str.mk #[58])))))) [.raise] []), (.ite (.or (.cmp .gt (.loc 15) (.cst (.int 23))) (.cmp .gt (.loc 16) (.cst (.int 59)))) [.raise] []), (.asg 14 (.bin .add (.bin .mul (.loc 15) (.cst (.int 60))) (.loc 16))), (.ite (.cmp .eq (.loc 13) (.cst (.str (PySem.Str.mk #[45])))) [(.asg 14 (.neg (.loc 14))), (.ite (.cmp .eq (.loc 14) (.cst (.int 0))) [(.asg 14 (.cst .none))] [])] [])] [.raise])]),
  (.asg 17 (.tup [(.loc 2), (.loc 3), (.loc 4), (.loc 5), (.loc 6), (.loc 7), (.loc 9), (.loc 14)])),
  (.ite (.not (.call 8 [(.loc 17)])) [.raise] []),
  (.ret (.loc 17))]

theorem not_zz {c : Nat} (h : c = 43 ∨ c = 45) : ¬ (c = 90 ∨ c = 122) := by rcases h with rfl | rfl <;> decide
theorem six {c : Nat} {q : List Nat} (hc : c = 43 ∨ c = 45) (h : (match q with
      | [a1, a2, m, b1, b2] =>
        if digV [a1, a2] < 0 ∨ digV [b1, b2] < 0 ∨ m ≠ 58 then none
        else if digV [a1, a2] > 23 ∨ digV [b1, b2] > 59 then none
        else if c = 45 then (if -(digV [a1, a2] * 60 + digV [b1, b2]) = 0 then some none else some (some (-(digV [a1, a2] * 60 + digV [b1, b2]))))
        else some (some (digV [a1, a2] * 60 + digV [b1, b2]))
      | _ => (none : Option (Option Int))) = none) : zoneM (c :: q) = none :=
  (if_neg (not_zz hc)).trans ((if_pos hc).trans h)
theorem zoneM_z {c : Nat} {q : List Nat} (hc : c = 90 ∨ c = 122) : zoneM (c :: q) = if q = [] then some (some 0) else none := if_pos hc
theorem zoneM_no {c : Nat} {q : List Nat} (h1 : ¬ (c = 90 ∨ c = 122)) (h2 : ¬ (c = 43 ∨ c = 45)) : zoneM (c :: q) = none := (if_neg h1).trans (if_neg h2)
theorem len5 {q : List Nat} (h : q.length = 5) : ∃ a1 a2 m b1 b2, q = [a1, a2, m, b1, b2] := by
  rcases q with _ | ⟨a1, _ | ⟨a2, _ | ⟨m, _ | ⟨b1, _ | ⟨b2, _ | ⟨z, r⟩⟩⟩⟩⟩⟩
  · cases h
  · cases h
  · cases h
  · cases h
  · cases h
  · exact ⟨_, _, _, _, _, rfl⟩
  · cases h
theorem zoneM_len {c : Nat} {q : List Nat} (hc : c = 43 ∨ c = 45) (h : q.length ≠ 5) : zoneM (c :: q) = none := by
  rcases q with _ | ⟨a1, _ | ⟨a2, _ | ⟨m, _ | ⟨b1, _ | ⟨b2, _ | ⟨z, r⟩⟩⟩⟩⟩⟩
  · exact six hc rfl
  · exact six hc rfl
  · exact six hc rfl
  · exact six hc rfl
  · exact six hc rfl
  · exact absurd rfl h
  · exact six hc rfl
theorem tailM_nothing {y mo d h mi se ns : Int} {z : List Nat} (e : zoneM z = none) : tailM y mo d h mi se ns z = none := by unfold tailM; rw [e]
theorem tailM_some {y mo d h mi se ns : Int} {z : List Nat} {off : Option Int} (e : zoneM z = some off) : tailM y mo d h mi se ns z = if (St.mk y mo d h mi se ns off).valid then some ⟨y, mo, d, h, mi, se, ns, off⟩ else none := by unfold tailM; rw [e]
theorem sgn_eq {u v : Nat} : cmpop .eq (dS [u]) (dS [v]) = .ok (.bool (decide (u = v))) := by
  rw [cmpop_1, deq_2, R.ofOpt_some, R.bind_ok]
  refine congrArg (fun b => R.ok (PyData.bool b)) (decide_eq_decide.mpr ⟨fun q => ?_, fun q => by rw [q]⟩)
  injection q with q
  have := congrArg Array.toList q
  exact List.head_eq_of_cons_eq this
theorem sgn_ne {u v : Nat} : cmpop .ne (dS [u]) (dS [v]) = .ok (.bool (decide (u ≠ v))) := by
  have h := sgn_eq (u := u) (v := v)
  rw [cmpop_1, deq_2, R.ofOpt_some, R.bind_ok] at h
  rw [cmpop_2, deq_2, R.ofOpt_some, R.bind_ok, decide_not]
  injection h with h; injection h with h
  rw [h]
theorem parse_end {T : List Fn} (hT : IsT T) {N n : Nat} (hn : 5 ≤ n) (hN : 12 ≤ N) (y mo d h mi se ns : Int) (off : Option Int) (o0 o1 o8 o10 o11 o12 o13 o15 o16 o17 : Option PyData) :
    fin (execs (run T N n) N [(.asg 17 (.tup [(.loc 2), (.loc 3), (.loc 4), (.loc 5), (.loc 6), (.loc 7), (.loc 9), (.loc 14)])), (.ite (.not (.call 8 [(.loc 17)])) [.raise] []), (.ret (.loc 17))]
      [o0, o1, some (.int y), some (.int mo), some (.int d), some (.int h), some (.int mi), some (.int se), o8, some (.int ns), o10, o11, o12, o13, some (offD off), o15, o16, o17]) =
    resD (if (St.mk y mo d h mi se ns off).valid then some ⟨y, mo, d, h, mi, se, ns, off⟩ else none) := by
  rw [execs_step (ρ' := [o0, o1, some (.int y), some (.int mo), some (.int d), some (.int h), some (.int mi), some (.int se), o8, some (.int ns), o10, o11, o12, o13, some (offD off), o15, o16, some (St.D ⟨y, mo, d, h, mi, se, ns, off⟩)]) (by first | rfl | simp [execE_ret, execE_asg, execE_asgT, execE_ite, execE_whl, execE_forRange, execE_forTup, execE_forZip, execE_raise, execE_tryAsg])]
  have hv := run_is_valid hT hn hN ⟨y, mo, d, h, mi, se, ns, off⟩
  have he : ev (run T N n) (.not (.call 8 [(.loc 17)])) [o0, o1, some (.int y), some (.int mo), some (.int d), some (.int h), some (.int mi), some (.int se), o8, some (.int ns), o10, o11, o12, o13, some (offD off), o15, o16, some (St.D ⟨y, mo, d, h, mi, se, ns, off⟩)] = .ok (.bool (decide (¬ St.valid ⟨y, mo, d, h, mi, se, ns, off⟩))) := by
    refine ev_not ?_
    rw [← hv]; first | rfl | simp
  by_cases v : St.valid ⟨y, mo, d, h, mi, se, ns, off⟩
  · rw [if_pos v, execs_ifN (fun q => q v) he]
    first | rfl | simp [execsE_nil, execsE_cons, execE_ret, execE_asg, execE_asgT, execE_ite, execE_whl, execE_forRange, execE_forTup, execE_forZip, execE_raise, execE_tryAsg, resD]
  · rw [if_neg v, execs_ifP v he]
    first | rfl | simp [execsE_nil, execsE_cons, execE_ret, execE_asg, execE_asgT, execE_ite, execE_whl, execE_forRange, execE_forTup, execE_forZip, execE_raise, execE_tryAsg, resD]

theorem digV_two {T : List Fn} (hT : IsT T) {N n : Nat} (hn : 1 ≤ n) (hN : 3 ≤ N) (pre z : List Nat) (i : Nat) (h : i + 2 ≤ z.length) (a b : Int) (ha : a = ((pre.length + i : Nat) : Int)) (hb : b = ((pre.length + (i + 2) : Nat) : Int)) :
    run T N n 9 [dS (pre ++ z), .int a, .int b] = .ok (.int (digV (cut z i (i + 2)))) := by
  subst ha hb
  rw [run_digits hT hn _ _ _ (by first | assumption | rfl | exact Nat.le_add_left _ _ | decide | lia) (by simp; lia) (by first | assumption | rfl | exact Nat.le_add_left _ _ | decide | lia), cut_pre]

theorem parse_zone {T : List Fn} (hT : IsT T) {N n : Nat} (hn : 5 ≤ n) (hN : 12 ≤ N) (pre z : List Nat) (y mo d h mi se ns : Int) (o10 o11 o12 o13 o14 o15 o16 o17 : Option PyData) :
    fin (execs (run T N n) N parseB [some (dS (pre ++ z)), some (.int ((pre ++ z).length : Nat)), some (.int y), some (.int mo), some (.int d), some (.int h), some (.int mi), some (.int se), some (.int pre.length), some (.int ns), o10, o11, o12, o13, o14, o15, o16, o17]) =
    resD (tailM y mo d h mi se ns z) := by
  have hL : ((pre ++ z).length : Int) = pre.length + (z.length : Nat) := by rw [List.length_append]; rfl
  have hI : ∀ i (h : i < z.length), index (dS (pre ++ z)) (.int ((pre.length : Int) + (i : Nat))) = .ok (dS [z[i]]) := fun i h => index_pre pre z i h _ rfl
  have hD : ∀ i : Nat, i + 2 ≤ z.length → run T N n 9 [dS (pre ++ z), .int ((pre.length : Int) + (i : Nat)), .int ((pre.length : Int) + ((i + 2 : Nat) : Int))] = .ok (.int (digV (cut z i (i + 2)))) := fun i h => digV_two hT (Nat.le_trans (by decide) hn) (Nat.le_trans (by decide) hN) pre z i h _ _ rfl rfl
  generalize ((pre ++ z).length : Int) = L at hL ⊢
  generalize pre ++ z = tt at hI hD ⊢
  generalize (pre.length : Int) = P at hL hI hD ⊢
  refine if_ (P := L ≤ P) rfl (fun g => ?_) (fun g => ?_)
  · cases z with
    | nil => rw [tailM_nothing rfl]; rfl
    | cons c q => rw [List.length_cons] at hL; exact absurd g (by clear hI hD; lia)
  cases z with
  | nil => exact absurd (Int.le_of_eq (hL.trans (Int.add_zero P))) g
  | cons c q =>
    clear g
    have i0 : index (dS tt) (.int P) = .ok (dS [c]) := by have := hI 0 (Nat.zero_lt_succ _); rwa [show P + ((0 : Nat) : Int) = P from Int.add_zero P] at this
    refine asg_ (ρ' := [some (dS tt), some (.int L), some (.int y), some (.int mo), some (.int d), some (.int h), some (.int mi), some (.int se), some (.int P), some (.int ns), o10, o11, o12, some (dS [c]), o14, o15, o16, o17]) (d := dS [c]) ((ev_ix rfl rfl).trans i0) rfl ?_
    clear i0
    refine if_ (P := c = 90 ∨ c = 122) (ev_or ((ev_cmp (x := dS [c]) (y := dS [90]) rfl rfl).trans sgn_eq) fun _ => (ev_cmp (x := dS [c]) (y := dS [122]) rfl rfl).trans sgn_eq) (fun g1 => ?_) (fun g1 => ?_)
    · clear hI hD
      refine if_ (P := ¬ P + 1 = L) ((ev_cmp (x := .int (P + 1)) (y := .int L) rfl rfl).trans cmp_ne) (fun g2 => ?_) (fun g2 => ?_)
      · rw [tailM_nothing ((zoneM_z g1).trans (if_neg fun e => g2 (by rw [hL, e]; rfl)))]; rfl
      · have e : q = [] := List.eq_nil_of_length_eq_zero (by rw [List.length_cons] at hL; lia)
        refine asg_ (ρ' := [some (dS tt), some (.int L), some (.int y), some (.int mo), some (.int d), some (.int h), some (.int mi), some (.int se), some (.int P), some (.int ns), o10, o11, o12, some (dS [c]), some (offD (some 0)), o15, o16, o17]) (d := offD (some 0)) rfl rfl ?_
        rw [tailM_some ((zoneM_z g1).trans (if_pos e))]
        exact parse_end hT hn hN y mo d h mi se ns (some 0) _ _ _ _ _ _ _ _ _ _
    refine if_ (P := c = 43 ∨ c = 45) (ev_or ((ev_cmp (x := dS [c]) (y := dS [43]) rfl rfl).trans sgn_eq) fun _ => (ev_cmp (x := dS [c]) (y := dS [45]) rfl rfl).trans sgn_eq) (fun g2 => ?_) (fun g2 => ?_)
    case refine_2 => rw [tailM_nothing (zoneM_no g1 g2)]; rfl
    clear g1
    refine if_ (P := ¬ P + 6 = L) ((ev_cmp (x := .int (P + 6)) (y := .int L) rfl rfl).trans cmp_ne) (fun g3 => ?_) (fun g3 => ?_)
    · rw [tailM_nothing (zoneM_len g2 fun e => g3 (by rw [hL, List.length_cons, e]; rfl))]; rfl
    obtain ⟨a1, a2, m, b1, b2, rfl⟩ := len5 (q := q) (by clear hI hD; rw [List.length_cons] at hL; lia)
    have H1 : run T N n 9 [dS tt, .int (P + 1), .int (P + 3)] = .ok (.int (digV [a1, a2])) := hD 1 (show 1 + 2 ≤ 6 by decide)
    have H2 : run T N n 9 [dS tt, .int (P + 4), .int (P + 6)] = .ok (.int (digV [b1, b2])) := hD 4 (show 4 + 2 ≤ 6 by decide)
    have i3 : index (dS tt) (.int (P + 3)) = .ok (dS [m]) := hI 3 (show 3 < 6 by decide)
    have hz : zoneM [c, a1, a2, m, b1, b2] = if digV [a1, a2] < 0 ∨ digV [b1, b2] < 0 ∨ m ≠ 58 then none else if digV [a1, a2] > 23 ∨ digV [b1, b2] > 59 then none
        else if c = 45 then (if -(digV [a1, a2] * 60 + digV [b1, b2]) = 0 then some none else some (some (-(digV [a1, a2] * 60 + digV [b1, b2])))) else some (some (digV [a1, a2] * 60 + digV [b1, b2])) := (if_neg (not_zz g2)).trans (if_pos g2)
    clear hI hD hL g3 g2
    generalize digV [a1, a2] = oh at H1 hz
    generalize digV [b1, b2] = om at H2 hz
    generalize [c, a1, a2, m, b1, b2] = z at hz ⊢
    refine asg_ (ρ' := [some (dS tt), some (.int L), some (.int y), some (.int mo), some (.int d), some (.int h), some (.int mi), some (.int se), some (.int P), some (.int ns), o10, o11, o12, some (dS [c]), o14, some (.int oh), o16, o17]) (d := .int oh) (ev_call3 (x := dS tt) (y := .int (P + 1)) (z := .int (P + 3)) rfl rfl rfl H1) rfl ?_
    refine asg_ (ρ' := [some (dS tt), some (.int L), some (.int y), some (.int mo), some (.int d), some (.int h), some (.int mi), some (.int se), some (.int P), some (.int ns), o10, o11, o12, some (dS [c]), o14, some (.int oh), some (.int om), o17]) (d := .int om) (ev_call3 (x := dS tt) (y := .int (P + 4)) (z := .int (P + 6)) rfl rfl rfl H2) rfl ?_
    refine if_ (P := oh < 0 ∨ om < 0 ∨ m ≠ 58) (ev_or rfl fun _ => ev_or rfl fun _ => (ev_cmp (x := dS [m]) (y := dS [58]) ((ev_ix rfl rfl).trans i3) rfl).trans sgn_ne) (fun g => ?_) (fun g => ?_)
    · rw [tailM_nothing (hz.trans (if_pos g))]; rfl
    rw [if_neg g] at hz
    clear g H1 H2 i3
    refine if_ (P := oh > 23 ∨ om > 59) (ev_or rfl fun _ => rfl) (fun g => ?_) (fun g => ?_)
    · rw [tailM_nothing (hz.trans (if_pos g))]; rfl
    rw [if_neg g] at hz
    clear g
    refine asg_ (ρ' := [some (dS tt), some (.int L), some (.int y), some (.int mo), some (.int d), some (.int h), some (.int mi), some (.int se), some (.int P), some (.int ns), o10, o11, o12, some (dS [c]), some (.int (oh * 60 + om)), some (.int oh), some (.int om), o17]) (d := .int (oh * 60 + om)) ((ev_bin (x := .int (oh * 60)) (y := .int om) ((ev_bin (x := .int oh) (y := .int 60) rfl rfl).trans (mulR rfl)) rfl).trans rfl) rfl ?_
    refine if_ (P := c = 45) ((ev_cmp (x := dS [c]) (y := dS [45]) rfl rfl).trans sgn_eq) (fun g6 => ?_) (fun g6 => ?_)
    · rw [if_pos g6] at hz
      refine asg_ (ρ' := [some (dS tt), some (.int L), some (.int y), some (.int mo), some (.int d), some (.int h), some (.int mi), some (.int se), some (.int P), some (.int ns), o10, o11, o12, some (dS [c]), some (.int (-(oh * 60 + om))), some (.int oh), some (.int om), o17]) (d := .int (-(oh * 60 + om))) rfl rfl ?_
      refine if_ (P := -(oh * 60 + om) = 0) rfl (fun g7 => ?_) (fun g7 => ?_)
      · refine asg_ (ρ' := [some (dS tt), some (.int L), some (.int y), some (.int mo), some (.int d), some (.int h), some (.int mi), some (.int se), some (.int P), some (.int ns), o10, o11, o12, some (dS [c]), some (offD none), some (.int oh), some (.int om), o17]) (d := offD none) rfl rfl ?_
        rw [tailM_some (hz.trans (if_pos g7))]
        exact parse_end hT hn hN y mo d h mi se ns none _ _ _ _ _ _ _ _ _ _
      · rw [tailM_some (hz.trans (if_neg g7))]
        exact parse_end hT hn hN y mo d h mi se ns (some (-(oh * 60 + om))) _ _ _ _ _ _ _ _ _ _
    · rw [tailM_some (hz.trans (if_neg g6))]
      exact parse_end hT hn hN y mo d h mi se ns (some (oh * 60 + om)) _ _ _ _ _ _ _ _ _ _
end Mine

namespace Mine
open PySem

theorem loop_j {T : List Fn} {N n : Nat} (o2 o3 o4 o5 o6 o7 o8 o9 o11 o12 o13 o14 o15 o16 o17 : Option PyData) : ∀ (w p : List Nat) (m : Nat),
    loopW (fun ρ => ev (run T N n) (.and (.cmp .lt (.loc 10) (.loc 1)) (.cmp .isIn (.idx (.loc 0) (.loc 10)) (.cst (.str (PySem.Str.mk #[48, 49, 50, 51, 52, 53, 54, 55, 56, 57]))))) ρ)
      (fun ρ => execs (run T N n) N [(.asg 10 (.bin .add (.loc 10) (.cst (.int 1))))] ρ) (m + (w.takeWhile digit).length + 1)
      [some (dS (p ++ w)), some (.int ((p ++ w).length : Nat)), o2, o3, o4, o5, o6, o7, o8, o9, some (.int p.length), o11, o12, o13, o14, o15, o16, o17] =
    .ok (.next [some (dS (p ++ w)), some (.int ((p ++ w).length : Nat)), o2, o3, o4, o5, o6, o7, o8, o9, some (.int ((p.length + (w.takeWhile digit).length : Nat) : Int)), o11, o12, o13, o14, o15, o16, o17]) := by
  intro w
  induction w with
  | nil =>
    intro p m
    rw [loopW_false]
    · first | rfl | simp
    · first | rfl | simp
  | cons c w ih =>
    intro p m
    have hi : index (dS (p ++ c :: w)) (.int p.length) = .ok (dS [c]) := index_pre p (c :: w) 0 (by first | rfl | simp) _ (by first | rfl | simp)
    have ht : ev (run T N n) (.and (.cmp .lt (.loc 10) (.loc 1)) (.cmp .isIn (.idx (.loc 0) (.loc 10)) (.cst (.str (PySem.Str.mk #[48, 49, 50, 51, 52, 53, 54, 55, 56, 57])))))
        [some (dS (p ++ c :: w)), some (.int ((p ++ c :: w).length : Nat)), o2, o3, o4, o5, o6, o7, o8, o9, some (.int p.length), o11, o12, o13, o14, o15, o16, o17] = .ok (.bool (digit c)) := by
      have : (p.length : Int) < ((p ++ c :: w).length : Nat) := by simp; lia
      ((first | rewrite [evE_loc] | rewrite [evE_cst] | rewrite [evE_bin] | rewrite [evE_neg] | rewrite [evE_not] | rewrite [evE_and] | rewrite [evE_or] | rewrite [evE_ite] | rewrite [evE_tup] | rewrite [evE_lst] | rewrite [evE_cmp] | rewrite [evE_chain] | rewrite [evE_isNone] | rewrite [evE_isNotNone] | rewrite [evE_typeIs] | rewrite [evE_idx] | rewrite [evE_sliceTo] | rewrite [evE_sliceFrom] | rewrite [evE_slice] | rewrite [evE_call] | rewrite [evE_b1] | rewrite [evE_b2] | rewrite [evE_join] | rewrite [evE_rstrip] | rewrite [evE_replace] | rewrite [evE_dget] | rewrite [evE_all] | rewrite [evE_anyZip]); (first | rewrite [evE_loc] | rewrite [evE_cst] | rewrite [evE_bin] | rewrite [evE_neg] | rewrite [evE_not] | rewrite [evE_and] | rewrite [evE_or] | rewrite [evE_ite] | rewrite [evE_tup] | rewrite [evE_lst] | rewrite [evE_cmp] | rewrite [evE_chain] | rewrite [evE_isNone] | rewrite [evE_isNotNone] | rewrite [evE_typeIs] | rewrite [evE_idx] | rewrite [evE_sliceTo] | rewrite [evE_sliceFrom] | rewrite [evE_slice] | rewrite [evE_call] | rewrite [evE_b1] | rewrite [evE_b2] | rewrite [evE_join] | rewrite [evE_rstrip] | rewrite [evE_replace] | rewrite [evE_dget] | rewrite [evE_all] | rewrite [evE_anyZip]); (first | rewrite [evE_loc] | rewrite [evE_cst] | rewrite [evE_bin] | rewrite [evE_neg] | rewrite [evE_not] | rewrite [evE_and] | rewrite [evE_or] | rewrite [evE_ite] | rewrite [evE_tup] | rewrite [evE_lst] | rewrite [evE_cmp] | rewrite [evE_chain] | rewrite [evE_isNone] | rewrite [evE_isNotNone] | rewrite [evE_typeIs] | rewrite [evE_idx] | rewrite [evE_sliceTo] | rewrite [evE_sliceFrom] | rewrite [evE_slice] | rewrite [evE_call] | rewrite [evE_b1] | rewrite [evE_b2] | rewrite [evE_join] | rewrite [evE_rstrip] | rewrite [evE_replace] | rewrite [evE_dget] | rewrite [evE_all] | rewrite [evE_anyZip]); try with_reducible rfl)
      simp only [evE_loc, evE_cst, evE_bin, evE_neg, evE_not, evE_and, evE_or, evE_ite, evE_tup, evE_lst, evE_cmp, evE_chain, evE_isNone, evE_isNotNone, evE_typeIs, evE_idx, evE_sliceTo, evE_sliceFrom, evE_slice, evE_call, evE_b1, evE_b2, evE_join, evE_rstrip, evE_replace, evE_dget, evE_all, evE_anyZip, getL_0, getL_s, R.bind_ok, cmpop_3, truthy_1, this, decide_true]
      rw [hi]
      first | rfl | simp [digit_iff]
    by_cases hd : digit c = true
    · rw [List.takeWhile_cons_of_pos hd, List.length_cons, show m + ((w.takeWhile digit).length + 1) + 1 = (m + (w.takeWhile digit).length + 1) + 1 by first | assumption | rfl | exact Nat.le_add_left _ _ | decide | lia]
      have := ih (p ++ [c]) m
      simp only [List.append_assoc, List.cons_append, List.nil_append] at this
      rw [loopW_true (ρ' := [some (dS (p ++ c :: w)), some (.int ((p ++ c :: w).length : Nat)), o2, o3, o4, o5, o6, o7, o8, o9, some (.int ((p ++ [c]).length : Nat)), o11, o12, o13, o14, o15, o16, o17]) (by rw [ht, hd]), this]
      · rw [show (p ++ [c]).length + (w.takeWhile digit).length = p.length + ((w.takeWhile digit).length + 1) by simp; lia]
      · first | rfl | simp [execsE_nil, execsE_cons, execE_ret, execE_asg, execE_asgT, execE_ite, execE_whl, execE_forRange, execE_forTup, execE_forZip, execE_raise, execE_tryAsg]
    · rw [List.takeWhile_cons_of_neg hd]
      rw [loopW_false (by rw [ht]; simp at hd; rw [hd])]
      first | rfl | simp

theorem loop_k {T : List Fn} {N n : Nat} (o0 o1 o2 o3 o4 o5 o6 o7 o8 o10 o11 o13 o14 o15 o16 o17 : Option PyData) : ∀ (k m : Nat) (v : Int), k ≤ 9 →
    loopW (fun ρ => ev (run T N n) (.cmp .lt (.loc 12) (.cst (.int 9))) ρ)
      (fun ρ => execs (run T N n) N [(.asg 9 (.bin .mul (.loc 9) (.cst (.int 10)))), (.asg 12 (.bin .add (.loc 12) (.cst (.int 1))))] ρ) (m + k + 1)
      [o0, o1, o2, o3, o4, o5, o6, o7, o8, some (.int v), o10, o11, some (.int ((9 - k : Nat) : Int)), o13, o14, o15, o16, o17] =
    .ok (.next [o0, o1, o2, o3, o4, o5, o6, o7, o8, some (.int (v * 10 ^ k)), o10, o11, some (.int 9), o13, o14, o15, o16, o17]) := by
  intro k
  induction k with
  | zero =>
    intro m v _
    rw [loopW_false (by first | rfl | simp)]
    first | rfl | simp
  | succ k ih =>
    intro m v h
    rw [loopW_true (ρ' := [o0, o1, o2, o3, o4, o5, o6, o7, o8, some (.int (v * 10)), o10, o11, some (.int ((9 - k : Nat) : Int)), o13, o14, o15, o16, o17]), show m + (k + 1) = m + k + 1 by first | assumption | rfl | exact Nat.le_add_left _ _ | decide | lia, ih m (v * 10) (by first | assumption | rfl | exact Nat.le_add_left _ _ | decide | lia)]
    · rw [Int.pow_succ, Int.mul_assoc, Int.mul_comm 10]
    · simp; lia
    · simp [execsE_nil, execsE_cons, execE_ret, execE_asg, execE_asgT, execE_ite, execE_whl, execE_forRange, execE_forTup, execE_forZip, execE_raise, execE_tryAsg, smallI]; lia

theorem takeWhile_all (r : List Nat) : (r.takeWhile digit).all digit = true := by
  rw [List.all_eq_true]
  intro c hc
  induction r with
  | nil => simp at hc
  | cons d r ih =>
    by_cases hd : digit d = true
    · rw [List.takeWhile_cons_of_pos hd] at hc
      rcases List.mem_cons.mp hc with rfl | hc
      · exact hd
      · exact ih hc
    · rw [List.takeWhile_cons_of_neg hd] at hc; simp at hc

theorem run_parse {T : List Fn} (hT : IsT T) {N n : Nat} (hn : 6 ≤ n) (t : List Nat) (hN : t.length + 12 ≤ N) : run T N n 10 [dS t] = resD (parseM t) := by
  obtain ⟨k, rfl⟩ := Nat.exists_eq_add_of_le' hn
  rw [run_at (hT.at_ 10 p_parse rfl) rfl]
  refine asg_ (ρ' := [some (dS t), some (.int t.length), none, none, none, none, none, none, none, none, none, none, none, none, none, none, none, none]) (d := .int t.length) rfl rfl ?_
  refine if_ (P := (t.length : Int) < 20) rfl (fun hs => by rw [parseM_short (by lia)]; rfl) (fun hs => ?_)
  revert hN
  refine twenty (show ¬ t.length < 20 by lia) fun y1 y2 y3 y4 a m1 m2 b d1 d2 x h1 h2 e i1 i2 f s1 s2 c r hN => ?_
  clear hs
  change _ = resD (parse20 y1 y2 y3 y4 a m1 m2 b d1 d2 x h1 h2 e i1 i2 f s1 s2 c r)
  rw [parse20]
  have hl20 : 20 ≤ (y1 :: y2 :: y3 :: y4 :: a :: m1 :: m2 :: b :: d1 :: d2 :: x :: h1 :: h2 :: e :: i1 :: i2 :: f :: s1 :: s2 :: c :: r).length := Nat.le_add_left 20 r.length
  have hlr : (y1 :: y2 :: y3 :: y4 :: a :: m1 :: m2 :: b :: d1 :: d2 :: x :: h1 :: h2 :: e :: i1 :: i2 :: f :: s1 :: s2 :: c :: r).length = r.length + 20 := rfl
  generalize htt : (y1 :: y2 :: y3 :: y4 :: a :: m1 :: m2 :: b :: d1 :: d2 :: x :: h1 :: h2 :: e :: i1 :: i2 :: f :: s1 :: s2 :: c :: r) = tt at hN hl20 hlr
  have H : ∀ (i j : Nat), i ≤ j → j ≤ 20 → run T N (k + 5) 9 [dS tt, .int i, .int j] = .ok (.int (digV (cut tt i j))) := fun i j h1 h2 => run_digits hT (Nat.le_add_left 1 _) _ _ _ h1 (Nat.le_trans h2 hl20) (by lia)
  have H1 : run T N (k + 5) 9 [dS tt, .int 0, .int 4] = .ok (.int (digV [y1, y2, y3, y4])) := (H 0 4 (by decide) (by decide)).trans (by subst htt; rfl)
  have H2 : run T N (k + 5) 9 [dS tt, .int 5, .int 7] = .ok (.int (digV [m1, m2])) := (H 5 7 (by decide) (by decide)).trans (by subst htt; rfl)
  have H3 : run T N (k + 5) 9 [dS tt, .int 8, .int 10] = .ok (.int (digV [d1, d2])) := (H 8 10 (by decide) (by decide)).trans (by subst htt; rfl)
  have H4 : run T N (k + 5) 9 [dS tt, .int 11, .int 13] = .ok (.int (digV [h1, h2])) := (H 11 13 (by decide) (by decide)).trans (by subst htt; rfl)
  have H5 : run T N (k + 5) 9 [dS tt, .int 14, .int 16] = .ok (.int (digV [i1, i2])) := (H 14 16 (by decide) (by decide)).trans (by subst htt; rfl)
  have H6 : run T N (k + 5) 9 [dS tt, .int 17, .int 19] = .ok (.int (digV [s1, s2])) := (H 17 19 (by decide) (by decide)).trans (by subst htt; rfl)
  clear H
  generalize digV [y1, y2, y3, y4] = Y at H1 ⊢
  generalize digV [m1, m2] = MO at H2 ⊢
  generalize digV [d1, d2] = DD at H3 ⊢
  generalize digV [h1, h2] = HH at H4 ⊢
  generalize digV [i1, i2] = MI at H5 ⊢
  generalize digV [s1, s2] = SS at H6 ⊢
  refine asg_ (ρ' := [some (dS tt), some (.int tt.length), some (.int Y), none, none, none, none, none, none, none, none, none, none, none, none, none, none, none]) (d := .int Y) (ev_call3 (x := dS tt) (y := .int 0) (z := .int 4) rfl rfl rfl H1) rfl ?_
  refine asg_ (ρ' := [some (dS tt), some (.int tt.length), some (.int Y), some (.int MO), none, none, none, none, none, none, none, none, none, none, none, none, none, none]) (d := .int MO) (ev_call3 (x := dS tt) (y := .int 5) (z := .int 7) rfl rfl rfl H2) rfl ?_
  refine asg_ (ρ' := [some (dS tt), some (.int tt.length), some (.int Y), some (.int MO), some (.int DD), none, none, none, none, none, none, none, none, none, none, none, none, none]) (d := .int DD) (ev_call3 (x := dS tt) (y := .int 8) (z := .int 10) rfl rfl rfl H3) rfl ?_
  refine asg_ (ρ' := [some (dS tt), some (.int tt.length), some (.int Y), some (.int MO), some (.int DD), some (.int HH), none, none, none, none, none, none, none, none, none, none, none, none]) (d := .int HH) (ev_call3 (x := dS tt) (y := .int 11) (z := .int 13) rfl rfl rfl H4) rfl ?_
  refine asg_ (ρ' := [some (dS tt), some (.int tt.length), some (.int Y), some (.int MO), some (.int DD), some (.int HH), some (.int MI), none, none, none, none, none, none, none, none, none, none, none]) (d := .int MI) (ev_call3 (x := dS tt) (y := .int 14) (z := .int 16) rfl rfl rfl H5) rfl ?_
  refine asg_ (ρ' := [some (dS tt), some (.int tt.length), some (.int Y), some (.int MO), some (.int DD), some (.int HH), some (.int MI), some (.int SS), none, none, none, none, none, none, none, none, none, none]) (d := .int SS) (ev_call3 (x := dS tt) (y := .int 17) (z := .int 19) rfl rfl rfl H6) rfl ?_
  refine if_ (P := Y < 0 ∨ MO < 0 ∨ DD < 0) (ev_or rfl fun _ => ev_or rfl fun _ => rfl) (fun g => by rw [if_pos g]; rfl) (fun g => ?_)
  rw [if_neg g]
  clear g
  refine if_ (P := HH < 0 ∨ MI < 0 ∨ SS < 0) (ev_or rfl fun _ => ev_or rfl fun _ => rfl) (fun g => by rw [if_pos g]; rfl) (fun g => ?_)
  rw [if_neg g]
  clear g
  have IX : ∀ (i : Nat) (u : Nat), tt[i]? = some u → index (dS tt) (.int (i : Int)) = .ok (dS [u]) := fun i u h => by
    have hi := (List.getElem?_eq_some_iff.mp h).1
    have := index_pre [] tt i hi (i : Int) (by rw [List.length_nil, Nat.zero_add])
    rw [List.nil_append] at this
    rw [this, (List.getElem?_eq_some_iff.mp h).2]
  have I4 : index (dS tt) (.int 4) = .ok (dS [a]) := IX 4 a (by subst htt; rfl)
  have I7 : index (dS tt) (.int 7) = .ok (dS [b]) := IX 7 b (by subst htt; rfl)
  have I10 : index (dS tt) (.int 10) = .ok (dS [x]) := IX 10 x (by subst htt; rfl)
  have I13 : index (dS tt) (.int 13) = .ok (dS [e]) := IX 13 e (by subst htt; rfl)
  have I16 : index (dS tt) (.int 16) = .ok (dS [f]) := IX 16 f (by subst htt; rfl)
  have I19 : index (dS tt) (.int 19) = .ok (dS [c]) := IX 19 c (by subst htt; rfl)
  clear IX
  have cmpNe : ∀ (ρ : Env') (i : Int) (u v : Nat), getL ρ 0 = .ok (dS tt) → index (dS tt) (.int i) = .ok (dS [u]) → ev (run T N (k + 5)) (.cmp .ne (.idx (.loc 0) (.cst (.int i))) (.cst (.str (PySem.Str.mk #[v])))) ρ = .ok (.bool (decide (u ≠ v))) := fun ρ i u v h0 h => (ev_cmp (x := dS [u]) (y := dS [v]) ((ev_ix (show ev (run T N (k + 5)) (.loc 0) ρ = .ok (dS tt) from h0) rfl).trans h) rfl).trans sgn_ne
  refine if_ (P := a ≠ 45 ∨ b ≠ 45) (ev_or (cmpNe _ _ _ _ rfl I4) fun _ => cmpNe _ _ _ _ rfl I7) (fun g => by rw [if_pos g]; rfl) (fun g => ?_)
  rw [if_neg g]
  clear g
  refine if_ (P := x ≠ 84 ∧ x ≠ 116) (ev_and (cmpNe _ _ _ _ rfl I10) fun _ => cmpNe _ _ _ _ rfl I10) (fun g => by rw [if_pos g]; rfl) (fun g => ?_)
  rw [if_neg g]
  clear g
  refine if_ (P := e ≠ 58 ∨ f ≠ 58) (ev_or (cmpNe _ _ _ _ rfl I13) fun _ => cmpNe _ _ _ _ rfl I16) (fun g => by rw [if_pos g]; rfl) (fun g => ?_)
  rw [if_neg g]
  clear g
  clear cmpNe I4 I7 I10 I13 I16 H1 H2 H3 H4 H5 H6
  refine asg_ (ρ' := [some (dS tt), some (.int tt.length), some (.int Y), some (.int MO), some (.int DD), some (.int HH), some (.int MI), some (.int SS), some (.int 19), none, none, none, none, none, none, none, none, none]) (d := .int 19) rfl rfl ?_
  refine asg_ (ρ' := [some (dS tt), some (.int tt.length), some (.int Y), some (.int MO), some (.int DD), some (.int HH), some (.int MI), some (.int SS), some (.int 19), some (.int 0), none, none, none, none, none, none, none, none]) (d := .int 0) rfl rfl ?_
  rw [fracM]
  refine if_ (P := c = 46) ((ev_cmp (x := dS [c]) (y := dS [46]) ((ev_ix rfl rfl).trans I19) rfl).trans sgn_eq) (fun g6 => ?_) (fun g6 => ?_)
  case refine_2 =>
    rw [if_neg g6]
    have := parse_zone hT (N := N) (n := k + 5) (Nat.le_add_left 5 k) (by lia) [y1, y2, y3, y4, a, m1, m2, b, d1, d2, x, h1, h2, e, i1, i2, f, s1, s2] (c :: r) Y MO DD HH MI SS 0 none none none none none none none none
    rw [show [y1, y2, y3, y4, a, m1, m2, b, d1, d2, x, h1, h2, e, i1, i2, f, s1, s2] ++ c :: r = tt from htt] at this
    exact this
  rw [if_pos g6]
  have hp : [y1, y2, y3, y4, a, m1, m2, b, d1, d2, x, h1, h2, e, i1, i2, f, s1, s2, c] ++ r = tt := htt
  have hlen := (List.takeWhile_sublist digit (l := r)).length_le
  have LJ := fun m => loop_j (T := T) (N := N) (n := k + 5) (some (.int Y)) (some (.int MO)) (some (.int DD)) (some (.int HH)) (some (.int MI)) (some (.int SS)) (some (.int 19)) (some (.int 0)) none none none none none none none r [y1, y2, y3, y4, a, m1, m2, b, d1, d2, x, h1, h2, e, i1, i2, f, s1, s2, c] m
  rw [hp] at LJ
  have hr : r.takeWhile digit ++ r.dropWhile digit = r := List.takeWhile_append_dropWhile
  have hall := takeWhile_all r
  have PZ := fun ns o10 o11 o12 => parse_zone hT (N := N) (n := k + 5) (Nat.le_add_left 5 k) (by lia) ([y1, y2, y3, y4, a, m1, m2, b, d1, d2, x, h1, h2, e, i1, i2, f, s1, s2, c] ++ r.takeWhile digit) (r.dropWhile digit) Y MO DD HH MI SS ns o10 o11 o12 none none none none none
  rw [List.append_assoc, hr, hp] at PZ
  have hc : cut tt 20 (20 + (r.takeWhile digit).length) = r.takeWhile digit := by
    have := cut_pre [y1, y2, y3, y4, a, m1, m2, b, d1, d2, x, h1, h2, e, i1, i2, f, s1, s2, c] r 0 (r.takeWhile digit).length
    rw [hp] at this
    refine Eq.trans this ?_
    unfold cut
    rw [List.drop_zero]
    have := List.take_left (l₁ := r.takeWhile digit) (l₂ := r.dropWhile digit)
    rwa [hr] at this
  have lz : ([y1, y2, y3, y4, a, m1, m2, b, d1, d2, x, h1, h2, e, i1, i2, f, s1, s2, c] ++ r.takeWhile digit).length = 20 + (r.takeWhile digit).length := by rw [List.length_append]; rfl
  rw [lz] at PZ
  clear hp htt hr lz I19
  generalize r.takeWhile digit = w at *
  generalize r.dropWhile digit = z at *
  refine asg_ (ρ' := [some (dS tt), some (.int tt.length), some (.int Y), some (.int MO), some (.int DD), some (.int HH), some (.int MI), some (.int SS), some (.int 19), some (.int 0), some (.int 20), none, none, none, none, none, none, none]) (d := .int 20) rfl rfl ?_
  refine (congrArg fin (execs_step (ρ' := [some (dS tt), some (.int tt.length), some (.int Y), some (.int MO), some (.int DD), some (.int HH), some (.int MI), some (.int SS), some (.int 19), some (.int 0), some (.int ((20 + w.length : Nat) : Int)), none, none, none, none, none, none, none]) ?_)).trans ?_
  · have := LJ (N - 1 - w.length)
    rw [show N - 1 - w.length + w.length + 1 = N by lia] at this
    exact congrArg noExc this
  clear LJ
  refine asg_ (ρ' := [some (dS tt), some (.int tt.length), some (.int Y), some (.int MO), some (.int DD), some (.int HH), some (.int MI), some (.int SS), some (.int 19), some (.int 0), some (.int ((20 + w.length : Nat) : Int)), some (.int w.length), none, none, none, none, none, none]) (d := .int w.length) (congrArg (fun i => R.ok (PyData.int i)) (show ((20 + w.length : Nat) : Int) - 19 - 1 = (w.length : Int) by lia)) rfl ?_
  refine if_ (P := w.length < 1 ∨ w.length > 9) (ev_or (P := w.length < 1) (Q := w.length > 9) (congrArg (fun b => R.ok (PyData.bool b)) (decide_eq_decide.mpr (show (w.length : Int) < 1 ↔ w.length < 1 by lia))) fun _ => congrArg (fun b => R.ok (PyData.bool b)) (decide_eq_decide.mpr (show (9 : Int) < (w.length : Int) ↔ w.length > 9 by lia))) (fun g => by rw [if_pos g]; rfl) (fun g7 => ?_)
  rw [if_neg g7]
  have hds : run T N (k + 5) 9 [dS tt, .int 20, .int ((20 + w.length : Nat) : Int)] = .ok (.int (digitsVal w)) := by
    refine (run_digits hT (N := N) (n := k + 5) (Nat.le_add_left 1 _) tt 20 (20 + w.length) (Nat.le_add_right _ _) (by lia) (by lia)).trans ?_
    rw [hc]
    exact congrArg (fun i => R.ok (PyData.int i)) (if_pos hall)
  generalize digitsVal w = V at hds ⊢
  refine asg_ (ρ' := [some (dS tt), some (.int tt.length), some (.int Y), some (.int MO), some (.int DD), some (.int HH), some (.int MI), some (.int SS), some (.int 19), some (.int V), some (.int ((20 + w.length : Nat) : Int)), some (.int w.length), none, none, none, none, none, none]) (d := .int V) (ev_call3 (x := dS tt) (y := .int 20) (z := .int ((20 + w.length : Nat) : Int)) rfl rfl rfl hds) rfl ?_
  refine asg_ (ρ' := [some (dS tt), some (.int tt.length), some (.int Y), some (.int MO), some (.int DD), some (.int HH), some (.int MI), some (.int SS), some (.int 19), some (.int V), some (.int ((20 + w.length : Nat) : Int)), some (.int w.length), some (.int w.length), none, none, none, none, none]) (d := .int w.length) rfl rfl ?_
  have LK := loop_k (T := T) (N := N) (n := k + 5) (some (dS tt)) (some (.int tt.length)) (some (.int Y)) (some (.int MO)) (some (.int DD)) (some (.int HH)) (some (.int MI)) (some (.int SS)) (some (.int 19)) (some (.int ((20 + w.length : Nat) : Int))) (some (.int w.length)) none none none none none (9 - w.length) (N - 1 - (9 - w.length)) V (Nat.sub_le _ _)
  rw [show N - 1 - (9 - w.length) + (9 - w.length) + 1 = N by lia, show 9 - (9 - w.length) = w.length by lia] at LK
  refine (congrArg fin (execs_step (ρ' := [some (dS tt), some (.int tt.length), some (.int Y), some (.int MO), some (.int DD), some (.int HH), some (.int MI), some (.int SS), some (.int 19), some (.int (V * 10 ^ (9 - w.length))), some (.int ((20 + w.length : Nat) : Int)), some (.int w.length), some (.int 9), none, none, none, none, none]) ?_)).trans ?_
  · exact congrArg noExc LK
  refine asg_ (ρ' := [some (dS tt), some (.int tt.length), some (.int Y), some (.int MO), some (.int DD), some (.int HH), some (.int MI), some (.int SS), some (.int ((20 + w.length : Nat) : Int)), some (.int (V * 10 ^ (9 - w.length))), some (.int ((20 + w.length : Nat) : Int)), some (.int w.length), some (.int 9), none, none, none, none, none]) (d := .int ((20 + w.length : Nat) : Int)) rfl rfl ?_
  exact PZ _ _ _ _
end Mine

namespace Mine
open PySem

theorem padN (v : Int) (w : Nat) (h0 : 0 ≤ v) (h1 : v < 10 ^ (w + 1)) : padL v (w + 1) = dig (w + 1) v.toNat := by
  obtain ⟨n, rfl⟩ : ∃ n : Nat, v = n := ⟨v.toNat, by first | assumption | rfl | exact Nat.le_add_left _ _ | decide | lia⟩
  rw [Int.toNat_natCast]
  exact padL_dig w n (by exact_mod_cast h1)

theorem itoa_length {v : Nat} (w : Nat) (h : v < 10 ^ (w + 1)) : (itoa (v : Int)).length ≤ w + 1 := by
  have := congrArg List.length (padL_dig w v h)
  simp [padL, dig_length] at this
  lia

theorem run_padN {T : List Fn} (hT : IsT T) {N n : Nat} (hn : 1 ≤ n) (hN : 10 ≤ N) (v : Int) (w : Nat) (hw : w + 1 ≤ 9) (h0 : 0 ≤ v) (h1 : v < 10 ^ (w + 1)) (b : Int) (hb : b = ((w + 1 : Nat) : Int)) :
    run T N n 11 [.int v, .int b] = .ok (dS (dig (w + 1) v.toNat)) := by
  subst hb
  have h2 : v < 1000000000 := by
    have : (10 : Int) ^ (w + 1) ≤ 10 ^ 9 := by
      exact_mod_cast Nat.pow_le_pow_right (by first | assumption | rfl | exact Nat.le_add_left _ _ | decide | lia) hw
    lia
  rw [run_pad hT hn hN v (w + 1) (by unfold smallI; simp; lia) hw ?_, padN v w h0 h1]
  obtain ⟨n, rfl⟩ : ∃ n : Nat, v = n := ⟨v.toNat, by first | assumption | rfl | exact Nat.le_add_left _ _ | decide | lia⟩
  have := itoa_length (v := n) w (by exact_mod_cast h1)
  lia

noncomputable def headL (s : St) (x : Nat) : List Nat :=
  dig 4 s.y.toNat ++ [45] ++ dig 2 s.mo.toNat ++ [45] ++ dig 2 s.d.toNat ++ [x] ++ dig 2 s.h.toNat ++ [58] ++ dig 2 s.mi.toNat ++ [58] ++ dig 2 s.se.toNat
theorem headL_length (s : St) (x : Nat) : (headL s x).length = 19 := by first | rfl | simp [headL, dig_length]
noncomputable def fracL (ns : Int) : List Nat := if ns = 0 then [] else 46 :: rstripL [48] (dig 9 ns.toNat)
noncomputable def zoneL : Option Int → List Nat
  | none => [45, 48, 48, 58, 48, 48]
  | some o => if o = 0 then [90] else if o < 0 then 45 :: (dig 2 (-o / 60).toNat ++ [58] ++ dig 2 (-o % 60).toNat) else 43 :: (dig 2 (o / 60).toNat ++ [58] ++ dig 2 (o % 60).toNat)
noncomputable def fmtL (s : St) : List Nat := headL s 84 ++ fracL s.ns ++ zoneL s.off

theorem rstripL_snoc (x : List Nat) (c : Nat) : rstripL [48] (x ++ [c]) = if c = 48 then rstripL [48] x else x ++ [c] := by
  unfold rstripL
  rw [List.reverse_append, List.reverse_singleton, List.singleton_append]
  by_cases h : c = 48
  · rw [List.dropWhile_cons_of_pos (by first | rfl | simp [h]), if_pos h]
  · rw [List.dropWhile_cons_of_neg (by first | rfl | simp [h]), if_neg h]; first | rfl | simp
theorem rstripL_length (cs x : List Nat) : (rstripL cs x).length ≤ x.length := by
  unfold rstripL
  rw [List.length_reverse]
  have := (List.dropWhile_sublist (fun c => cs.contains c) (l := x.reverse)).length_le
  simpa using this

theorem loop_end {T : List Fn} {N n : Nat} (f : List Nat) (o0 o1 o2 o5 o6 o7 : Option PyData) : ∀ (e m : Nat), e ≤ f.length →
    loopW (fun ρ => ev (run T N n) (.and (.cmp .gt (.loc 4) (.cst (.int 0))) (.cmp .eq (.idx (.loc 3) (.bin .sub (.loc 4) (.cst (.int 1)))) (.cst (.str (PySem.Str.mk #[48]))))) ρ)
      (fun ρ => execs (run T N n) N [(.asg 4 (.bin .sub (.loc 4) (.cst (.int 1))))] ρ) (m + e + 1)
      [o0, o1, o2, some (dS f), some (.int e), o5, o6, o7] = .ok (.next [o0, o1, o2, some (dS f), some (.int (rstripL [48] (f.take e)).length), o5, o6, o7]) ∧ f.take (rstripL [48] (f.take e)).length = rstripL [48] (f.take e) := by
  intro e
  induction e with
  | zero =>
    intro m _
    refine ⟨?_, by first | rfl | simp [rstripL]⟩
    rw [loopW_false (by first | rfl | simp)]
    first | rfl | simp [rstripL]
  | succ e ih =>
    intro m h
    have he : e < f.length := by first | assumption | rfl | exact Nat.le_add_left _ _ | decide | lia
    have hi : index (dS f) (.int e) = .ok (dS [f[e]]) := index_pre [] f e he _ (by first | rfl | simp)
    have ht : ev (run T N n) (.and (.cmp .gt (.loc 4) (.cst (.int 0))) (.cmp .eq (.idx (.loc 3) (.bin .sub (.loc 4) (.cst (.int 1)))) (.cst (.str (PySem.Str.mk #[48]))))) [o0, o1, o2, some (dS f), some (.int ((e + 1 : Nat) : Int)), o5, o6, o7] = .ok (.bool (decide (f[e] = 48))) := by
      dsimp only [evE_loc, evE_cst, evE_bin, evE_neg, evE_not, evE_and, evE_or, evE_ite, evE_tup, evE_lst, evE_cmp, evE_chain, evE_isNone, evE_isNotNone, evE_typeIs, evE_idx, evE_sliceTo, evE_sliceFrom, evE_slice, evE_call, evE_b1, evE_b2, evE_join, evE_rstrip, evE_replace, evE_dget, evE_all, evE_anyZip, getL_0, getL_s, R.bind_ok, cmpop_5, truthy_1, show (0 : Int) < ((e + 1 : Nat) : Int) by first | assumption | rfl | exact Nat.le_add_left _ _ | decide | lia, decide_true, binop_2]
      rw [show ((e + 1 : Nat) : Int) - 1 = e by first | assumption | rfl | exact Nat.le_add_left _ _ | decide | lia, hi]
      first | rfl | simp
    rw [List.take_succ_eq_append_getElem he, rstripL_snoc]
    by_cases hc : f[e] = 48
    · rw [if_pos hc]
      obtain ⟨a, b⟩ := ih m (by first | assumption | rfl | exact Nat.le_add_left _ _ | decide | lia)
      refine ⟨?_, b⟩
      rw [show m + (e + 1) + 1 = (m + e + 1) + 1 by first | assumption | rfl | exact Nat.le_add_left _ _ | decide | lia, loopW_true (ρ' := [o0, o1, o2, some (dS f), some (.int e), o5, o6, o7]) (by rw [ht, decide_eq_true hc]) (by first | rfl | simp [execsE_nil, execsE_cons, execE_ret, execE_asg, execE_asgT, execE_ite, execE_whl, execE_forRange, execE_forTup, execE_forZip, execE_raise, execE_tryAsg]), a]
    · rw [if_neg hc]
      refine ⟨?_, ?_⟩
      · rw [loopW_false (by rw [ht, decide_eq_false hc])]
        simp; lia
      · rw [show (f.take e ++ [f[e]]).length = e + 1 by simp; lia, List.take_succ_eq_append_getElem he]

theorem run_format {T : List Fn} (hT : IsT T) {N n : Nat} (hn : 6 ≤ n) (hN : 20 ≤ N) (s : St) : run T N n 12 [s.D] = if s.valid then .ok (dS (fmtL s)) else .exc false := by
  obtain ⟨k, rfl⟩ := Nat.exists_eq_add_of_le' hn
  rw [run_at (hT.at_ 12 p_format_stamp rfl) rfl]
  refine if_ (P := ¬ s.valid) (ev_not (ev_call1 (x := s.D) rfl (run_is_valid hT (Nat.le_add_left 5 k) (by lia) s))) (fun v => by rw [if_neg v]; rfl) (fun q => ?_)
  have v := Classical.not_not.mp q
  clear q
  rw [if_pos v]
  obtain ⟨⟨a1, a2, a3, a4, a5, a6, a7⟩, a8⟩ := v
  have hm : mLen s.y s.mo ≤ 31 := by unfold mLen; (repeat' split) <;> lia
  have hse : 0 ≤ s.se ∧ s.se ≤ 60 := by rcases a8 with z | z <;> lia
  have P := fun (v : Int) (w : Nat) (hw : w + 1 ≤ 9) (h0 : 0 ≤ v) (h1 : v < 10 ^ (w + 1)) (b : Int) (hb : b = ((w + 1 : Nat) : Int)) => run_padN hT (N := N) (n := k + 5) (Nat.le_add_left 1 _) (by lia) v w hw h0 h1 b hb
  refine asg_ (ρ' := [some s.D, some (dS (dig 4 s.y.toNat ++ [45] ++ dig 2 s.mo.toNat ++ [45] ++ dig 2 s.d.toNat)), none, none, none, none, none, none]) (ev_add (ev_add (ev_add (ev_add (x := dig 4 s.y.toNat) (y := [45]) (ev_call2 (x := .int s.y) (y := .int 4) rfl rfl (P s.y 3 (by decide) a1.1 (by lia) 4 rfl)) rfl ?_) (ev_call2 (x := .int s.mo) (y := .int 2) rfl rfl (P s.mo 1 (by decide) (by lia) (by lia) 2 rfl)) ?_) (y := [45]) rfl ?_) (ev_call2 (x := .int s.d) (y := .int 2) rfl rfl (P s.d 1 (by decide) (by lia) (by lia) 2 rfl)) ?_) rfl ?_
  · simp only [List.length_append, dig_length, List.length_singleton]; decide
  · simp only [List.length_append, dig_length, List.length_singleton]; decide
  · simp only [List.length_append, dig_length, List.length_singleton]; decide
  · simp only [List.length_append, dig_length, List.length_singleton]; decide
  refine asg_ (ρ' := [some s.D, some (dS (headL s 84)), none, none, none, none, none, none]) (d := dS (headL s 84)) (ev_add (ev_add (ev_add (ev_add (ev_add (ev_add (y := [84]) rfl rfl ?_) (ev_call2 (x := .int s.h) (y := .int 2) rfl rfl (P s.h 1 (by decide) (by lia) (by lia) 2 rfl)) ?_) (y := [58]) rfl ?_) (ev_call2 (x := .int s.mi) (y := .int 2) rfl rfl (P s.mi 1 (by decide) (by lia) (by lia) 2 rfl)) ?_) (y := [58]) rfl ?_) (ev_call2 (x := .int s.se) (y := .int 2) rfl rfl (P s.se 1 (by decide) (by lia) (by lia) 2 rfl)) ?_) rfl ?_
  · simp only [List.length_append, dig_length, List.length_singleton]; decide
  · simp only [List.length_append, dig_length, List.length_singleton]; decide
  · simp only [List.length_append, dig_length, List.length_singleton]; decide
  · simp only [List.length_append, dig_length, List.length_singleton]; decide
  · simp only [List.length_append, dig_length, List.length_singleton]; decide
  · simp only [List.length_append, dig_length, List.length_singleton]; decide
  refine asg_ (ρ' := [some s.D, some (dS (headL s 84)), some (.int s.ns), none, none, none, none, none]) (d := .int s.ns) rfl rfl ?_
  have key : ∀ (o3 o4 : Option PyData), fin (execs (run T N (k + 5)) N (p_format_stamp.body.drop 5) [some s.D, some (dS (headL s 84 ++ fracL s.ns)), some (.int s.ns), o3, o4, none, none, none]) = .ok (dS (fmtL s)) := by
    intro o3 o4
    have hfl : (headL s 84 ++ fracL s.ns).length ≤ 29 := by
      rw [List.length_append, headL_length]
      unfold fracL
      split
      · exact Nat.le_add_right 19 10
      · have := rstripL_length [48] (dig 9 s.ns.toNat)
        rw [dig_length] at this
        rw [List.length_cons]; lia
    unfold fmtL
    generalize headL s 84 ++ fracL s.ns = tx at hfl ⊢
    refine asg_ (ρ' := [some s.D, some (dS tx), some (.int s.ns), o3, o4, some (offD s.off), none, none]) (d := offD s.off) rfl rfl ?_
    cases ho : s.off with
    | none => exact take_ rfl (retO_ (ev_add (y := [45, 48, 48, 58, 48, 48]) rfl rfl (show tx.length + 6 ≤ _ by lia)))
    | some o =>
      rw [ho, shift_some] at a7
      refine skip_ rfl ?_
      refine if_ (P := o = 0) rfl (fun h0 => ?_) (fun h0 => ?_)
      · rw [show zoneL (some o) = [90] from if_pos h0]
        exact retO_ (ev_add (y := [90]) rfl rfl (show tx.length + 1 ≤ _ by lia))
      rw [show zoneL (some o) = if o < 0 then 45 :: (dig 2 (-o / 60).toNat ++ [58] ++ dig 2 (-o % 60).toNat) else 43 :: (dig 2 (o / 60).toNat ++ [58] ++ dig 2 (o % 60).toNat) from if_neg h0]
      have tail : ∀ (c : Nat) (z : Int), 0 ≤ z → z ≤ 1439 → fin (execs (run T N (k + 5)) N (p_format_stamp.body.drop 9) [some s.D, some (dS tx), some (.int s.ns), o3, o4, some (.int o), some (dS [c]), some (.int z)]) = .ok (dS (tx ++ (c :: (dig 2 (z / 60).toNat ++ [58] ++ dig 2 (z % 60).toNat)))) := fun c z z0 z1 => by
        refine (retO_ (ev_add (ev_add (ev_add (ev_add (x := tx) (y := [c]) rfl rfl ?_) (ev_call2 (x := .int (z / 60)) (y := .int 2) rfl rfl (P (z / 60) 1 (by decide) (by lia) (by lia) 2 rfl)) ?_) (y := [58]) rfl ?_) (ev_call2 (x := .int (z % 60)) (y := .int 2) rfl rfl (P (z % 60) 1 (by decide) (by lia) (by lia) 2 rfl)) ?_)).trans (congrArg (fun l => R.ok (dS l)) ?_)
        · simp only [List.length_singleton]; lia
        · simp only [List.length_append, dig_length, List.length_singleton]; lia
        · simp only [List.length_append, dig_length, List.length_singleton]; lia
        · simp only [List.length_append, dig_length, List.length_singleton]; lia
        · simp only [List.append_assoc, List.cons_append, List.nil_append]
      refine if_ (P := o < 0) rfl (fun hneg => ?_) (fun hneg => ?_)
      · rw [if_pos hneg]
        exact asg_ (d := dS [45]) rfl rfl (asg_ (d := .int (-o)) rfl rfl (tail 45 (-o) (by lia) (by lia)))
      · rw [if_neg hneg]
        exact asg_ (d := dS [43]) rfl rfl (asg_ (d := .int o) rfl rfl (tail 43 o (by lia) (by lia)))
  refine if_ (P := ¬ s.ns = 0) ((ev_cmp (x := .int s.ns) (y := .int 0) rfl rfl).trans (by rw [cmpop_2, deq_1, decide_not]; rfl)) (fun hz => ?_) (fun hz => ?_)
  · refine asg_ (ρ' := [some s.D, some (dS (headL s 84)), some (.int s.ns), some (dS (dig 9 s.ns.toNat)), none, none, none, none]) (d := dS (dig 9 s.ns.toNat)) (ev_call2 (x := .int s.ns) (y := .int 9) rfl rfl (P s.ns 8 (by decide) a6.1 (by lia) 9 rfl)) rfl ?_
    refine asg_ (ρ' := [some s.D, some (dS (headL s 84)), some (.int s.ns), some (dS (dig 9 s.ns.toNat)), some (.int 9), none, none, none]) (d := .int 9) (congrArg (fun n : Nat => R.ok (PyData.int (n : Int))) (dig_length 9 s.ns.toNat)) rfl ?_
    obtain ⟨LE, LT⟩ := loop_end (T := T) (N := N) (n := k + 5) (dig 9 s.ns.toNat) (some s.D) (some (dS (headL s 84))) (some (.int s.ns)) none none none 9 (N - 10) (by rw [dig_length]; exact Nat.le_refl 9)
    rw [show N - 10 + 9 + 1 = N by lia] at LE
    have h9 : (dig 9 s.ns.toNat).take 9 = dig 9 s.ns.toNat := List.take_of_length_le (by rw [dig_length]; exact Nat.le_refl 9)
    rw [h9] at LE LT
    have hl := rstripL_length [48] (dig 9 s.ns.toNat)
    have hfr : fracL s.ns = 46 :: rstripL [48] (dig 9 s.ns.toNat) := if_neg hz
    rw [dig_length] at hl
    generalize rstripL [48] (dig 9 s.ns.toNat) = r at LE LT hl hfr
    refine (congrArg fin (execs_step (ρ' := [some s.D, some (dS (headL s 84)), some (.int s.ns), some (dS (dig 9 s.ns.toNat)), some (.int r.length), none, none, none]) ?_)).trans ?_
    · exact congrArg noExc LE
    refine asg_ (ρ' := [some s.D, some (dS (headL s 84 ++ fracL s.ns)), some (.int s.ns), some (dS (dig 9 s.ns.toNat)), some (.int r.length), none, none, none]) (d := dS (headL s 84 ++ fracL s.ns)) ?_ rfl (key _ _)
    have hsl : ev (run T N (k + 5)) (.slice (.loc 3) (.cst (.int 0)) (.loc 4)) [some s.D, some (dS (headL s 84)), some (.int s.ns), some (dS (dig 9 s.ns.toNat)), some (.int r.length), none, none, none] = .ok (dS r) := by
      show R.ok (dS (cut (dig 9 s.ns.toNat) (bound 0 (dig 9 s.ns.toNat).length) (bound (r.length : Int) (dig 9 s.ns.toNat).length))) = _
      rw [dig_length]
      have hb : bound (r.length : Int) 9 = r.length := by unfold bound; rw [if_neg (by lia)]; exact Nat.min_eq_left (by lia)
      rw [hb, show bound 0 9 = 0 from rfl]
      unfold cut; rw [LT]; rfl
    rw [hfr]
    refine (ev_add (ev_add (y := [46]) rfl rfl (by rw [headL_length]; decide)) hsl ?_).trans (congrArg (fun l => R.ok (dS l)) (List.append_assoc _ _ _))
    rw [List.length_append, headL_length, List.length_singleton]; lia
  · have := key none none
    rw [show fracL s.ns = [] from if_pos (Classical.not_not.mp hz), List.append_nil] at this
    exact this

theorem run_to_instant {T : List Fn} (hT : IsT T) {N n : Nat} (hn : 5 ≤ n) (s : St) (h1 : 1 ≤ s.mo) (h2 : s.mo ≤ 12) :
    run T N n 13 [s.D] = .ok (.tuple [.int (s.t / 1440), .int (s.t % 1440 * 60 + s.se), .int s.ns]) := by
  obtain ⟨k, rfl⟩ := Nat.exists_eq_add_of_le' hn
  rw [run_at (hT.at_ 13 p_to_instant rfl) rfl]
  exact retO_ (ev_call1 (x := s.D) rfl (run_instant hT (N := N) (n := k + 4) (Nat.le_add_left 4 k) s h1 h2))
end Mine
namespace Mine
open PySem
noncomputable def instSt (d s n : Int) (off : Option Int) : St :=
  let t := d * 1440 + (if s ≠ 86400 then s / 60 else 1439) + shift off
  ⟨cY (t / 1440), cMo (t / 1440), cD (t / 1440), t % 1440 / 60, t % 1440 % 60, if s = 86400 then 60 else s % 60, n, off⟩
noncomputable def instT (d s : Int) (off : Option Int) : Int := d * 1440 + (if s ≠ 86400 then s / 60 else 1439) + shift off
noncomputable def instOk (d s n : Int) (off : Option Int) : Prop := (0 ≤ instT d s off ∧ instT d s off < 3652425 * 1440) ∧ (0 ≤ s ∧ s ≤ 86400) ∧ (instSt d s n off).valid
noncomputable instance (d s n : Int) (off : Option Int) : Decidable (instOk d s n off) := by unfold instOk; infer_instance

theorem run_from_instant {T : List Fn} (hT : IsT T) {N n : Nat} (hn : 6 ≤ n) (hN : 12 ≤ N) (d s ns : Int) (off : Option Int) :
    run T N n 14 [.tuple [.int d, .int s, .int ns], offD off] = if instOk d s ns off then .ok (instSt d s ns off).D else .exc false := by
  obtain ⟨k, rfl⟩ := Nat.exists_eq_add_of_le' hn
  rw [run_at (hT.at_ 14 p_from_instant rfl) rfl]
  refine asgT_ (ρ' := [some (.tuple [.int d, .int s, .int ns]), some (offD off), some (.int d), some (.int s), some (.int ns), none, none, none, none, none, none, none]) (l := [.int d, .int s, .int ns]) rfl rfl ?_
  obtain ⟨md, hmd⟩ : ∃ md, (if s ≠ 86400 then s / 60 else 1439) = md := ⟨_, rfl⟩
  have e1 : ∀ {r : List PS} {w : R PyData}, fin (execs (run T N (k + 5)) N r [some (.tuple [.int d, .int s, .int ns]), some (offD off), some (.int d), some (.int s), some (.int ns), some (.int md), none, none, none, none, none, none]) = w → fin (execs (run T N (k + 5)) N ((.ite (.cmp .ne (.loc 3) (.cst (.int 86400))) [(.asg 5 (.bin .div (.loc 3) (.cst (.int 60))))] [(.asg 5 (.cst (.int 1439)))]) :: r) [some (.tuple [.int d, .int s, .int ns]), some (offD off), some (.int d), some (.int s), some (.int ns), none, none, none, none, none, none, none]) = w := fun {r w} kk => by
    refine if_ (P := ¬ s = 86400) ((ev_cmp (x := .int s) (y := .int 86400) rfl rfl).trans (by rw [cmpop_2, deq_1, decide_not]; rfl)) (fun h => ?_) (fun h => ?_)
    · rw [if_pos h] at hmd; subst hmd; exact asg_ (d := .int (s / 60)) rfl rfl kk
    · rw [if_neg h] at hmd; subst hmd; exact asg_ (d := .int 1439) rfl rfl kk
  refine e1 (asg_ (ρ' := [some (.tuple [.int d, .int s, .int ns]), some (offD off), some (.int d), some (.int s), some (.int ns), some (.int md), some (offD off), none, none, none, none, none]) (d := offD off) rfl rfl ?_)
  clear e1
  have e2 : ∀ {r : List PS} {w : R PyData}, fin (execs (run T N (k + 5)) N r [some (.tuple [.int d, .int s, .int ns]), some (offD off), some (.int d), some (.int s), some (.int ns), some (.int md), some (.int (shift off)), none, none, none, none, none]) = w → fin (execs (run T N (k + 5)) N ((.ite (.isNone (.loc 6)) [(.asg 6 (.cst (.int 0)))] []) :: r) [some (.tuple [.int d, .int s, .int ns]), some (offD off), some (.int d), some (.int s), some (.int ns), some (.int md), some (offD off), none, none, none, none, none]) = w := fun {r w} kk => by
    cases off with
    | none => exact take_ rfl (asg_ (d := .int 0) rfl rfl kk)
    | some o => exact skip_ rfl kk
  refine e2 ?_
  clear e2
  have hT' : instT d s off = d * 1440 + md + shift off := by unfold instT; rw [hmd]
  have hS : instSt d s ns off = ⟨cY (instT d s off / 1440), cMo (instT d s off / 1440), cD (instT d s off / 1440), instT d s off % 1440 / 60, instT d s off % 1440 % 60, if s = 86400 then 60 else s % 60, ns, off⟩ := rfl
  refine asg_ (ρ' := [some (.tuple [.int d, .int s, .int ns]), some (offD off), some (.int d), some (.int s), some (.int ns), some (.int md), some (.int (shift off)), some (.int (instT d s off)), none, none, none, none]) (d := .int (instT d s off)) ?_ rfl ?_
  · rw [hT']
    exact (ev_bin (x := .int (d * 1440 + md)) (y := .int (shift off)) ((ev_bin (x := .int (d * 1440)) (y := .int md) ((ev_bin (x := .int d) (y := .int 1440) rfl rfl).trans (mulR rfl)) rfl).trans rfl) rfl).trans rfl
  generalize htt : instT d s off = t at hS ⊢
  refine if_ (P := ¬ (0 ≤ t ∧ t < 3652425 * 1440)) (ev_not (ev_chainLt rfl rfl rfl)) (fun g1 => by rw [if_neg fun q => g1 (htt ▸ q.1)]; rfl) (fun q => ?_)
  have g1 := Classical.not_not.mp q; clear q
  refine if_ (P := ¬ (0 ≤ s ∧ s ≤ 86400)) (ev_not (ev_chainLe rfl rfl rfl)) (fun g2 => by rw [if_neg fun q => g2 q.2.1]; rfl) (fun q => ?_)
  have g2 := Classical.not_not.mp q; clear q
  generalize hse : (if s = 86400 then (60 : Int) else s % 60) = se at hS
  have e3 : ∀ {r : List PS} {w : R PyData}, fin (execs (run T N (k + 5)) N r [some (.tuple [.int d, .int s, .int ns]), some (offD off), some (.int d), some (.int s), some (.int ns), some (.int md), some (.int (shift off)), some (.int t), some (.int se), none, none, none]) = w → fin (execs (run T N (k + 5)) N ((.ite (.cmp .eq (.loc 3) (.cst (.int 86400))) [(.asg 8 (.cst (.int 60)))] [(.asg 8 (.bin .mod (.loc 3) (.cst (.int 60))))]) :: r) [some (.tuple [.int d, .int s, .int ns]), some (offD off), some (.int d), some (.int s), some (.int ns), some (.int md), some (.int (shift off)), some (.int t), none, none, none, none]) = w := fun {r w} kk => by
    refine if_ (P := s = 86400) rfl (fun h => ?_) (fun h => ?_)
    · rw [if_pos h] at hse; subst hse; exact asg_ (d := .int 60) rfl rfl kk
    · rw [if_neg h] at hse; subst hse; exact asg_ (d := .int (s % 60)) rfl rfl kk
  refine e3 ?_
  clear e3
  refine asg_ (ρ' := [some (.tuple [.int d, .int s, .int ns]), some (offD off), some (.int d), some (.int s), some (.int ns), some (.int md), some (.int (shift off)), some (.int t), some (.int se), some (.tuple [.int (cY (t / 1440)), .int (cMo (t / 1440)), .int (cD (t / 1440))]), none, none]) (d := .tuple [.int (cY (t / 1440)), .int (cMo (t / 1440)), .int (cD (t / 1440))]) (ev_call1 (x := .int (t / 1440)) rfl (run_cFD hT (Nat.le_add_left 3 _) hN (t / 1440))) rfl ?_
  refine asg_ (ρ' := [some (.tuple [.int d, .int s, .int ns]), some (offD off), some (.int d), some (.int s), some (.int ns), some (.int md), some (.int (shift off)), some (.int t), some (.int se), some (.tuple [.int (cY (t / 1440)), .int (cMo (t / 1440)), .int (cD (t / 1440))]), some (.int (t % 1440)), none]) (d := .int (t % 1440)) rfl rfl ?_
  refine asg_ (ρ' := [some (.tuple [.int d, .int s, .int ns]), some (offD off), some (.int d), some (.int s), some (.int ns), some (.int md), some (.int (shift off)), some (.int t), some (.int se), some (.tuple [.int (cY (t / 1440)), .int (cMo (t / 1440)), .int (cD (t / 1440))]), some (.int (t % 1440)), some (instSt d s ns off).D]) (d := (instSt d s ns off).D) (by rw [hS]; rfl) rfl ?_
  have hv := run_is_valid hT (N := N) (n := k + 5) (Nat.le_add_left 5 k) hN (instSt d s ns off)
  refine if_ (P := ¬ (instSt d s ns off).valid) (ev_not (ev_call1 (x := (instSt d s ns off).D) rfl hv)) (fun v => by rw [if_neg fun q => v q.2.2]; rfl) (fun q => ?_)
  rw [if_pos ⟨htt ▸ g1, g2, Classical.not_not.mp q⟩]
  exact retO_ rfl
end Mine

namespace Mine
open PySem

theorem dM_next {y m : Int} (h1 : 1 ≤ m) (h2 : m < 12) : dM y (m + 1) = dM y m + mLen y m := by
  unfold dM mLen
  generalize leapB y = b
  rcases twelve h1 (Int.le_of_lt h2) with h | h | h | h | h | h | h | h | h | h | h | h <;> subst h <;> first | exact absurd h2 (by decide) | (cases b <;> rfl)
theorem dM_last {y : Int} : dM y 12 + mLen y 12 = 365 + if leapB y = true then 1 else 0 := by
  unfold dM mLen aheadC; cases leapB y <;> (first | rfl | simp)
theorem mLen_bounds {y m : Int} : 28 ≤ mLen y m ∧ mLen y m ≤ 31 := by
  unfold mLen; split
  · split <;> lia
  · split <;> lia
theorem dM_mono {y : Int} {a b : Int} (ha : 1 ≤ a) (hab : a < b) (hb : b ≤ 12) : dM y a + mLen y a ≤ dM y b := by
  obtain ⟨k, rfl⟩ : ∃ k : Nat, b = a + 1 + k := ⟨(b - a - 1).toNat, by first | assumption | rfl | exact Nat.le_add_left _ _ | decide | lia⟩
  induction k with
  | zero => rw [show a + 1 + ((0 : Nat) : Int) = a + 1 by first | assumption | rfl | exact Nat.le_add_left _ _ | decide | lia, dM_next ha (by first | assumption | rfl | exact Nat.le_add_left _ _ | decide | lia)]; lia
  | succ k ih =>
    have := ih (by first | assumption | rfl | exact Nat.le_add_left _ _ | decide | lia) (by first | assumption | rfl | exact Nat.le_add_left _ _ | decide | lia)
    have e : a + 1 + ((k + 1 : Nat) : Int) = (a + 1 + (k : Int)) + 1 := by first | assumption | rfl | exact Nat.le_add_left _ _ | decide | lia
    rw [e, dM_next (by first | assumption | rfl | exact Nat.le_add_left _ _ | decide | lia) (by first | assumption | rfl | exact Nat.le_add_left _ _ | decide | lia)]
    have := (@mLen_bounds y (a + 1 + (k : Int))).1
    lia
theorem dM_le {y m : Int} (h1 : 1 ≤ m) (h2 : m ≤ 12) : 0 ≤ dM y m ∧ dM y m + mLen y m ≤ 365 + if leapB y = true then 1 else 0 := by
  constructor
  · unfold dM aheadC
    repeat' split
    all_goals lia
  · rcases Int.lt_or_eq_of_le h2 with h | h
    · have := @dM_mono y m 12 h1 h (by first | assumption | rfl | exact Nat.le_add_left _ _ | decide | lia)
      have := @dM_last y
      have := (@mLen_bounds y 12).1
      lia
    · rw [h]; exact Int.le_of_eq dM_last

theorem dFC_in {y m d : Int} (h1 : 1 ≤ m) (h2 : m ≤ 12) (h3 : 1 ≤ d) (h4 : d ≤ mLen y m) : dY y ≤ dFC y m d ∧ dFC y m d < dY (y + 1) := by
  have := @dM_le y m h1 h2
  have := dY_succ y
  unfold dFC
  lia
theorem dY_inj {a b n : Int} (h1 : dY a ≤ n) (h2 : n < dY (a + 1)) (h3 : dY b ≤ n) (h4 : n < dY (b + 1)) : a = b := by
  rcases Int.lt_trichotomy a b with h | h | h
  · have := @dY_mono (a + 1) b (by first | assumption | rfl | exact Nat.le_add_left _ _ | decide | lia); lia
  · exact h
  · have := @dY_mono (b + 1) a (by first | assumption | rfl | exact Nat.le_add_left _ _ | decide | lia); lia

theorem cY_dFC {y m d : Int} (h1 : 1 ≤ m) (h2 : m ≤ 12) (h3 : 1 ≤ d) (h4 : d ≤ mLen y m) : cY (dFC y m d) = y := by
  obtain ⟨a, b⟩ := dFC_in h1 h2 h3 h4
  obtain ⟨c, e⟩ := cY_spec (dFC y m d)
  exact dY_inj c e a b
theorem cMo_dFC {y m d : Int} (h1 : 1 ≤ m) (h2 : m ≤ 12) (h3 : 1 ≤ d) (h4 : d ≤ mLen y m) : cMo (dFC y m d) = m := by
  have hy := cY_dFC h1 h2 h3 h4
  have hr : cR (dFC y m d) = dM y m + d - 1 := by unfold cR; rw [hy]; unfold dFC; lia
  unfold cMo
  rw [hy, hr]
  obtain ⟨a, b, c, e⟩ := cM_spec y (dM y m + d - 1) (by have := (@dM_le y m h1 h2).1; lia) 12 (by first | assumption | rfl | exact Nat.le_add_left _ _ | decide | lia)
  generalize cM y (dM y m + d - 1) 12 = k at *
  rcases Int.lt_trichotomy k m with h | h | h
  · have := e m h (by first | assumption | rfl | exact Nat.le_add_left _ _ | decide | lia); lia
  · exact h
  · have := @dM_mono y m k h1 h (by first | assumption | rfl | exact Nat.le_add_left _ _ | decide | lia); lia
theorem cD_dFC {y m d : Int} (h1 : 1 ≤ m) (h2 : m ≤ 12) (h3 : 1 ≤ d) (h4 : d ≤ mLen y m) : cD (dFC y m d) = d := by
  unfold cD
  rw [cMo_dFC h1 h2 h3 h4, cY_dFC h1 h2 h3 h4]
  unfold cR
  rw [cY_dFC h1 h2 h3 h4]
  unfold dFC; lia

theorem cMo_bounds (n : Int) : 1 ≤ cMo n ∧ cMo n ≤ 12 := by
  obtain ⟨a, b, _, _⟩ := cM_spec (cY n) (cR n) (cR_nonneg n) 12 (by first | assumption | rfl | exact Nat.le_add_left _ _ | decide | lia)
  exact ⟨a, b⟩
theorem cD_bounds (n : Int) : 1 ≤ cD n ∧ cD n ≤ mLen (cY n) (cMo n) := by
  obtain ⟨a, b, c, e⟩ := cM_spec (cY n) (cR n) (cR_nonneg n) 12 (by first | assumption | rfl | exact Nat.le_add_left _ _ | decide | lia)
  unfold cD cMo
  refine ⟨by first | assumption | rfl | exact Nat.le_add_left _ _ | decide | lia, ?_⟩
  generalize hk : cM (cY n) (cR n) 12 = k at *
  rcases Int.lt_or_eq_of_le b with h | h
  · have := e (k + 1) (by first | assumption | rfl | exact Nat.le_add_left _ _ | decide | lia) (by first | assumption | rfl | exact Nat.le_add_left _ _ | decide | lia)
    rw [dM_next a (by first | assumption | rfl | exact Nat.le_add_left _ _ | decide | lia)] at this
    lia
  · have h' : k = 12 := h
    subst h'
    have q1 := @dM_last (cY n)
    have q2 := dY_succ (cY n)
    have q3 := (cY_spec n).2
    have hr : cR n = n - dY (cY n) := rfl
    rw [hr]
    by_cases hl : leapB (cY n) = true
    · rw [if_pos hl] at q1 q2; lia
    · rw [if_neg hl] at q1 q2; lia
theorem dFC_back (n : Int) : dFC (cY n) (cMo n) (cD n) = n := by
  unfold dFC cD cR; lia

noncomputable def lawDays (y m d : Int) : Int :=
  let y' := if m < 3 then y - 1 else y
  let m' := if m < 3 then m + 12 else m
  365 * y' + y' / 4 - y' / 100 + y' / 400 + (153 * (m' - 3) + 2) / 5 + d + 59
theorem dY_alt (y : Int) : dY y = 365 * (y - 1) + (y - 1) / 4 - (y - 1) / 100 + (y - 1) / 400 + 366 := by
  have a : (y + 3) / 4 = (y - 1) / 4 + 1 := by lia
  have b : (y + 99) / 100 = (y - 1) / 100 + 1 := by lia
  have c : (y + 399) / 400 = (y - 1) / 400 + 1 := by lia
  unfold dY
  rw [a, b, c]
  generalize (y - 1) / 4 = i
  generalize (y - 1) / 100 = j
  generalize (y - 1) / 400 = k
  lia
theorem dY_leap (y : Int) : 365 * y + y / 4 - y / 100 + y / 400 = dY y - 1 + if leapB y = true then 1 else 0 := by
  have h1 := dY_succ y
  have h2 := dY_alt (y + 1)
  rw [Int.add_sub_cancel] at h2
  lia
theorem early {m : Int} (h1 : 1 ≤ m) (h : m < 3) : (153 * (m + 12 - 3) + 2) / 5 = 306 + aheadC m := by
  rcases Int.lt_or_eq_of_le h1 with q | q
  · rw [show m = 2 by first | assumption | rfl | exact Nat.le_add_left _ _ | decide | lia]; rfl
  · rw [← q]; rfl
theorem late {m : Int} (h1 : 3 ≤ m) (h2 : m ≤ 12) : (153 * (m - 3) + 2) / 5 = aheadC m - 59 := by
  rcases twelve (Int.le_trans (by decide) h1) h2 with h | h | h | h | h | h | h | h | h | h | h | h <;> subst h <;> first | rfl | exact absurd h1 (by decide)
theorem lawDays_dFC {y m d : Int} (h1 : 1 ≤ m) (h2 : m ≤ 12) : lawDays y m d = dFC y m d := by
  unfold lawDays dFC dM
  by_cases h : m < 3
  · simp only [if_pos h]
    rw [early h1 h, dY_alt y, if_neg fun q => absurd q.1 (by first | assumption | rfl | exact Nat.le_add_left _ _ | decide | lia)]
    generalize 365 * (y - 1) + (y - 1) / 4 - (y - 1) / 100 + (y - 1) / 400 = a
    generalize aheadC m = b
    clear h1 h2 h
    lia
  · simp only [if_neg h]
    rw [late (by first | assumption | rfl | exact Nat.le_add_left _ _ | decide | lia) h2, dY_leap y]
    have e : (if 2 < m ∧ leapB y = true then (1 : Int) else 0) = if leapB y = true then 1 else 0 := by
      cases leapB y
      · rw [if_neg fun q => Bool.noConfusion q.2]; rfl
      · rw [if_pos ⟨by first | assumption | rfl | exact Nat.le_add_left _ _ | decide | lia, rfl⟩]; rfl
    rw [e]
    generalize aheadC m = b
    generalize dY y = a
    generalize (if leapB y = true then (1 : Int) else 0) = l
    clear h1 h2 h e
    lia
theorem dY_10000 : dY 10000 = 3652425 := by decide
theorem dY_0 : dY 0 = 0 := by decide
end Mine

namespace Mine
open PySem

noncomputable def lawLeap (t y : Int) : Prop := 0 ≤ t ∧ (t + 1 = 1440 * lawDays y 1 1 ∨ t + 1 = 1440 * lawDays y 7 1 ∨ t + 1 = 1440 * lawDays (y + 1) 1 1)

theorem dFC_1231 (y : Int) : dFC y 12 31 = dY (y + 1) - 1 := by
  have h1 := @dM_last y
  have e : mLen y 12 = 31 := by unfold mLen; first | rfl | simp
  rw [e] at h1
  have := dY_succ y
  unfold dFC
  lia

theorem plain_day {s : St} (h : s.plain) : dY s.y - 1 ≤ s.t / 1440 ∧ s.t / 1440 ≤ dY (s.y + 1) := by
  obtain ⟨⟨a1, a2⟩, ⟨b1, b2⟩, ⟨c1, c2⟩, ⟨d1, d2⟩, ⟨e1, e2⟩, _, ⟨g1, g2⟩⟩ := h
  obtain ⟨p, q⟩ := dFC_in b1 b2 c1 c2
  unfold St.t
  lia
theorem inst_self {s : St} (hv : s.valid) : instSt (s.t / 1440) (s.t % 1440 * 60 + s.se) s.ns s.off = s ∧ instT (s.t / 1440) (s.t % 1440 * 60 + s.se) s.off = dFC s.y s.mo s.d * 1440 + s.h * 60 + s.mi := by
  obtain ⟨⟨⟨a1, a2⟩, ⟨b1, b2⟩, ⟨c1, c2⟩, ⟨d1, d2⟩, ⟨e1, e2⟩, f, ⟨g1, g2⟩⟩, se⟩ := hv
  have key : (if s.t % 1440 * 60 + s.se ≠ 86400 then (s.t % 1440 * 60 + s.se) / 60 else 1439) = s.t % 1440 := by
    rcases se with ⟨s1, s2⟩ | ⟨s1, s2⟩
    · rw [if_pos (by first | assumption | rfl | exact Nat.le_add_left _ _ | decide | lia)]; lia
    · have := s2.1
      rw [if_neg (by rw [s1, this]; decide), this]
  have kt : instT (s.t / 1440) (s.t % 1440 * 60 + s.se) s.off = dFC s.y s.mo s.d * 1440 + s.h * 60 + s.mi := by
    unfold instT
    rw [key]
    have : s.t = (dFC s.y s.mo s.d * 24 + s.h) * 60 + s.mi - shift s.off := rfl
    lia
  refine ⟨?_, kt⟩
  have kse : (if s.t % 1440 * 60 + s.se = 86400 then 60 else (s.t % 1440 * 60 + s.se) % 60) = s.se := by
    rcases se with ⟨s1, s2⟩ | ⟨s1, s2⟩
    · rw [if_neg (by first | assumption | rfl | exact Nat.le_add_left _ _ | decide | lia)]; lia
    · have := s2.1
      rw [if_pos (by rw [s1, this]; decide), s1]
  show St.mk (cY (instT (s.t / 1440) (s.t % 1440 * 60 + s.se) s.off / 1440)) (cMo (instT (s.t / 1440) (s.t % 1440 * 60 + s.se) s.off / 1440)) (cD (instT (s.t / 1440) (s.t % 1440 * 60 + s.se) s.off / 1440))
    (instT (s.t / 1440) (s.t % 1440 * 60 + s.se) s.off % 1440 / 60) (instT (s.t / 1440) (s.t % 1440 * 60 + s.se) s.off % 1440 % 60) (if s.t % 1440 * 60 + s.se = 86400 then 60 else (s.t % 1440 * 60 + s.se) % 60) s.ns s.off = s
  rw [kt, kse]
  have q1 : (dFC s.y s.mo s.d * 1440 + s.h * 60 + s.mi) / 1440 = dFC s.y s.mo s.d := by first | assumption | rfl | exact Nat.le_add_left _ _ | decide | lia
  have q2 : (dFC s.y s.mo s.d * 1440 + s.h * 60 + s.mi) % 1440 / 60 = s.h := by first | assumption | rfl | exact Nat.le_add_left _ _ | decide | lia
  have q3 : (dFC s.y s.mo s.d * 1440 + s.h * 60 + s.mi) % 1440 % 60 = s.mi := by first | assumption | rfl | exact Nat.le_add_left _ _ | decide | lia
  rw [q1, q2, q3, cY_dFC b1 b2 c1 c2, cMo_dFC b1 b2 c1 c2, cD_dFC b1 b2 c1 c2]
theorem dFC_range {s : St} (h : s.plain) : 0 ≤ dFC s.y s.mo s.d ∧ dFC s.y s.mo s.d < 3652425 := by
  obtain ⟨⟨a1, a2⟩, ⟨b1, b2⟩, ⟨c1, c2⟩, _⟩ := h
  obtain ⟨p, q⟩ := dFC_in b1 b2 c1 c2
  have h1 : 0 ≤ dY s.y := by rw [← dY_0]; exact dY_mono a1
  have h2 : dY (s.y + 1) ≤ 3652425 := by rw [← dY_10000]; exact dY_mono (by first | assumption | rfl | exact Nat.le_add_left _ _ | decide | lia)
  lia
theorem instOk_self {s : St} (hv : s.valid) : instOk (s.t / 1440) (s.t % 1440 * 60 + s.se) s.ns s.off := by
  obtain ⟨k1, k2⟩ := inst_self hv
  have hp := hv.1
  obtain ⟨r1, r2⟩ := dFC_range hp
  obtain ⟨_, _, _, ⟨d1, d2⟩, ⟨e1, e2⟩, _, _⟩ := hp
  refine ⟨by rw [k2]; lia, ?_, by rw [k1]; exact hv⟩
  rcases hv.2 with ⟨s1, s2⟩ | ⟨s1, s2⟩
  · lia
  · have := s2.1; lia

end Mine

namespace Mine
open PySem

theorem dig_all (w : Nat) : ∀ v, (dig w v).all digit = true := by
  induction w with
  | zero => intro v; rfl
  | succ w ih => intro v; simp [dig, ih, digit]; lia
theorem dig_val (w : Nat) : ∀ v, v < 10 ^ w → digitsVal (dig w v) = (v : Int) := by
  induction w with
  | zero => intro v h; simp at h; subst h; rfl
  | succ w ih =>
    intro v h
    rw [dig, digitsVal_snoc, ih (v / 10) (by rw [Nat.pow_succ] at h; lia)]
    lia
theorem digV_dig (w v : Nat) (h : v < 10 ^ w) : digV (dig w v) = (v : Int) := by
  unfold digV; rw [if_pos (dig_all w v), dig_val w v h]
theorem dig2 (v : Nat) : dig 2 v = [48 + v / 10 % 10, 48 + v % 10] := by first | rfl | simp [dig]
theorem dig4 (v : Nat) : dig 4 v = [48 + v / 10 / 10 / 10 % 10, 48 + v / 10 / 10 % 10, 48 + v / 10 % 10, 48 + v % 10] := by first | rfl | simp [dig]

theorem pad2 {v : Int} (h0 : -1 ≤ v) (h1 : v ≤ 99) : ∃ a b, padL v 2 = [a, b] ∧ digV [a, b] = v := by
  by_cases h : v = -1
  · subst h; exact ⟨45, 49, by decide, by decide⟩
  · have e := padN v 1 (by first | assumption | rfl | exact Nat.le_add_left _ _ | decide | lia) (by first | assumption | rfl | exact Nat.le_add_left _ _ | decide | lia)
    rw [show (1 : Nat) + 1 = 2 by rfl, dig2] at e
    refine ⟨_, _, e, ?_⟩
    have := digV_dig 2 v.toNat (by first | assumption | rfl | exact Nat.le_add_left _ _ | decide | lia)
    rw [dig2] at this
    rw [this]; lia
theorem pad4 {v : Int} (h0 : -1 ≤ v) (h1 : v ≤ 9999) : ∃ a b c d, padL v 4 = [a, b, c, d] ∧ digV [a, b, c, d] = v := by
  by_cases h : v = -1
  · subst h; exact ⟨48, 48, 45, 49, by decide, by decide⟩
  · have e := padN v 3 (by first | assumption | rfl | exact Nat.le_add_left _ _ | decide | lia) (by first | assumption | rfl | exact Nat.le_add_left _ _ | decide | lia)
    rw [show (3 : Nat) + 1 = 4 by rfl, dig4] at e
    refine ⟨_, _, _, _, e, ?_⟩
    have := digV_dig 4 v.toNat (by first | assumption | rfl | exact Nat.le_add_left _ _ | decide | lia)
    rw [dig4] at this
    rw [this]; lia

noncomputable def headG (y mo d h mi se : Int) (x : Nat) : List Nat :=
  padL y 4 ++ [45] ++ padL mo 2 ++ [45] ++ padL d 2 ++ [x] ++ padL h 2 ++ [58] ++ padL mi 2 ++ [58] ++ padL se 2
theorem headG_eq {s : St} {x : Nat} (h1 : 0 ≤ s.y ∧ s.y ≤ 9999) (h2 : 0 ≤ s.mo ∧ s.mo ≤ 99) (h3 : 0 ≤ s.d ∧ s.d ≤ 99) (h4 : 0 ≤ s.h ∧ s.h ≤ 99) (h5 : 0 ≤ s.mi ∧ s.mi ≤ 99) (h6 : 0 ≤ s.se ∧ s.se ≤ 99) : headG s.y s.mo s.d s.h s.mi s.se x = headL s x := by
  unfold headG headL
  rw [padN s.y 3 h1.1 (by first | assumption | rfl | exact Nat.le_add_left _ _ | decide | lia), padN s.mo 1 h2.1 (by first | assumption | rfl | exact Nat.le_add_left _ _ | decide | lia), padN s.d 1 h3.1 (by first | assumption | rfl | exact Nat.le_add_left _ _ | decide | lia), padN s.h 1 h4.1 (by first | assumption | rfl | exact Nat.le_add_left _ _ | decide | lia), padN s.mi 1 h5.1 (by first | assumption | rfl | exact Nat.le_add_left _ _ | decide | lia), padN s.se 1 h6.1 (by first | assumption | rfl | exact Nat.le_add_left _ _ | decide | lia)]

theorem valid_nonneg {s : St} (h : s.valid) : 0 ≤ s.y ∧ 0 ≤ s.mo ∧ 0 ≤ s.d ∧ 0 ≤ s.h ∧ 0 ≤ s.mi ∧ 0 ≤ s.se := by
  obtain ⟨⟨a, b, c, d, e, _, _⟩, f⟩ := h
  refine ⟨a.1, by first | assumption | rfl | exact Nat.le_add_left _ _ | decide | lia, by first | assumption | rfl | exact Nat.le_add_left _ _ | decide | lia, d.1, e.1, ?_⟩
  rcases f with f | f
  · exact f.1
  · lia

noncomputable def tailP (y mo d h mi se : Int) (t : List Nat) : Option St := match t with
  | [] => none
  | c :: r => match fracM (c :: r) with
    | none => none
    | some (ns, z) => tailM y mo d h mi se ns z
theorem tailM_neg {y mo d h mi se ns : Int} {z : List Nat} (hn : y < 0 ∨ mo < 0 ∨ d < 0 ∨ h < 0 ∨ mi < 0 ∨ se < 0) : tailM y mo d h mi se ns z = none := by
  unfold tailM
  split
  · rfl
  · rename_i off _
    rw [if_neg]
    intro hv
    have := valid_nonneg hv
    simp only at this
    lia
theorem tailP_neg {y mo d h mi se : Int} {t : List Nat} (hn : y < 0 ∨ mo < 0 ∨ d < 0 ∨ h < 0 ∨ mi < 0 ∨ se < 0) : tailP y mo d h mi se t = none := by
  unfold tailP
  split
  · rfl
  · split
    · rfl
    · exact tailM_neg hn

theorem parse_headG {y mo d h mi se : Int} {x : Nat} {t : List Nat} (hx : x = 84 ∨ x = 116) (h1 : -1 ≤ y ∧ y ≤ 9999) (h2 : -1 ≤ mo ∧ mo ≤ 99) (h3 : -1 ≤ d ∧ d ≤ 99) (h4 : -1 ≤ h ∧ h ≤ 99) (h5 : -1 ≤ mi ∧ mi ≤ 99) (h6 : -1 ≤ se ∧ se ≤ 99) :
    parseM (headG y mo d h mi se x ++ t) = tailP y mo d h mi se t := by
  obtain ⟨y1, y2, y3, y4, ey, vy⟩ := pad4 h1.1 h1.2
  obtain ⟨m1, m2, em, vm⟩ := pad2 h2.1 h2.2
  obtain ⟨d1, d2, ed, vd⟩ := pad2 h3.1 h3.2
  obtain ⟨a1, a2, ea, va⟩ := pad2 h4.1 h4.2
  obtain ⟨i1, i2, ei, vi⟩ := pad2 h5.1 h5.2
  obtain ⟨s1, s2, es, vs⟩ := pad2 h6.1 h6.2
  unfold headG
  rw [ey, em, ed, ea, ei, es]
  cases t with
  | nil => rfl
  | cons c r =>
    show parseM (y1 :: y2 :: y3 :: y4 :: 45 :: m1 :: m2 :: 45 :: d1 :: d2 :: x :: a1 :: a2 :: 58 :: i1 :: i2 :: 58 :: s1 :: s2 :: c :: r) = _
    change parse20 y1 y2 y3 y4 45 m1 m2 45 d1 d2 x a1 a2 58 i1 i2 58 s1 s2 c r = _
    rw [parse20, vy, vm, vd, va, vi, vs]
    by_cases n1 : y < 0 ∨ mo < 0 ∨ d < 0
    · rw [if_pos n1, tailP_neg (by first | assumption | rfl | exact Nat.le_add_left _ _ | decide | lia)]
    · rw [if_neg n1]
      by_cases n2 : h < 0 ∨ mi < 0 ∨ se < 0
      · rw [if_pos n2, tailP_neg (by first | assumption | rfl | exact Nat.le_add_left _ _ | decide | lia)]
      · rw [if_neg n2, if_neg (by first | rfl | simp), if_neg (by first | assumption | rfl | exact Nat.le_add_left _ _ | decide | lia), if_neg (by first | rfl | simp)]
        rfl
theorem far48 (t : List Nat) (hs : ¬ t.length < 20) : t[4]? = some 48 → parseM t = none := by
  refine twenty hs fun y1 y2 y3 y4 a m1 m2 b d1 d2 x h1 h2 e i1 i2 f s1 s2 c r e3 => ?_
  obtain rfl := Option.some.inj (show some a = some 48 from e3)
  change parse20 y1 y2 y3 y4 48 m1 m2 b d1 d2 x h1 h2 e i1 i2 f s1 s2 c r = none
  unfold parse20
  split
  · rfl
  · split
    · rfl
    · exact if_pos (.inl (by decide))
theorem parse_far {mo d h mi se : Int} {x : Nat} {t : List Nat} : parseM (headG 10000 mo d h mi se x ++ t) = none := by
  have e : padL 10000 4 = [49, 48, 48, 48, 48] := by decide
  unfold headG
  rw [e]
  generalize hq : padL mo 2 ++ [45] ++ padL d 2 ++ [x] ++ padL h 2 ++ [58] ++ padL mi 2 ++ [58] ++ padL se 2 ++ t = q
  have e2 : [49, 48, 48, 48, 48] ++ [45] ++ padL mo 2 ++ [45] ++ padL d 2 ++ [x] ++ padL h 2 ++ [58] ++ padL mi 2 ++ [58] ++ padL se 2 ++ t = 49 :: 48 :: 48 :: 48 :: 48 :: 45 :: q := by
    rw [← hq]; first | rfl | simp
  rw [e2]
  by_cases hs : (49 :: 48 :: 48 :: 48 :: 48 :: 45 :: q).length < 20
  · exact parseM_short hs
  · exact far48 _ hs rfl

noncomputable def okc (c : Nat) : Bool := digit c || c == 45 || c == 58 || c == 84 || c == 116 || c == 90 || c == 122 || c == 46 || c == 43
theorem digV_ok {l : List Nat} (h : ¬ digV l < 0) : l.all okc = true := by
  unfold digV at h
  split at h
  · rename_i q
    rw [List.all_eq_true] at q ⊢
    intro c hc
    unfold okc
    rw [q c hc]; rfl
  · lia
theorem ite_none {α : Type} {P : Prop} [Decidable P] {x : Option α} {s : α} (h : (if P then none else x) = some s) : ¬ P ∧ x = some s := by
  by_cases q : P
  · rw [if_pos q] at h; cases h
  · rw [if_neg q] at h; exact ⟨q, h⟩
theorem zoneM_5 {c a1 a2 m b1 b2 : Nat} {o : Option Int} (hc : c = 43 ∨ c = 45) (h : zoneM [c, a1, a2, m, b1, b2] = some o) : ¬ (digV [a1, a2] < 0 ∨ digV [b1, b2] < 0 ∨ m ≠ 58) :=
  (ite_none (((if_neg (not_zz hc)).trans (if_pos hc)).symm.trans h)).1
theorem app_ok {l r : List Nat} (h1 : l.all okc = true) (h2 : r.all okc = true) : (l ++ r).all okc = true := by rw [List.all_append, h1, h2]; rfl
theorem cons_ok {c : Nat} {r : List Nat} (h1 : okc c = true) (h2 : r.all okc = true) : (c :: r).all okc = true := by rw [List.all_cons, h1, h2]; rfl
theorem eq_ok {a v : Nat} (h : ¬ a ≠ v) (hv : okc v = true) : okc a = true := by rw [Decidable.not_not.mp h]; exact hv
theorem or_ok {a u v : Nat} (h : a = u ∨ a = v) (hu : okc u = true) (hv : okc v = true) : okc a = true := by exact h.elim (fun e => e ▸ hu) (fun e => e ▸ hv)
theorem zoneM_ok {z : List Nat} {o : Option Int} (h : zoneM z = some o) : z.all okc = true := by
  cases z with
  | nil => cases h
  | cons c q =>
    by_cases c1 : c = 90 ∨ c = 122
    · rw [zoneM_z c1] at h
      by_cases q0 : q = []
      · rw [q0]; exact cons_ok (or_ok c1 (by decide) (by decide)) rfl
      · rw [if_neg q0] at h; cases h
    · by_cases c2 : c = 43 ∨ c = 45
      · by_cases l5 : q.length = 5
        · obtain ⟨a1, a2, m, b1, b2, rfl⟩ := len5 l5
          have n := zoneM_5 c2 h
          exact cons_ok (or_ok c2 (by decide) (by decide)) (app_ok (l := [a1, a2]) (digV_ok fun q => n (.inl q)) (cons_ok (eq_ok (fun q => n (.inr (.inr q))) (by decide)) (digV_ok fun q => n (.inr (.inl q)))))
        · cases (zoneM_len c2 l5).symm.trans h
      · cases (zoneM_no c1 c2).symm.trans h
theorem takeWhile_ok (r : List Nat) : (r.takeWhile digit).all okc = true := by
  have := takeWhile_all r
  rw [List.all_eq_true] at this ⊢
  intro c hc
  unfold okc
  rw [this c hc]; rfl
theorem frac_ok {ns : Int} {r z : List Nat} {c : Nat} (hf : fracM (c :: r) = some (ns, z)) (zo : z.all okc = true) : (c :: r).all okc = true := by
  rw [fracM] at hf
  by_cases hc : c = 46
  · rw [if_pos hc] at hf
    have hf := (ite_none hf).2
    injection hf with hf
    injection hf with _ hf
    rw [hc, List.all_cons, ← List.takeWhile_append_dropWhile (p := digit) (l := r), List.all_append, takeWhile_ok, hf, zo]; rfl
  · rw [if_neg hc] at hf
    injection hf with hf
    injection hf with _ hf
    rw [hf]; exact zo
theorem tail_ok {c : Nat} {r : List Nat} {y mo d h mi se : Int} {s : St} (q : tailP y mo d h mi se (c :: r) = some s) : (c :: r).all okc = true := by
  rw [tailP] at q
  cases hf : fracM (c :: r) with
  | none => rw [hf] at q; cases q
  | some w =>
    rw [hf] at q
    have q : tailM y mo d h mi se w.1 w.2 = some s := q
    unfold tailM at q
    cases hz : zoneM w.2 with
    | none => rw [hz] at q; cases q
    | some o => exact frac_ok hf (zoneM_ok hz)
theorem parse_ok {t : List Nat} {s : St} (h : parseM t = some s) : t.all okc = true := by
  by_cases hs : t.length < 20
  · rw [parseM_short hs] at h; cases h
  revert h
  refine twenty hs fun y1 y2 y3 y4 a m1 m2 b d1 d2 x h1 h2 e i1 i2 f s1 s2 c r h => ?_
  obtain ⟨n1, h⟩ := ite_none (show (if digV [y1, y2, y3, y4] < 0 ∨ digV [m1, m2] < 0 ∨ digV [d1, d2] < 0 then none else _) = some s from h)
  obtain ⟨n2, h⟩ := ite_none h
  obtain ⟨n3, h⟩ := ite_none h
  obtain ⟨n4, h⟩ := ite_none h
  obtain ⟨n5, h⟩ := ite_none h
  have tl := tail_ok (y := digV [y1, y2, y3, y4]) (mo := digV [m1, m2]) (d := digV [d1, d2]) (h := digV [h1, h2]) (mi := digV [i1, i2]) (se := digV [s1, s2]) h
  clear h
  have hx : x = 84 ∨ x = 116 := by
    by_cases q : x = 84
    · exact .inl q
    · exact .inr (Decidable.not_not.mp fun z => n4 ⟨q, z⟩)
  exact app_ok (l := [y1, y2, y3, y4]) (digV_ok fun q => n1 (.inl q)) (cons_ok (eq_ok (fun q => n3 (.inl q)) (by decide)) (app_ok (l := [m1, m2]) (digV_ok fun q => n1 (.inr (.inl q))) (cons_ok (eq_ok (fun q => n3 (.inr q)) (by decide)) (app_ok (l := [d1, d2]) (digV_ok fun q => n1 (.inr (.inr q))) (cons_ok (or_ok hx (by decide) (by decide)) (app_ok (l := [h1, h2]) (digV_ok fun q => n2 (.inl q)) (cons_ok (eq_ok (fun q => n5 (.inl q)) (by decide)) (app_ok (l := [i1, i2]) (digV_ok fun q => n2 (.inr (.inl q))) (cons_ok (eq_ok (fun q => n5 (.inr q)) (by decide)) (app_ok (l := [s1, s2]) (digV_ok fun q => n2 (.inr (.inr q))) tl))))))))))
theorem parse_bad {t : List Nat} {c : Nat} (hc : c ∈ t) (hb : okc c = false) : parseM t = none := by
  cases h : parseM t with
  | none => rfl
  | some s =>
    have := List.all_eq_true.mp (parse_ok h) c hc
    rw [hb] at this; cases this
end Mine

namespace Mine
open PySem

theorem snocRec {P : List Nat → Prop} (nil : P []) (append_singleton : ∀ l c, P l → P (l ++ [c])) (l : List Nat) : P l := by
  have go : ∀ n (l : List Nat), l.length = n → P l := by
    intro n
    induction n with
    | zero => intro l h; rw [List.length_eq_zero_iff.mp h]; exact nil
    | succ n ih =>
      intro l h
      have hne : l ≠ [] := fun q => by rw [q] at h; simp at h
      rw [← List.dropLast_concat_getLast hne]
      exact append_singleton _ _ (ih _ (by rw [List.length_dropLast, h]; rfl))
  exact go _ l rfl
theorem takeWhile_app {ds z : List Nat} (hd : ds.all digit = true) (hz : ∀ c r, z = c :: r → digit c = false) : (ds ++ z).takeWhile digit = ds ∧ (ds ++ z).dropWhile digit = z := by
  induction ds with
  | nil =>
    cases z with
    | nil => exact ⟨rfl, rfl⟩
    | cons c r =>
      have := hz c r rfl
      simp [List.takeWhile, List.dropWhile, this]
  | cons c ds ih =>
    simp only [List.all_cons, Bool.and_eq_true] at hd
    obtain ⟨i1, i2⟩ := ih hd.2
    simp [List.takeWhile, List.dropWhile, hd.1, i1, i2]

theorem fracM_dot {ds z : List Nat} (hd : ds.all digit = true) (hz : ∀ c r, z = c :: r → digit c = false) : fracM (46 :: (ds ++ z)) = if ds.length < 1 ∨ ds.length > 9 then none else some (digitsVal ds * 10 ^ (9 - ds.length), z) := by
  obtain ⟨i1, i2⟩ := takeWhile_app hd hz
  rw [fracM, if_pos rfl, i1, i2]
theorem fracM_no {z : List Nat} (hz : ∀ c r, z = c :: r → c ≠ 46) : fracM z = some (0, z) := by
  cases z with
  | nil => rfl
  | cons c r => rw [fracM, if_neg (hz c r rfl)]

theorem digitsVal_app (a b : List Nat) : digitsVal (a ++ b) = digitsVal a * 10 ^ b.length + digitsVal b := by
  induction b using snocRec with
  | nil => simp [digitsVal]
  | append_singleton b c ih =>
    rw [← List.append_assoc, digitsVal_snoc, digitsVal_snoc, ih, List.length_append, List.length_singleton, Int.pow_succ]
    generalize (10 : Int) ^ b.length = q
    rw [Int.add_mul, Int.mul_assoc]
    lia
theorem digitsVal_zeros (k : Nat) : digitsVal (List.replicate k 48) = 0 := by
  induction k with
  | zero => rfl
  | succ k ih => rw [List.replicate_succ', digitsVal_snoc, ih]; rfl
theorem rstrip_zeros : ∀ (l : List Nat), ∃ k, l = rstripL [48] l ++ List.replicate k 48 := by
  intro l
  induction l using snocRec with
  | nil => exact ⟨0, rfl⟩
  | append_singleton l c ih =>
    rw [rstripL_snoc]
    by_cases h : c = 48
    · rw [if_pos h]
      obtain ⟨k, hk⟩ := ih
      refine ⟨k + 1, ?_⟩
      rw [List.replicate_succ', ← List.append_assoc, ← hk, h]
    · rw [if_neg h]; exact ⟨0, by simp⟩
theorem rstrip_val {l : List Nat} : digitsVal (rstripL [48] l) * 10 ^ (l.length - (rstripL [48] l).length) = digitsVal l := by
  obtain ⟨k, hk⟩ := rstrip_zeros l
  have hl : l.length = (rstripL [48] l).length + k := by
    have := congrArg List.length hk
    rw [List.length_append, List.length_replicate] at this
    exact this
  have e : l.length - (rstripL [48] l).length = k := by first | assumption | rfl | exact Nat.le_add_left _ _ | decide | lia
  rw [e]
  have h2 : digitsVal l = digitsVal (rstripL [48] l ++ List.replicate k 48) := congrArg digitsVal hk
  rw [h2, digitsVal_app, digitsVal_zeros, List.length_replicate]; lia
theorem rstrip_all {l : List Nat} (h : l.all digit = true) : (rstripL [48] l).all digit = true := by
  obtain ⟨k, hk⟩ := rstrip_zeros l
  rw [hk, List.all_append, Bool.and_eq_true] at h
  exact h.1
theorem rstrip_ne {v : Nat} (h0 : 0 < v) (h1 : v < 10 ^ 9) : 1 ≤ (rstripL [48] (dig 9 v)).length := by
  rcases Nat.eq_zero_or_pos (rstripL [48] (dig 9 v)).length with q | q
  · have := @rstrip_val (dig 9 v)
    rw [List.length_eq_zero_iff.mp q, dig_val 9 v h1] at this
    simp [digitsVal] at this
    lia
  · exact q

theorem headc {z : List Nat} (h : ∃ c q, z = c :: q ∧ (c = 90 ∨ c = 122 ∨ c = 43 ∨ c = 45)) : (∀ c r, z = c :: r → digit c = false) ∧ (∀ c r, z = c :: r → c ≠ 46) ∧ z ≠ [] := by
  obtain ⟨c, q, rfl, hc⟩ := h
  refine ⟨fun c' r e => ?_, fun c' r e => ?_, by simp⟩
  · cases e; rcases hc with rfl | rfl | rfl | rfl <;> decide
  · cases e; lia

theorem zoneM_pm {c h m : Nat} (hc : c = 43 ∨ c = 45) (hh : h ≤ 99) (hm : m ≤ 99) : zoneM (c :: (dig 2 h ++ [58] ++ dig 2 m)) =
    if h > 23 ∨ m > 59 then none else if c = 45 then (if h * 60 + m = 0 then some none else some (some (-((h : Int) * 60 + m)))) else some (some ((h : Int) * 60 + m)) := by
  have vh := digV_dig 2 h (by first | assumption | rfl | exact Nat.le_add_left _ _ | decide | lia)
  have vm := digV_dig 2 m (by first | assumption | rfl | exact Nat.le_add_left _ _ | decide | lia)
  rw [dig2] at vh vm
  rw [dig2, dig2]
  show zoneM (c :: [48 + h / 10 % 10, 48 + h % 10, 58, 48 + m / 10 % 10, 48 + m % 10]) = _
  rw [zoneM, if_neg (by first | assumption | rfl | exact Nat.le_add_left _ _ | decide | lia), if_pos hc]
  simp only [vh, vm]
  rw [if_neg (by first | assumption | rfl | exact Nat.le_add_left _ _ | decide | lia)]
  by_cases q : h > 23 ∨ m > 59
  · rw [if_pos (by first | assumption | rfl | exact Nat.le_add_left _ _ | decide | lia), if_pos q]
  · rw [if_neg (by first | assumption | rfl | exact Nat.le_add_left _ _ | decide | lia), if_neg q]
    split
    · split <;> split <;> first | rfl | lia
    · rfl

theorem law_frac {ns : Int} (h0 : 0 ≤ ns) (h1 : ns ≤ 999999999) : rstripL [46] (rstripL [48] (46 :: dig 9 ns.toNat)) = fracL ns := by
  have key : ∀ l : List Nat, rstripL [48] (46 :: l) = 46 :: rstripL [48] l := by
    intro l
    induction l using snocRec with
    | nil => rfl
    | append_singleton l c ih =>
      rw [← List.cons_append, rstripL_snoc, rstripL_snoc]
      split
      · exact ih
      · rfl
  rw [key]
  unfold fracL
  by_cases q : ns = 0
  · rw [if_pos q, q]; decide
  · rw [if_neg q]
    have l1 := rstrip_ne (v := ns.toNat) (by first | assumption | rfl | exact Nat.le_add_left _ _ | decide | lia) (by first | assumption | rfl | exact Nat.le_add_left _ _ | decide | lia)
    have al := rstrip_all (dig_all 9 ns.toNat)
    generalize rstripL [48] (dig 9 ns.toNat) = r at *
    obtain ⟨r', c, rfl⟩ : ∃ r' c, r = r' ++ [c] := by
      refine ⟨r.dropLast, r.getLast (by intro z; rw [z] at l1; simp at l1), ?_⟩
      rw [List.dropLast_concat_getLast]
    rw [List.all_append, Bool.and_eq_true] at al
    have hc : digit c = true := by simpa using al.2
    have hc' : c ≠ 46 := by
      unfold digit at hc
      simp only [Bool.and_eq_true, decide_eq_true_eq] at hc
      lia
    unfold rstripL
    rw [← List.cons_append, List.reverse_append, List.reverse_singleton, List.singleton_append, List.dropWhile_cons_of_neg (by simpa using hc')]
    simp
end Mine

namespace Mine
open PySem

theorem runs_toks {M : Model} {Γ : PySem.Ctx} {p : Pos} {t : Sem PySem.Fin} {fs : List Frame} {s s' : Shared} {e : End} (h : Runs M Γ p t fs s e s') : s.toks ≤ s'.toks := by
  induction h with
  | done | raise | yield => exact Nat.le_refl _
  | fresh _ ih => exact Nat.le_trans (Nat.le_succ _) ih
  | call _ _ a b | resumeFresh _ _ _ _ a b | resumeSuspended _ _ _ _ a b | segRet _ _ a b | segGen _ _ a b | segSuspGen _ _ _ _ a b => exact Nat.le_trans a b
  | callSusp _ a | segSuspOut _ _ a => exact a
  | again _ _ ih | rule _ ih | «at» _ ih | load _ _ ih | update _ _ ih | loadIfAlive _ ih | point _ ih | alloc _ ih | ask _ ih | choose _ _ ih | os _ ih | handled _ ih | genState _ _ ih | stack _ ih | thread _ ih | newGen _ ih
  | resumeJustStarted _ _ _ ih | resumeThrowFresh _ _ ih | resumeRunning _ _ ih | resumeFinished _ _ ih => exact ih

theorem wakes_toks {M : Model} {Γ : PySem.Ctx} {p : Pos} {g : Nat} {r : Resume} {s s' : Shared} {res : GenResult} (h : Wakes M Γ p g r s res s') : s.toks ≤ s'.toks :=
  runs_toks ((Sem.runs_resume_iff M Γ (l := []) (k := fun _ => .pure (.done .next)) (p := p) (e := .ret (.ok .next))).mpr ⟨res, s', h, .done⟩)

theorem wp_toks {α : Type} {M : Model} {Γ : PySem.Ctx} {Q : α → Pos → Shared → Prop} {E : Value → Pos → Shared → Prop} (t : Sem α) : ∀ (p : Pos) (s : Shared) (n : Nat), n ≤ s.toks → Sem.wp M Γ t (fun a p' s' => n ≤ s'.toks → Q a p' s') (fun e p' s' => n ≤ s'.toks → E e p' s') p s → Sem.wp M Γ t Q E p s := by
  induction t with
  | pure | raise => exact fun _ _ _ hn h => h hn
  | call _ _ _ _ _ ih => exact fun _ _ n hn h => h.imp fun r y => y.imp fun s' z => ⟨z.1, ih r _ s' n (Nat.le_trans hn (runs_toks z.1)) z.2⟩
  | resume _ _ _ _ ih => exact fun _ _ n hn h => h.imp fun r y => y.imp fun s' z => ⟨z.1, ih r _ s' n (Nat.le_trans hn (wakes_toks z.1)) z.2⟩
  | fresh _ ih => exact fun _ _ n hn h => ih _ _ _ n (Nat.le_succ_of_le hn) h
  | unsupported | finish | yield | fork | await | register => exact fun _ _ _ _ h => h
  | load _ _ _ ih | genState _ _ ih => exact fun _ _ n hn h => h.imp fun _ y => ⟨y.1, ih _ _ _ n hn y.2⟩
  | _ =>
    rename_i ih
    intro p s n hn h
    first
    | exact ih _ _ _ n hn h
    | exact ⟨h.1, ih _ _ _ n hn h.2⟩

theorem wpAny_tk {α : Type} {M : Model} {A : Around} {t : Sem α} {Q : α → Shared → Prop} {E : Value → Shared → Prop} {s : Shared}
    (h : wpAny M A t (fun a s' => s.toks ≤ s'.toks → Q a s') (fun e s' => s.toks ≤ s'.toks → E e s') s) : wpAny M A t Q E s :=
  fun Γ p hΓ => wp_toks t p s s.toks (Nat.le_refl _) (h Γ p hΓ)
end Mine

namespace Mine
open PySem PySem.Calls PySem.Spec PyProof.Rows

noncomputable def KeepMe (o : Obj) : Prop := o.cls ≠ .none ∨ ∀ vs, o.data ≠ .fields vs

noncomputable def Xt (S : List Addr) (h h' : Heap) : Prop := ∀ b o, b ∉ S → h.get? b = some o → KeepMe o → ∃ sl, h'.get? b = some { o with slots := sl } ∧ ((∃ vs, o.data = .fields vs) → sl = o.slots)

theorem Xt.refl (S : List Addr) (h : Heap) : Xt S h h := fun _ o _ e _ => ⟨o.slots, e, fun _ => rfl⟩
theorem Xt.of_keeps {S : List Addr} {h h' : Heap} (k : ∀ b o, h.get? b = some o → h'.get? b = some o) : Xt S h h' := fun b o _ e _ => ⟨o.slots, k b o e, fun _ => rfl⟩
theorem Xt.trans {S : List Addr} {h₁ h₂ h₃ : Heap} (x : Xt S h₁ h₂) (y : Xt S h₂ h₃) : Xt S h₁ h₃ := fun b o n e k => by
  obtain ⟨sl, e₂, q₂⟩ := x b o n e k
  obtain ⟨sl', e₃, q₃⟩ := y b _ n e₂ k
  exact ⟨sl', e₃, fun z => (q₃ z).trans (q₂ z)⟩
theorem Xt.weak {S S' : List Addr} {h h' : Heap} (x : Xt S h h') (hs : ∀ b, b ∈ S → b ∈ S') : Xt S' h h' := fun b o n e k => x b o (fun q => n (hs b q)) e k
theorem Xt.ns {S : List Addr} {h h' : Heap} {a : Addr} {m : Str → Option Value} (x : Xt S h h') (hn : h.Ns a m) (ha : a ∉ S) : h'.Ns a m := by
  obtain ⟨o, es, ep, ho, hd, r⟩ := hn
  obtain ⟨sl, e, _⟩ := x a o ha ho (.inr fun vs q => by rw [hd] at q; cases q)
  exact ⟨_, es, ep, e, hd, r⟩

mutual
inductive Rd (h : Heap) : Value → PyData → Prop
  | none : Rd h .none .none
  | bool (b) : Rd h (.bool b) (.bool b)
  | int (i t) : Rd h (.int i t) (.int i)
  | str (x t) : x.length ≤ limit → Rd h (.str x t) (.str x)
  | list {a o vs n xs} : h.get? a = some o → o.cls = .type "list" → o.data = .seq vs n → vs.size ≤ 1048576 → RdAll h vs.toList xs → Rd h (.ref a) (.list xs)
  | tuple {a o vs n xs} : h.get? a = some o → o.cls = .type "tuple" → o.data = .seq vs n → vs.size ≤ 1048576 → RdAll h vs.toList xs → Rd h (.ref a) (.tuple xs)
inductive RdAll (h : Heap) : List Value → List PyData → Prop
  | nil : RdAll h [] []
  | cons {v vs d ds} : Rd h v d → RdAll h vs ds → RdAll h (v :: vs) (d :: ds)
end

mutual
theorem Rd.reads {h : Heap} : ∀ {v : Value} {d : PyData}, Rd h v d → ∃ as, Reads h v d as
  | _, _, .none => ⟨_, .none⟩
  | _, _, .bool b => ⟨_, .bool b⟩
  | _, _, .int i t => ⟨_, .int i t⟩
  | _, _, .str s t _ => ⟨_, .str s t⟩
  | _, _, .list ho hc hd _ r => let ⟨_, q⟩ := r.reads; ⟨_, .list ho hc hd q⟩
  | _, _, .tuple ho hc hd _ r => let ⟨_, q⟩ := r.reads; ⟨_, .tuple ho hc hd q⟩
theorem RdAll.reads {h : Heap} : ∀ {v : List Value} {d : List PyData}, RdAll h v d → ∃ as, ReadsAll h v d as
  | _, _, .nil => ⟨_, .nil⟩
  | _, _, .cons a b => let ⟨_, q⟩ := a.reads; let ⟨_, p⟩ := b.reads; ⟨_, .cons q p⟩
end

mutual
theorem Rd.move {h h' : Heap} (x : ∀ b o vs n, h.get? b = some o → o.data = .seq vs n → o.cls ≠ .none → ∃ sl, h'.get? b = some { o with slots := sl }) : ∀ {v : Value} {d : PyData}, Rd h v d → Rd h' v d
  | _, _, .none => .none
  | _, _, .bool b => .bool b
  | _, _, .int i t => .int i t
  | _, _, .str s t z => .str s t z
  | _, _, .list ho hc hd z r => by
    obtain ⟨sl, e⟩ := x _ _ _ _ ho hd (by rw [hc]; intro q; cases q)
    exact .list e hc hd z (r.move x)
  | _, _, .tuple ho hc hd z r => by
    obtain ⟨sl, e⟩ := x _ _ _ _ ho hd (by rw [hc]; intro q; cases q)
    exact .tuple e hc hd z (r.move x)
theorem RdAll.move {h h' : Heap} (x : ∀ b o vs n, h.get? b = some o → o.data = .seq vs n → o.cls ≠ .none → ∃ sl, h'.get? b = some { o with slots := sl }) : ∀ {vs : List Value} {ds : List PyData}, RdAll h vs ds → RdAll h' vs ds
  | _, _, .nil => .nil
  | _, _, .cons a b => .cons (a.move x) (b.move x)
end
theorem xt_seq {S : List Addr} {h h' : Heap} (x : Xt S h h') (hL : ∀ a ∈ S, ∃ m, h.Ns a m) : ∀ b o vs n, h.get? b = some o → o.data = .seq vs n → o.cls ≠ .none → ∃ sl, h'.get? b = some { o with slots := sl } := fun b o vs n e hd c => by
  have hne : b ∉ S := fun q => by
    obtain ⟨m, o', es, ep, ho, hd', _⟩ := hL b q
    rw [e] at ho; cases ho; rw [hd] at hd'; cases hd'
  obtain ⟨sl, q, _⟩ := x b o hne e (.inl c)
  exact ⟨sl, q⟩
theorem xt_nil {h h' : Heap} (x : Xt [] h h') : ∀ b o vs n, h.get? b = some o → o.data = .seq vs n → o.cls ≠ .none → ∃ sl, h'.get? b = some { o with slots := sl } := xt_seq x fun _ q => by cases q
theorem Rd.xt {h h' : Heap} {v : Value} {d : PyData} (r : Rd h v d) (x : Xt [] h h') : Rd h' v d := r.move (xt_nil x)
theorem RdAll.xt {h h' : Heap} {v : List Value} {d : List PyData} (r : RdAll h v d) (x : Xt [] h h') : RdAll h' v d := r.move (xt_nil x)
theorem seq_sameBut {h h' : Heap} {L : Addr} {m : Str → Option Value} (hn : h.Ns L m) (hs : Heap.SameBut L h h') : ∀ b o vs n, h.get? b = some o → o.data = .seq vs n → o.cls ≠ .none → ∃ sl, h'.get? b = some { o with slots := sl } := fun b o vs n e hd _ => by
  have hne : b ≠ L := fun q => by
    obtain ⟨o', es, ep, ho, hd', _⟩ := hn
    rw [← q, e] at ho; cases ho; rw [hd] at hd'; cases hd'
  exact ⟨o.slots, (hs.2 b hne).trans e⟩

structure Cfg where
  prog : Program
  w : World
  H : Heap
  O : OsState
  Tab : Heap → Prop
  tab : ∀ h h', (∀ b o vs, h.get? b = some o → o.data = .fields vs → (o.cls = .none ∨ o.cls = .type "code") → h'.get? b = some o) → Tab h → Tab h'

section
variable (X : Cfg)
structure Wh (h : Heap) : Prop where
  old : ∀ b o, X.H.get? b = some o → KeepMe o → h.get? b = some o
  tab : X.Tab h
structure W (s : Shared) : Prop where
  h : Wh X s.heap
  gens : AllBare s.gens
  os : s.os = X.O
  toks : 0 < s.toks
noncomputable def Ok (S : List Addr) (s s' : Shared) : Prop := Xt S s.heap s'.heap ∧ W X s'

noncomputable abbrev fr (l : List Env) : List Addr := l.filterMap (·.frame)
noncomputable def Fly (S : List Addr) (l : List Env) (s s' : Shared) (e : Value) : Prop :=
  ∃ a B t, e = .ref a ∧ Xt (fr l) s.heap B ∧ Wh X B ∧ Heap.FlyingW B l a (.type "ValueError") (.ref t) s'.heap ∧
    (∀ b o, s.heap.get? b = some o → KeepMe o → b ∈ fr l → b ∉ S → ∃ sl, s'.heap.get? b = some { o with slots := sl }) ∧ AllBare s'.gens ∧ s'.os = X.O ∧ 0 < s'.toks
noncomputable def Fresh (S : List Addr) (l : List Env) (s s' : Shared) (e : Value) : Prop :=
  ∃ a s₁ vs, e = .ref a ∧ Ok X S s s₁ ∧ s₁.heap.FunFrames X.H l ∧ Heap.MadeExcOf s₁.heap s'.heap a (.type "ValueError") vs ∧ s'.gens = s₁.gens ∧ s'.os = s₁.os ∧ s'.toks = s₁.toks

noncomputable def Sp {α β : Type} (Rel : Shared → β → α → Prop) (S : List Addr) (l : List Env) (s : Shared) (Q : β → Shared → Prop) (E : Value → Shared → Prop) : R α → Prop
  | .ok a => ∀ v s', Ok X S s s' → Rel s' v a → Q v s'
  | .exc false => ∀ e s', Fly X S l s s' e → E e s'
  | .exc true => ∀ e s', Fresh X S l s s' e → E e s'
  | .stuck => False
end

section
variable {X : Cfg} {S : List Addr} {l : List Env} {s s₁ s₂ s' : Shared} {e : Value}
theorem Wh.keeps {h h' : Heap} (x : Wh X h) (k : ∀ b o, h.get? b = some o → h'.get? b = some o) : Wh X h' :=
  ⟨fun b o e q => k b o (x.old b o e q), X.tab h h' (fun b o _ e _ _ => k b o e) x.tab⟩
theorem Wh.store {h h' : Heap} {L : Addr} {m : Str → Option Value} (x : Wh X h) (hn : h.Ns L m) (hnew : X.H.get? L = none) (hs : Heap.SameBut L h h') : Wh X h' := by
  refine ⟨fun b o e q => (hs.2 b fun z => ?_).trans (x.old b o e q), X.tab h h' (fun b o vs e hd _ => (hs.2 b fun z => ?_).trans e) x.tab⟩
  · rw [z, hnew] at e; cases e
  · obtain ⟨o', es, ep, ho, hd', _⟩ := hn
    rw [z, ho] at e; cases e; rw [hd] at hd'; cases hd'
theorem Ok.refl (w : W X s) : Ok X S s s := ⟨Xt.refl _ _, w⟩
theorem Ok.trans (x : Ok X S s s₁) (y : Ok X S s₁ s₂) : Ok X S s s₂ := ⟨x.1.trans y.1, y.2⟩
theorem Ok.weak (x : Ok X [] s s') : Ok X S s s' := ⟨x.1.weak (fun _ q => by cases q), x.2⟩
theorem W.tk (w : W X s) {k : Nat} (hk : s.toks ≤ k) : W X { s with toks := k } := ⟨w.h, w.gens, w.os, Nat.lt_of_lt_of_le w.toks hk⟩
theorem Ok.tk (w : W X s) {k : Nat} (hk : s.toks ≤ k) : Ok X S s { s with toks := k } := ⟨Xt.refl _ _, w.tk hk⟩
theorem W.keeps (w : W X s) {h' : Heap} {k : Nat} (hk : s.toks ≤ k) (q : ∀ b o, s.heap.get? b = some o → h'.get? b = some o) : W X { s with heap := h', toks := k } := ⟨w.h.keeps q, w.gens, w.os, Nat.lt_of_lt_of_le w.toks hk⟩
theorem Ok.keeps (w : W X s) {h' : Heap} {k : Nat} (hk : s.toks ≤ k) (q : ∀ b o, s.heap.get? b = some o → h'.get? b = some o) : Ok X S s { s with heap := h', toks := k } := ⟨Xt.of_keeps q, w.keeps hk q⟩

theorem funFrames_xt {h h' : Heap} (x : Xt S h h') (f : h.FunFrames X.H l) (hS : ∀ a ∈ S, ∃ m, h'.Ns a m) : h'.FunFrames X.H l := by
  induction l with
  | nil => trivial
  | cons env r ih =>
    obtain ⟨hk, ⟨L, o, hf, hn, ho, hd⟩, hr⟩ := f
    refine ⟨hk, ?_, ih hr⟩
    by_cases hm : L ∈ S
    · obtain ⟨m, o', es, ep, ho', hd', _⟩ := hS L hm
      exact ⟨L, o', hf, hn, ho', fun vs q => by rw [hd'] at q; cases q⟩
    · obtain ⟨sl, e, _⟩ := x L o hm ho (.inr hd)
      exact ⟨L, _, hf, hn, e, hd⟩

theorem Fly.pre (x : Fly X S l s₁ s' e) (o : Ok X S s s₁) (hS : ∀ a ∈ S, a ∈ fr l) : Fly X S l s s' e := by
  obtain ⟨a, B, t, e1, k1, wB, fl, k2, g, os, tk⟩ := x
  refine ⟨a, B, t, e1, (o.1.weak hS).trans k1, wB, fl, fun b ob eb kb mb nl => ?_, g, os, tk⟩
  obtain ⟨sl, e2, _⟩ := o.1 b ob nl eb kb
  obtain ⟨sl', e3⟩ := k2 b _ e2 kb mb nl
  exact ⟨sl', e3⟩
theorem Fly.weak (x : Fly X [] l s s' e) : Fly X S l s s' e := by
  obtain ⟨a, B, t, e1, k1, wB, fl, k2, g, os, tk⟩ := x
  exact ⟨a, B, t, e1, k1, wB, fl, fun b ob eb kb mb _ => k2 b ob eb kb mb (fun q => by cases q), g, os, tk⟩
theorem Fresh.pre (x : Fresh X S l s₁ s' e) (o : Ok X S s s₁) : Fresh X S l s s' e := by
  obtain ⟨a, s₂, vs, e1, k, f, m, g, os⟩ := x
  exact ⟨a, s₂, vs, e1, o.trans k, f, m, g, os⟩
theorem Fresh.weak (x : Fresh X [] l s s' e) : Fresh X S l s s' e := by
  obtain ⟨a, s₂, vs, e1, k, f, m, g, os⟩ := x
  exact ⟨a, s₂, vs, e1, k.weak, f, m, g, os⟩

variable {α β γ δ : Type} {Rel : Shared → β → α → Prop} {Rel' : Shared → δ → γ → Prop} {Q : β → Shared → Prop} {E : Value → Shared → Prop}
theorem Sp.pre {r : R α} (x : Sp X Rel S l s Q E r) (o : Ok X S s s₁) (hS : ∀ a ∈ S, a ∈ fr l) : Sp X Rel S l s₁ Q E r := by
  match r, x with
  | .ok a, x => exact fun v s' k rel => x v s' (o.trans k) rel
  | .exc false, x => exact fun e s' f => x e s' (f.pre o hS)
  | .exc true, x => exact fun e s' f => x e s' (f.pre o)
theorem Sp.bind {Q' : δ → Shared → Prop} {r : R γ} {f : γ → R α} (x : Sp X Rel S l s Q E (r.bind f)) (hS : ∀ a ∈ S, a ∈ fr l)
    (k : ∀ c v s₁, Ok X S s s₁ → Rel' s₁ v c → Sp X Rel S l s₁ Q E (f c) → Q' v s₁) : Sp X Rel' S l s Q' E r := by
  match r, x with
  | .ok c, x => exact fun v s' o rel => k c v s' o rel (Sp.pre x o hS)
  | .exc false, x => exact x
  | .exc true, x => exact x
theorem Sp.bind0 {Q' : δ → Shared → Prop} {r : R γ} {f : γ → R α} (x : Sp X Rel S l s Q E (r.bind f)) (hS : ∀ a ∈ S, a ∈ fr l)
    (k : ∀ c v s₁, Ok X [] s s₁ → Rel' s₁ v c → Sp X Rel S l s₁ Q E (f c) → Q' v s₁) : Sp X Rel' [] l s Q' E r := by
  match r, x with
  | .ok c, x => exact fun v s' o rel => k c v s' o rel (Sp.pre x o.weak hS)
  | .exc false, x => exact fun e s' f => x e s' f.weak
  | .exc true, x => exact fun e s' f => x e s' f.weak
theorem Sp.ret {a : α} {v : β} (x : Sp X Rel S l s Q E (.ok a)) (o : Ok X S s s') (rel : Rel s' v a) : Q v s' := x v s' o rel
end

noncomputable abbrev RelV (s : Shared) (v : Value) (d : PyData) : Prop := Rd s.heap v d
noncomputable abbrev RelVs (s : Shared) (v : List Value) (d : List PyData) : Prop := RdAll s.heap v d
noncomputable abbrev RelB (_ : Shared) (b : Bool) (c : Bool) : Prop := b = c
end Mine

namespace Mine
open PySem PySem.Calls PySem.Spec PyProof.Rows

theorem when_ok {α β : Type} {X : Cfg} {Rel : Shared → β → α → Prop} {S : List Addr} {l : List Env} {s : Shared} {Q : β → Shared → Prop} {E : Value → Shared → Prop} {c : Bool} {a : α}
    (h : Sp X Rel S l s Q E (.when c a)) : c = true ∧ Sp X Rel S l s Q E (.ok a) := by
  cases c with
  | true => exact ⟨rfl, h⟩
  | false => exact h.elim

theorem intBits_small {a : Int} (h : smallI a = true) : Builtin.Int.intBits a ≤ 64 := by
  unfold smallI at h
  simp only [Bool.and_eq_true, decide_eq_true_eq] at h
  unfold Builtin.Int.intBits
  split
  · lia
  · rename_i h0
    have h0' : a.natAbs ≠ 0 := by simpa using h0
    have : a.natAbs.log2 < 63 := (Nat.log2_lt h0').mpr (by first | assumption | exact Nat.le_add_left _ _ | decide | lia)
    lia

noncomputable def opOf : BOp → Operator
  | .add => .Add
  | .sub => .Sub
  | .mul => .Mult
  | .div => .FloorDiv
  | .mod => .Mod

section
variable {X : Cfg} {A : Around} {E : Value → Shared → Prop} {s : Shared} {S : List Addr} {l : List Env} {Q : Value → Shared → Prop}

theorem txt_mul (x : Str) (n : Int) : Txt.mul x n = ⟨((List.replicate n.toNat (sl x)).flatten).toArray⟩ := by
  unfold Txt.mul
  split
  · rename_i h
    have : n.toNat = 0 := by first | assumption | exact Nat.le_add_left _ _ | decide | lia
    rw [this]; rfl
  · rename_i h
    split
    · rename_i h'
      simp only [Bool.or_eq_true, beq_iff_eq] at h'
      rcases h' with h' | h'
      · subst h'; simp [sl]
      · have : x.cps = #[] := Array.eq_empty_of_size_eq_zero h'
        cases x with | mk c => subst this; simp [sl]
    · congr 1
      apply Array.toList_inj.mp
      simp only [sl]
      have : ∀ (k : Nat) (acc : Array Nat), ((List.replicate k x.cps).foldl (· ++ ·) acc).toList = acc.toList ++ (List.replicate k x.cps.toList).flatten := by
        intro k
        induction k with
        | zero => intro acc; simp
        | succ k ih => intro acc; rw [List.replicate_succ, List.foldl_cons, ih]; simp [List.replicate_succ, List.append_assoc]
      rw [this]; (first | rfl | simp)

theorem RdAll.append {h : Heap} : ∀ {vs ws : List Value} {ds es : List PyData}, RdAll h vs ds → RdAll h ws es → RdAll h (vs ++ ws) (ds ++ es)
  | _, _, _, _, .nil, y => y
  | _, _, _, _, .cons a b, y => .cons a (b.append y)
theorem RdAll.length {h : Heap} : ∀ {vs : List Value} {ds : List PyData}, RdAll h vs ds → vs.length = ds.length
  | _, _, .nil => rfl
  | _, _, .cons _ b => by simp [b.length]
theorem RdAll.flat {h : Heap} {vs : List Value} {ds : List PyData} (x : RdAll h vs ds) : ∀ n, RdAll h (List.replicate n vs).flatten (List.replicate n ds).flatten
  | 0 => .nil
  | n + 1 => by rw [List.replicate_succ, List.replicate_succ, List.flatten_cons, List.flatten_cons]; exact x.append (x.flat n)
theorem RdAll.get {h : Heap} : ∀ {vs : List Value} {ds : List PyData}, RdAll h vs ds → ∀ (i : Nat) (d : PyData), ds[i]? = some d → ∃ v, vs[i]? = some v ∧ Rd h v d
  | _, _, .nil, i, d, e => by simp at e
  | _, _, .cons a b, 0, d, e => by simp at e; subst e; exact ⟨_, rfl, a⟩
  | _, _, .cons a b, i + 1, d, e => by simp at e; simpa using b.get i d e
theorem RdAll.take {h : Heap} : ∀ {vs : List Value} {ds : List PyData}, RdAll h vs ds → ∀ n, RdAll h (vs.take n) (ds.take n)
  | _, _, .nil, n => by simp; exact .nil
  | _, _, .cons a b, 0 => .nil
  | _, _, .cons a b, n + 1 => .cons a (b.take n)
theorem RdAll.drop {h : Heap} : ∀ {vs : List Value} {ds : List PyData}, RdAll h vs ds → ∀ n, RdAll h (vs.drop n) (ds.drop n)
  | _, _, .nil, n => by simp; exact .nil
  | _, _, .cons a b, 0 => .cons a b
  | _, _, .cons a b, n + 1 => b.drop n

theorem tuple_new (w : W X s) {vs : List Value} {ds : List PyData} (hz : vs.length ≤ 1048576) (r : RdAll s.heap vs ds) (h : Sp X RelV S l s Q E (.ok (.tuple ds))) :
    Q (.ref s.heap.objs.size) { s with heap := s.heap.push { cls := .type "tuple", data := .seq vs.toArray } } := by
  have k : ∀ b o, s.heap.get? b = some o → (s.heap.push { cls := .type "tuple", data := .seq vs.toArray }).get? b = some o := fun _ _ e => Heap.get?_push_of_some _ e
  exact h _ _ ⟨Xt.of_keeps k, w.h.keeps k, w.gens, w.os, w.toks⟩ (.tuple (Heap.get?_push_size _ rfl) rfl rfl (by simpa using hz) (by simpa using r.xt (Xt.of_keeps k)))
theorem list_new (w : W X s) {vs : List Value} {ds : List PyData} (hz : vs.length ≤ 1048576) (r : RdAll s.heap vs ds) (h : Sp X RelV S l s Q E (.ok (.list ds))) :
    Q (.ref s.heap.objs.size) { s with heap := s.heap.push { cls := .type "list", data := .seq vs.toArray } } := by
  have k : ∀ b o, s.heap.get? b = some o → (s.heap.push { cls := .type "list", data := .seq vs.toArray }).get? b = some o := fun _ _ e => Heap.get?_push_of_some _ e
  exact h _ _ ⟨Xt.of_keeps k, w.h.keeps k, w.gens, w.os, w.toks⟩ (.list (Heap.get?_push_size _ rfl) rfl rfl (by simpa using hz) (by simpa using r.xt (Xt.of_keeps k)))

theorem sizeLine_limit : sizeLine = limit := by decide

theorem add_tup {a b : Addr} {oa ob : Obj} {va vb : Array Value} {na nb : Nat} {da db : List PyData} (w : W X s) (ha : s.heap.get? a = some oa) (ca : oa.cls = .type "tuple") (ea : oa.data = .seq va na) (ra : RdAll s.heap va.toList da)
    (hb : s.heap.get? b = some ob) (cb : ob.cls = .type "tuple") (eb : ob.data = .seq vb nb) (rb : RdAll s.heap vb.toList db) (hl : da.length + db.length ≤ 1000)
    (h : Sp X RelV S l s Q E (.ok (.tuple (da ++ db)))) : wpAny (model X.prog X.w) A (binaryOp .Add (.ref a) (.ref b)) Q E s := by
  obtain ⟨cls, dd, data, sl⟩ := oa
  obtain ⟨cls2, dd2, data2, sl2⟩ := ob
  simp only at ca ea cb eb
  subst ca ea cb eb
  have la := ra.length
  have lb := rb.length
  have z := sizeLine_eq
  by_cases hv : va.isEmpty = true
  · refine concat_meets ⟨_, ha, rfl⟩ ⟨_, hb, rfl⟩ noFill_tuple_add seq_tuple_add PySem.F.slot_tuple_add PySem.F.entry_tuple_add (PySem.F.args_tuple_add_2 _ _)
      (tuple_addW0 a b va vb na nb dd dd2 sl sl2 hv) ⟨ha, hb, ?_⟩
    have e0 : va.toList = [] := by simpa using hv
    rw [e0] at ra
    cases ra
    exact h _ _ (Ok.refl w) (.tuple hb rfl rfl (by rw [Array.length_toList] at lb; lia) rb)
  · by_cases hw : vb.isEmpty = true
    · refine concat_meets ⟨_, ha, rfl⟩ ⟨_, hb, rfl⟩ noFill_tuple_add seq_tuple_add PySem.F.slot_tuple_add PySem.F.entry_tuple_add (PySem.F.args_tuple_add_2 _ _)
        (tuple_addW1 a b va vb na nb dd dd2 sl sl2 hv hw) ⟨ha, hb, ?_⟩
      have e0 : vb.toList = [] := by simpa using hw
      rw [e0] at rb
      cases rb
      rw [List.append_nil] at h
      exact h _ _ (Ok.refl w) (.tuple ha rfl rfl (by rw [Array.length_toList] at la; lia) ra)
    · refine concat_meets ⟨_, ha, rfl⟩ ⟨_, hb, rfl⟩ noFill_tuple_add seq_tuple_add PySem.F.slot_tuple_add PySem.F.entry_tuple_add (PySem.F.args_tuple_add_2 _ _)
        (tuple_addW2 a b va vb na nb dd dd2 sl sl2 hv hw (by rw [Array.length_toList] at la lb; lia)) ⟨ha, hb, ?_⟩
      have := tuple_new (vs := va.toList ++ vb.toList) w (by rw [List.length_append]; lia) (ra.append rb) h
      rw [show (va.toList ++ vb.toList).toArray = va ++ vb by apply Array.toList_inj.mp; simp] at this
      exact this
end
end Mine

namespace Mine
open PySem PySem.Calls PySem.Spec PyProof.Rows

theorem flatten_replicate_length {α : Type} (k : Nat) (x : List α) : (List.replicate k x).flatten.length = k * x.length := by
  induction k with
  | zero => simp
  | succ k ih => rw [List.replicate_succ, List.flatten_cons, List.length_append, ih, Nat.succ_mul]; lia

section
variable {X : Cfg} {A : Around} {E : Value → Shared → Prop} {s : Shared} {S : List Addr} {l : List Env} {Q : Value → Shared → Prop}

end

section
variable {prog : Program} {w : World} {A : Around} {E : Value → Shared → Prop} {s : Shared}

noncomputable def LtInv (h : Heap) (xs ys : Array Value) (c sw : Bool) (rest : List (Value × Value)) : Prop := ∃ xs' ys' dx dy, rest = List.zip xs' ys' ∧ RdAll h xs' dx ∧ RdAll h ys' dy ∧ (bif sw then tlt dy dx else tlt dx dy) = some c ∧ xs.size + ys'.length = ys.size + xs'.length
theorem intOf_inv {d : PyData} {i : Int} (h : intOf d = some i) : d = .int i := by cases d <;> cases h; rfl
theorem tlt_shape {dx dy : List PyData} {c : Bool} (h : tlt dx dy = some c) : (dx = [] ∧ dy = [] ∧ c = false) ∨ ∃ a r b q, dx = .int a :: r ∧ dy = .int b :: q ∧ ((a = b ∧ tlt r q = some c) ∨ (a ≠ b ∧ c = decide (a < b))) := by
  cases dx with
  | nil =>
    cases dy with
    | nil => cases h; exact .inl ⟨rfl, rfl, rfl⟩
    | cons y q => cases h
  | cons x r =>
    cases dy with
    | nil => cases h
    | cons y q =>
      rw [tltE] at h
      obtain ⟨a, e1, h⟩ := Option.bind_eq_some_iff.mp h
      obtain ⟨b, e2, h⟩ := Option.bind_eq_some_iff.mp h
      refine .inr ⟨a, r, b, q, by rw [intOf_inv e1], by rw [intOf_inv e2], ?_⟩
      by_cases e : a = b
      · rw [decide_eq_true e, cond_true] at h; exact .inl ⟨e, h⟩
      · rw [decide_eq_false e, cond_false] at h; exact .inr ⟨e, (Option.some.inj h).symm⟩
theorem RdAll.intCons {h : Heap} {vs : List Value} {i : Int} {ds : List PyData} (x : RdAll h vs (.int i :: ds)) : ∃ t r, vs = .int i t :: r ∧ RdAll h r ds := by
  cases x with
  | cons a b => cases a with | int i t => exact ⟨t, _, rfl, b⟩
theorem LtInv.nil {h : Heap} {xs ys : Array Value} {c sw : Bool} (I : LtInv h xs ys c sw []) : c = false ∧ xs.size = ys.size := by
  obtain ⟨xs', ys', dx, dy, hz, hx, hy, ht, hl⟩ := I
  have key : dx = [] ∧ dy = [] ∧ c = false := by
    cases sw with
    | false =>
      rcases tlt_shape ht with q | ⟨i, r', j, q', rfl, rfl, _⟩
      · exact q
      · obtain ⟨_, _, rfl, _⟩ := hx.intCons; obtain ⟨_, _, rfl, _⟩ := hy.intCons; cases hz
    | true =>
      rcases tlt_shape ht with q | ⟨i, r', j, q', rfl, rfl, _⟩
      · exact ⟨q.2.1, q.1, q.2.2⟩
      · obtain ⟨_, _, rfl, _⟩ := hx.intCons; obtain ⟨_, _, rfl, _⟩ := hy.intCons; cases hz
  obtain ⟨rfl, rfl, e⟩ := key
  cases hx; cases hy
  exact ⟨e, hl⟩
theorem LtInv.cons {h : Heap} {xs ys : Array Value} {c sw : Bool} {u v : Value} {rest : List (Value × Value)} (I : LtInv h xs ys c sw ((u, v) :: rest)) :
    ∃ i t j t', u = .int i t ∧ v = .int j t' ∧ ((i = j ∧ LtInv h xs ys c sw rest) ∨ (i ≠ j ∧ c = bif sw then decide (j < i) else decide (i < j))) := by
  obtain ⟨xs', ys', dx, dy, hz, hx, hy, ht, hl⟩ := I
  have key : ∃ i r j q, dx = .int i :: r ∧ dy = .int j :: q ∧ ((i = j ∧ (bif sw then tlt q r else tlt r q) = some c) ∨ (i ≠ j ∧ c = bif sw then decide (j < i) else decide (i < j))) := by
    cases sw with
    | false =>
      rcases tlt_shape ht with ⟨rfl, rfl, _⟩ | ⟨i, r', j, q', e1, e2, hcase⟩
      · cases hx; cases hz
      · exact ⟨i, r', j, q', e1, e2, hcase⟩
    | true =>
      rcases tlt_shape ht with ⟨rfl, rfl, _⟩ | ⟨j, q', i, r', e1, e2, hcase⟩
      · cases hx; cases hz
      · exact ⟨i, r', j, q', e2, e1, hcase.imp (fun z => ⟨z.1.symm, z.2⟩) fun z => ⟨fun y => z.1 y.symm, z.2⟩⟩
  obtain ⟨i, r, j, q, rfl, rfl, hcase⟩ := key
  obtain ⟨t, xr, rfl, hx'⟩ := hx.intCons
  obtain ⟨t', yr, rfl, hy'⟩ := hy.intCons
  cases hz
  refine ⟨i, t, j, t', rfl, rfl, hcase.imp (fun z => ⟨z.1, xr, yr, r, q, rfl, hx', hy', z.2, ?_⟩) id⟩
  rw [List.length_cons, List.length_cons] at hl; lia
theorem both_tup {α : Type} {a b : Addr} {xs ys : Array Value} {no : Sem α} {k : Array Value → Array Value → Sem α} {P : α → Shared → Prop} (hx : IsTup s.heap a xs) (hy : IsTup s.heap b ys) (h : wpAny (model prog w) A (k xs ys) P E s) :
    wpAny (model prog w) A (isInstance (.ref b) (.type "tuple") >>= fun t => if (!t) = true then no else Builtin.Tuple.tupleItemsOf (.ref a) >>= fun x => Builtin.Tuple.tupleItemsOf (.ref b) >>= fun y => k x y) P E s :=
  wpAny_bind (wpAny_isInstance hy.typeIs isSubtype_tuple_tuple (wpAny_ite_false rfl (wpAny_bind (tupleItemsOf_ hx (wpAny_bind (tupleItemsOf_ hy h))))))
theorem tuple_lt_tree {a b : Addr} {xs ys : Array Value} {dx dy : List PyData} {c : Bool} {P : Fin → Shared → Prop} (hx : IsTup s.heap a xs) (hy : IsTup s.heap b ys) (rx : RdAll s.heap xs.toList dx) (ry : RdAll s.heap ys.toList dy) (hc : tlt dx dy = some c)
    (h : P (.done (.ret (.bool c))) s) : wpAny (model prog w) A (Builtin.«tuple.__lt__» ⟨[.ref a, .ref b], []⟩) P E s := by
  have I₀ : LtInv s.heap xs ys c false (xs.toList.zip ys.toList) := ⟨_, _, dx, dy, rfl, rx, ry, hc, by rw [Array.length_toList, Array.length_toList, Nat.add_comm]⟩
  clear rx ry hc
  refine both_tup hx hy (wpAny_bind (wpAny_forIn_list _ (fun rest r s' => r.1 = none ∧ s' = s ∧ LtInv s.heap xs ys c false rest) _ ?_ ?_ _ _ ⟨rfl, rfl, I₀⟩))
  · rintro ⟨u, v⟩ rest r s' ⟨hr, rfl, I⟩
    obtain ⟨i, t, j, t', rfl, rfl, hcase⟩ := I.cons
    refine wpAny_bind (wpAny_eqBool_int ?_)
    rcases hcase with ⟨e, I'⟩ | ⟨hne, hc⟩
    · refine wpAny_ite_false (by rw [e, beq_self_eq_true]; rfl) ?_
      exact wpAny_pure ⟨rfl, rfl, I'⟩
    · refine wpAny_ite_true (by rw [beq_eq_false_iff_ne.mpr hne]; rfl) ?_
      rw [show c = decide (i < j) from hc] at h
      exact wpAny_bind (wpAny_rule (wpAny_bind (wpAny_lt_int (wpAny_bind (wpAny_pure (wpAny_pure (wpAny_pure h)))))))
  · rintro ⟨r1, r2⟩ s' ⟨hr, rfl, I⟩
    simp only at hr
    subst hr
    refine wpAny_pure ?_
    obtain ⟨hc, hl⟩ := I.nil
    show P (.done (.ret (.bool (decide (xs.size < ys.size))))) s'
    rw [decide_eq_false (by rw [hl]; exact Nat.lt_irrefl _), ← hc]; exact h
theorem tuple_gt_tree {a b : Addr} {xs ys : Array Value} {dx dy : List PyData} {c : Bool} {P : Fin → Shared → Prop} (hx : IsTup s.heap a xs) (hy : IsTup s.heap b ys) (rx : RdAll s.heap xs.toList dx) (ry : RdAll s.heap ys.toList dy) (hc : tlt dy dx = some c)
    (h : P (.done (.ret (.bool c))) s) : wpAny (model prog w) A (Builtin.«tuple.__gt__» ⟨[.ref a, .ref b], []⟩) P E s := by
  have I₀ : LtInv s.heap xs ys c true (xs.toList.zip ys.toList) := ⟨_, _, dx, dy, rfl, rx, ry, hc, by rw [Array.length_toList, Array.length_toList, Nat.add_comm]⟩
  clear rx ry hc
  refine both_tup hx hy (wpAny_bind (wpAny_forIn_list _ (fun rest r s' => r.1 = none ∧ s' = s ∧ LtInv s.heap xs ys c true rest) _ ?_ ?_ _ _ ⟨rfl, rfl, I₀⟩))
  · rintro ⟨u, v⟩ rest r s' ⟨hr, rfl, I⟩
    obtain ⟨i, t, j, t', rfl, rfl, hcase⟩ := I.cons
    refine wpAny_bind (wpAny_eqBool_int ?_)
    rcases hcase with ⟨e, I'⟩ | ⟨hne, hc⟩
    · refine wpAny_ite_false (by rw [e, beq_self_eq_true]; rfl) ?_
      exact wpAny_pure ⟨rfl, rfl, I'⟩
    · refine wpAny_ite_true (by rw [beq_eq_false_iff_ne.mpr hne]; rfl) ?_
      rw [show c = decide (j < i) from hc] at h
      exact wpAny_bind (wpAny_rule (wpAny_bind (gt_int (wpAny_bind (wpAny_pure (wpAny_pure (wpAny_pure h)))))))
  · rintro ⟨r1, r2⟩ s' ⟨hr, rfl, I⟩
    simp only at hr
    subst hr
    refine wpAny_pure ?_
    obtain ⟨hc, hl⟩ := I.nil
    show P (.done (.ret (.bool (decide (xs.size > ys.size))))) s'
    rw [decide_eq_false (by rw [hl]; exact Nat.lt_irrefl _), ← hc]; exact h
end
end Mine

namespace Mine
open PySem PySem.Calls PySem.Spec PyProof.Rows

section
variable {X : Cfg} {A : Around} {E : Value → Shared → Prop} {s : Shared} {S : List Addr} {l : List Env} {Q : Value → Shared → Prop}

theorem sp_int {i : Int} {t : Tok} {k : Nat} (w : W X s) (hk : s.toks ≤ k) (h : Sp X RelV S l s Q E (.ok (.int i))) : Q (.int i t) { s with toks := k } := h _ _ (Ok.tk w hk) (.int i t)
theorem sp_bool {b : Bool} (w : W X s) (h : Sp X RelV S l s Q E (.ok (.bool b))) : Q (.bool b) s := h _ _ (Ok.refl w) (.bool b)
theorem sp_str {x : Str} {t : Tok} {k : Nat} (w : W X s) (hk : s.toks ≤ k) (hz : x.length ≤ limit) (h : Sp X RelV S l s Q E (.ok (.str x))) : Q (.str x t) { s with toks := k } := h _ _ (Ok.tk w hk) (.str x t hz)

theorem str_append (x y : Str) : x ++ y = ⟨(sl x ++ sl y).toArray⟩ := by
  show Str.append x y = _
  unfold Str.append
  congr 1
  apply Array.toList_inj.mp
  simp [sl]
theorem sl_length (x : Str) : (sl x).length = x.length := by simp [sl, Str.length]

theorem Sp.ne {α β : Type} {Rel : Shared → β → α → Prop} {Q : β → Shared → Prop} {r : R α} (h : Sp X Rel S l s Q E r) : r ≠ .stuck := fun e => by rw [e] at h; exact h
theorem Rd.intI {h : Heap} {v : Value} {a : Int} (r : Rd h v (.int a)) : ∃ t, v = .int a t := by cases r; exact ⟨_, rfl⟩
theorem Rd.strI {h : Heap} {v : Value} {a : Str} (r : Rd h v (.str a)) : ∃ t, v = .str a t := by cases r; exact ⟨_, rfl⟩
theorem Rd.tupI {h : Heap} {v : Value} {a : List PyData} (r : Rd h v (.tuple a)) : ∃ p o vs n, v = .ref p ∧ h.get? p = some o ∧ o.cls = .type "tuple" ∧ o.data = .seq vs n ∧ RdAll h vs.toList a := by
  cases r with
  | tuple ho hc hd z ra => exact ⟨_, _, _, _, rfl, ho, hc, hd, ra⟩

theorem bin_el {P : BOp → PyData → PyData → Prop} {op : BOp} {x y : PyData} (h : binop op x y ≠ .stuck) (k1 : ∀ a b, P op (.int a) (.int b)) (k2 : ∀ a b, P .add (.str a) (.str b)) (k3 : ∀ a b, P .mul (.str a) (.int b))
    (k4 : ∀ a b, P .add (.tuple a) (.tuple b)) : P op x y := by
  cases op with
  | add =>
    cases x with
    | int a => cases y with
      | int b => exact k1 a b
      | _ => exact absurd rfl h
    | str a => cases y with
      | str b => exact k2 a b
      | _ => exact absurd rfl h
    | tuple a => cases y with
      | tuple b => exact k4 a b
      | _ => exact absurd rfl h
    | _ => exact absurd rfl h
  | mul =>
    cases x with
    | int a => cases y with
      | int b => exact k1 a b
      | _ => exact absurd rfl h
    | str a => cases y with
      | int b => exact k3 a b
      | _ => exact absurd rfl h
    | _ => exact absurd rfl h
  | _ =>
    cases x with
    | int a => cases y with
      | int b => exact k1 a b
      | _ => exact absurd rfl h
    | _ => exact absurd rfl h
theorem bin_ints {op : BOp} {a b : Int} {t t' : Tok} (w : W X s) (h : Sp X RelV S l s Q E (binop op (.int a) (.int b))) : wpAny (model X.prog X.w) A (binaryOp (opOf op) (.int a t) (.int b t')) Q E s := by
  cases op with
  | add => exact PyProof.Rows.add_int (sp_int w (Nat.le_succ _) h)
  | sub => exact PyProof.Rows.sub_int (sp_int w (Nat.le_succ _) h)
  | mul =>
    obtain ⟨c, h⟩ := when_ok h
    refine PyProof.Rows.mul_int (sp_int w (Nat.le_succ _) h) ?_
    rcases Bool.or_eq_true_iff.mp c with c | c
    · exact IntMulOk.of_left (intBits_small c)
    · exact IntMulOk.of_right (intBits_small c)
  | div =>
    obtain ⟨c, h⟩ := when_ok h
    simp only [Bool.and_eq_true, decide_eq_true_eq] at c
    refine PyProof.Rows.floordiv_int (by first | assumption | exact Nat.le_add_left _ _ | decide | lia) ?_ (.inl (PyProof.noPylong_small (by first | assumption | exact Nat.le_add_left _ _ | decide | lia)))
    rw [Int.fdiv_eq_ediv_of_nonneg _ (by first | assumption | exact Nat.le_add_left _ _ | decide | lia)]
    exact sp_int w (Nat.le_succ _) h
  | mod =>
    obtain ⟨c, h⟩ := when_ok h
    simp only [decide_eq_true_eq] at c
    refine PyProof.Rows.mod_int' (by first | assumption | exact Nat.le_add_left _ _ | decide | lia) ?_
    rw [Int.fmod_eq_emod_of_nonneg _ (by first | assumption | exact Nat.le_add_left _ _ | decide | lia)]
    exact sp_int w (Nat.le_succ _) h
theorem bin_strs {a b : Str} {t t' : Tok} (w : W X s) (h : Sp X RelV S l s Q E (binop .add (.str a) (.str b))) : wpAny (model X.prog X.w) A (binaryOp .Add (.str a t) (.str b t')) Q E s := by
  obtain ⟨c, h⟩ := when_ok h
  simp only [decide_eq_true_eq, sl_length] at c
  refine wpAny_tk (add_str (fun t' tk hk => ?_) (by rw [sizeLine_limit]; exact c))
  rw [str_append]
  exact sp_str w hk (by simp [Str.length, sl] at c ⊢; exact c) h
theorem bin_strint {a : Str} {b : Int} {t t' : Tok} (w : W X s) (h : Sp X RelV S l s Q E (binop .mul (.str a) (.int b))) : wpAny (model X.prog X.w) A (binaryOp .Mult (.str a t) (.int b t')) Q E s := by
  obtain ⟨c, h⟩ := when_ok h
  simp only [Bool.and_eq_true, decide_eq_true_eq, sl_length] at c
  obtain ⟨⟨c1, c2⟩, c3⟩ := c
  refine wpAny_tk (SB.mul ?_ (fun t' tk hk => ?_))
  · refine ⟨by simp; lia, fun h1 _ => ?_, fun h1 _ => ?_⟩
    · have : (16 : Int) ≤ (2 ^ 63 - 1) / b := Int.le_ediv_of_mul_le (by first | assumption | exact Nat.le_add_left _ _ | decide | lia) (by first | assumption | exact Nat.le_add_left _ _ | decide | lia)
      lia
    · unfold Builtin.Str.tooLong
      have : a.length * b.toNat ≤ 16 * 1000 := Nat.mul_le_mul (by first | assumption | exact Nat.le_add_left _ _ | decide | lia) (by first | assumption | exact Nat.le_add_left _ _ | decide | lia)
      have z := sizeLine_eq
      simp only [decide_eq_false_iff_not, gt_iff_lt, Nat.not_lt]; lia
  · rw [txt_mul]
    refine sp_str w hk ?_ h
    have : b.toNat * a.length ≤ 1000 * 16 := Nat.mul_le_mul (by first | assumption | exact Nat.le_add_left _ _ | decide | lia) (by first | assumption | exact Nat.le_add_left _ _ | decide | lia)
    rw [show (⟨(List.replicate b.toNat (sl a)).flatten.toArray⟩ : Str).length = b.toNat * a.length by rw [← sl_length, sl_mk, List.toList_toArray, flatten_replicate_length, sl_length]]
    unfold limit; lia
theorem binop_sound {op : BOp} {v u : Value} {x y : PyData} (w : W X s) (rx : Rd s.heap v x) (ry : Rd s.heap u y) (h : Sp X RelV S l s Q E (binop op x y)) :
    wpAny (model X.prog X.w) A (binaryOp (opOf op) v u) Q E s := by
  refine bin_el (P := fun op x y => Rd s.heap v x → Rd s.heap u y → Sp X RelV S l s Q E (binop op x y) → wpAny (model X.prog X.w) A (binaryOp (opOf op) v u) Q E s) h.ne (fun a b rx ry h => ?_) (fun a b rx ry h => ?_) (fun a b rx ry h => ?_) (fun a b rx ry h => ?_) rx ry h
  · obtain ⟨_, rfl⟩ := rx.intI; obtain ⟨_, rfl⟩ := ry.intI; exact bin_ints w h
  · obtain ⟨_, rfl⟩ := rx.strI; obtain ⟨_, rfl⟩ := ry.strI; exact bin_strs w h
  · obtain ⟨_, rfl⟩ := rx.strI; obtain ⟨_, rfl⟩ := ry.intI; exact bin_strint w h
  · obtain ⟨p, o, vs, n, rfl, ho, hc, hd, ra⟩ := rx.tupI
    obtain ⟨p', o', vs', n', rfl, ho', hc', hd', rb⟩ := ry.tupI
    obtain ⟨c, h⟩ := when_ok h
    exact add_tup w ho hc hd ra ho' hc' hd' rb (of_decide_eq_true c) h
end
end Mine

namespace Mine
open PySem PySem.Calls PySem.Spec PyProof.Rows

theorem ib (a b : Int) : (a == b) = decide (a = b) := by by_cases h : a = b <;> (first | rfl | simp [h])
theorem ib_comm (a b : Int) : (a == b) = (b == a) := by rw [ib, ib]; exact decide_eq_decide.mpr ⟨Eq.symm, Eq.symm⟩
theorem flat_lay : ∀ {l : List PyData}, l.all flat = true → PyData.canLayAll0 l = true ∧ PyData.depthAll l = 0
  | [], _ => ⟨rfl, rfl⟩
  | x :: r, h => by
    rw [List.all_cons, Bool.and_eq_true] at h
    obtain ⟨a, b⟩ := flat_lay h.2
    cases x <;> simp [flat] at h <;> simp [PyData.canLayAll0, PyData.canLay0, PyData.depthAll, PyData.depth, a, b]
theorem flat_shaped {l : List PyData} (h : l.all flat = true) : SeqAt.shaped (.tuple l) = true := by
  obtain ⟨a, b⟩ := flat_lay h
  unfold SeqAt.shaped
  simp [PyData.canLay0, PyData.depth, a, b]
theorem feqs_eqv : ∀ {l q : List PyData}, l.all flat = true → q.all flat = true → PyData.eqvAll l q = feqs l q
  | [], [], _, _ => rfl
  | [], _ :: _, _, _ => rfl
  | _ :: _, [], _, _ => rfl
  | x :: r, y :: q, h, h' => by
    rw [List.all_cons, Bool.and_eq_true] at h h'
    have ih := feqs_eqv h.2 h'.2
    cases x <;> simp [flat] at h <;> cases y <;> simp [flat] at h' <;> (first | rfl | simp [PyData.eqvAll, PyData.eqv, feqsE_cons, ih, ib])
theorem ascii_shaped {x : Str} (h : (sl x).all (fun c => decide (c < 128)) = true) : SeqAt.shaped (.str x) = true := by
  unfold SeqAt.shaped
  simp only [PyData.canLay0, PyData.depth, PyData.strOk, Bool.and_eq_true]
  refine ⟨?_, rfl⟩
  rw [Array.all_eq_true']
  intro c hc
  have := List.all_eq_true.mp h c (by simpa [sl] using hc)
  simp at this ⊢
  lia

theorem shaped_none : SeqAt.shaped .none = true := by decide
theorem shaped_int (i : Int) : SeqAt.shaped (.int i) = true := by simp [SeqAt.shaped, PyData.canLay0, PyData.depth]
theorem shaped_bool (b : Bool) : SeqAt.shaped (.bool b) = true := by simp [SeqAt.shaped, PyData.canLay0, PyData.depth]
theorem cond_some {b c d : Bool} (h : (bif b then some d else none) = some c) : b = true ∧ d = c := by cases b with
  | true => exact ⟨rfl, Option.some.inj h⟩
  | false => cases h
theorem bool_eqv (a b : Bool) : PyData.eqv (.bool a) (.bool b) = decide (a = b) := by cases a <;> cases b <;> rfl
theorem deq_el {P : PyData → PyData → Prop} {x y : PyData} (h : deq x y ≠ none) (k1 : ∀ a b, P (.int a) (.int b)) (k2 : ∀ a b, P (.str a) (.str b)) (k3 : ∀ a b, P (.bool a) (.bool b)) (k4 : P .none .none) (k5 : ∀ a, P .none (.int a)) (k6 : ∀ a, P (.int a) .none)
    (k7 : ∀ a b, P (.str a) (.tuple b)) (k8 : ∀ a b, P (.tuple a) (.str b)) (k9 : ∀ a b, P (.tuple a) (.tuple b)) : P x y := by
  cases x with
  | int a => cases y with
    | int b => exact k1 a b
    | none => exact k6 a
    | _ => exact absurd rfl h
  | str a => cases y with
    | str b => exact k2 a b
    | tuple b => exact k7 a b
    | _ => exact absurd rfl h
  | bool a => cases y with
    | bool b => exact k3 a b
    | _ => exact absurd rfl h
  | none => cases y with
    | none => exact k4
    | int a => exact k5 a
    | _ => exact absurd rfl h
  | tuple a => cases y with
    | str b => exact k8 a b
    | tuple b => exact k9 a b
    | _ => exact absurd rfl h
  | _ => cases y <;> exact absurd rfl h
theorem deq_sound {x y : PyData} {c : Bool} (h : deq x y = some c) : (∃ a b, x = .str a ∧ y = .str b ∧ c = (a == b)) ∨ (SeqAt.shaped x = true ∧ SeqAt.shaped y = true ∧ PyData.eqv x y = c) := by
  revert h
  by_cases ne : deq x y = none
  · rw [ne]; intro h; cases h
  refine deq_el (P := fun x y => deq x y = some c → (∃ a b, x = .str a ∧ y = .str b ∧ c = (a == b)) ∨ (SeqAt.shaped x = true ∧ SeqAt.shaped y = true ∧ PyData.eqv x y = c)) ne (fun a b h => ?_) (fun a b h => ?_) (fun a b h => ?_) (fun h => ?_) (fun a h => ?_) (fun a h => ?_) (fun x l h => ?_) (fun l x h => ?_) (fun a b h => ?_)
  · cases h; exact .inr ⟨shaped_int _, shaped_int _, by rw [PyData.eqv, ib]⟩
  · cases h; exact .inl ⟨_, _, rfl, rfl, by rw [Bool.eq_iff_iff, decide_eq_true_iff, beq_iff_eq]⟩
  · cases h; exact .inr ⟨shaped_bool _, shaped_bool _, bool_eqv a b⟩
  · cases h; exact .inr ⟨shaped_none, shaped_none, rfl⟩
  · cases h; exact .inr ⟨shaped_none, shaped_int _, rfl⟩
  · cases h; exact .inr ⟨shaped_int _, shaped_none, rfl⟩
  · obtain ⟨e, rfl⟩ := cond_some h
    rw [Bool.and_eq_true] at e
    exact .inr ⟨ascii_shaped e.1, flat_shaped e.2, rfl⟩
  · obtain ⟨e, rfl⟩ := cond_some h
    rw [Bool.and_eq_true] at e
    exact .inr ⟨flat_shaped e.2, ascii_shaped e.1, rfl⟩
  · obtain ⟨e, rfl⟩ := cond_some h
    simp only [Bool.and_eq_true] at e
    exact .inr ⟨flat_shaped e.1.1.1, flat_shaped e.1.1.2, by rw [PyData.eqv]; exact feqs_eqv e.1.1.1 e.1.1.2⟩

theorem eqvAll_comm : ∀ (a b : List PyData), a.all flat = true → b.all flat = true → PyData.eqvAll b a = PyData.eqvAll a b
  | [], [], _, _ => rfl
  | [], _ :: _, _, _ => rfl
  | _ :: _, [], _, _ => rfl
  | x :: a, y :: b, ha, hb => by
    rw [List.all_cons, Bool.and_eq_true] at ha hb
    have ih := eqvAll_comm a b ha.2 hb.2
    rw [PyData.eqvAll, PyData.eqvAll, ih]
    congr 1
    cases x with
    | int i => cases y with
      | int j => exact ib_comm j i
      | none => rfl
      | _ => cases hb.1
    | none => cases y with
      | int j => rfl
      | none => rfl
      | _ => cases hb.1
    | _ => cases ha.1
theorem memb_sound {d : PyData} (hd : (∃ i, d = .int i) ∨ ∃ t, d = .tuple t) : ∀ {l : List PyData} {c : Bool}, memb d l = some c →
    PyData.canLayAll0 l = true ∧ (l.any fun y => PyData.eqv y d) = c ∧ (l ≠ [] → SeqAt.shaped d = true)
  | [], c, h => by cases h; exact ⟨rfl, rfl, fun q => absurd rfl q⟩
  | e :: r, c, h => by
    rw [membE_cons] at h
    cases h1 : deq d e with
    | none => rw [h1] at h; cases h
    | some b =>
      rw [h1, Option.bind_some] at h
      cases h2 : memb d r with
      | none => rw [h2] at h; cases h
      | some b' =>
        rw [h2, Option.map_some] at h
        cases h
        obtain ⟨k1, k2, _⟩ := memb_sound hd h2
        rcases deq_sound h1 with ⟨_, _, rfl, _⟩ | ⟨s1, s2, s3⟩
        · rcases hd with ⟨i, q⟩ | ⟨i, q⟩ <;> cases q
        · have sym : PyData.eqv e d = b := by
            rw [← s3]
            rcases hd with ⟨i, rfl⟩ | ⟨t, rfl⟩
            · cases e with
              | int j => exact ib_comm j i
              | none => rfl
              | _ => cases h1
            · cases e with
              | tuple q =>
                rw [deq_11] at h1
                cases e2 : t.all flat && q.all flat && decide (t.length ≤ 100) && decide (q.length ≤ 100) with
                | false => rw [e2] at h1; cases h1
                | true =>
                  simp only [Bool.and_eq_true] at e2
                  exact eqvAll_comm t q e2.1.1.1 e2.1.1.2
              | str x => rfl
              | _ => cases h1
          refine ⟨?_, ?_, fun _ => s1⟩
          · rw [PyData.canLayAll0, k1, SeqAt.canLay_of_shaped s2]; rfl
          · rw [List.any_cons, sym, k2]

noncomputable def cmpOf : COp → CmpOp
  | .lt => .Lt
  | .le => .LtE
  | .gt => .Gt
  | .ge => .GtE
  | .eq => .Eq
  | .ne => .NotEq
  | .isIn => .In
  | .notIn => .NotIn

theorem subAt_iff (y : List Nat) : ∀ (x : List Nat), subAt y x = true ↔ ∃ i, i + y.length ≤ x.length ∧ (x.drop i).take y.length = y
  | [] => by
    unfold subAt
    cases y with
    | nil => simp
    | cons c y => simp
  | c :: r => by
    unfold subAt
    rw [Bool.or_eq_true, subAt_iff y r, List.isPrefixOf_iff_prefix]
    constructor
    · rintro (h | ⟨i, h1, h2⟩)
      · exact ⟨0, by have := h.length_le; simpa using this, by rw [List.drop_zero]; exact (List.prefix_iff_eq_take.mp h).symm⟩
      · exact ⟨i + 1, by simp; lia, by simpa using h2⟩
    · rintro ⟨i, h1, h2⟩
      cases i with
      | zero => left; rw [List.drop_zero] at h2; rw [← h2]; exact List.take_prefix _ _
      | succ i => right; exact ⟨i, by simp at h1; lia, by simpa using h2⟩

section
variable {X : Cfg} {A : Around} {E : Value → Shared → Prop} {s : Shared} {S : List Addr} {l : List Env} {Q : Value → Shared → Prop}

theorem occ_sub (x y : Str) : (!(Builtin.Str.occurrences x y 0 x.length 1).isEmpty) = subAt (sl y) (sl x) := by
  rw [Bool.eq_iff_iff, StrLaws.found_iff, subAt_iff]
  simp only [StrLaws.subAt_eq, beq_iff_eq, sl_length]

theorem le_el {P : PyData → PyData → Prop} {x y : PyData} (h : cmpop .le x y ≠ .stuck) (k : ∀ a b, P (.int a) (.int b)) : P x y := by
  cases x with
  | int a => cases y with
    | int b => exact k a b
    | _ => exact absurd rfl h
  | _ => exact absurd rfl h
theorem ge_el {P : PyData → PyData → Prop} {x y : PyData} (h : cmpop .ge x y ≠ .stuck) (k : ∀ a b, P (.int a) (.int b)) : P x y := by
  cases x with
  | int a => cases y with
    | int b => exact k a b
    | _ => exact absurd rfl h
  | _ => exact absurd rfl h
theorem lt_el {P : PyData → PyData → Prop} {x y : PyData} (h : cmpop .lt x y ≠ .stuck) (k : ∀ a b, P (.int a) (.int b)) (k' : ∀ a b, P (.tuple a) (.tuple b)) : P x y := by
  cases x with
  | int a => cases y with
    | int b => exact k a b
    | _ => exact absurd rfl h
  | tuple a => cases y with
    | tuple b => exact k' a b
    | _ => exact absurd rfl h
  | _ => exact absurd rfl h
theorem gt_el {P : PyData → PyData → Prop} {x y : PyData} (h : cmpop .gt x y ≠ .stuck) (k : ∀ a b, P (.int a) (.int b)) (k' : ∀ a b, P (.tuple a) (.tuple b)) : P x y := by
  cases x with
  | int a => cases y with
    | int b => exact k a b
    | _ => exact absurd rfl h
  | tuple a => cases y with
    | tuple b => exact k' a b
    | _ => exact absurd rfl h
  | _ => exact absurd rfl h
theorem in_el {P : PyData → PyData → Prop} {x y : PyData} (h : cmpop .isIn x y ≠ .stuck ∨ cmpop .notIn x y ≠ .stuck) (k : ∀ a b, P (.str a) (.str b)) (k' : ∀ a b, P (.int a) (.tuple b)) (k'' : ∀ a b, P (.tuple a) (.tuple b)) : P x y := by
  cases x with
  | str a => cases y with
    | str b => exact k a b
    | _ => exact (h.elim (fun q => q rfl) fun q => q rfl).elim
  | int a => cases y with
    | tuple b => exact k' a b
    | _ => exact (h.elim (fun q => q rfl) fun q => q rfl).elim
  | tuple a => cases y with
    | tuple b => exact k'' a b
    | _ => exact (h.elim (fun q => q rfl) fun q => q rfl).elim
  | _ => exact (h.elim (fun q => q rfl) fun q => q rfl).elim
theorem eq_sound {v u : Value} {x y : PyData} (w : W X s) (rx : Rd s.heap v x) (ry : Rd s.heap u y) (hu : A.units + 70 < cLine) (h : Sp X RelV S l s Q E (cmpop .eq x y)) :
    wpAny (model X.prog X.w) A (compareOp .Eq v u) Q E s := by
  rw [cmpop_1] at h
  cases e : deq x y with
  | none => rw [e] at h; exact h.elim
  | some c =>
    rw [e] at h
    rcases deq_sound e with ⟨a, b, rfl, rfl, rfl⟩ | ⟨s1, s2, s3⟩
    · obtain ⟨_, rfl⟩ := rx.strI; obtain ⟨_, rfl⟩ := ry.strI; exact PyProof.Rows.eq_str (sp_bool w h)
    · obtain ⟨as, ra⟩ := rx.reads
      obtain ⟨bs, rb⟩ := ry.reads
      refine eq_dataH ra rb s1 s2 (Nat.lt_of_le_of_lt (Nat.add_le_add_left (by decide) _) hu) ?_
      rw [s3]; exact sp_bool w h
theorem ne_sound {v u : Value} {x y : PyData} (w : W X s) (rx : Rd s.heap v x) (ry : Rd s.heap u y) (hu : A.units + 70 < cLine) (h : Sp X RelV S l s Q E (cmpop .ne x y)) :
    wpAny (model X.prog X.w) A (compareOp .NotEq v u) Q E s := by
  rw [cmpop_2] at h
  cases e : deq x y with
  | none => rw [e] at h; exact h.elim
  | some c =>
    rw [e] at h
    rcases deq_sound e with ⟨a, b, rfl, rfl, rfl⟩ | ⟨s1, s2, s3⟩
    · obtain ⟨_, rfl⟩ := rx.strI; obtain ⟨_, rfl⟩ := ry.strI; exact PyProof.Rows.ne_str (sp_bool w h)
    · obtain ⟨as, ra⟩ := rx.reads
      obtain ⟨bs, rb⟩ := ry.reads
      refine ne_dataH ra rb s1 s2 (Nat.lt_of_le_of_lt (Nat.add_le_add_left (by decide) _) hu) ?_
      rw [s3]; exact sp_bool w h
theorem lt_sound {v u : Value} {x y : PyData} (w : W X s) (hu : A.units + 70 < cLine) (ne : cmpop .lt x y ≠ .stuck) : Rd s.heap v x → Rd s.heap u y → Sp X RelV S l s Q E (cmpop .lt x y) →
    wpAny (model X.prog X.w) A (compareOp .Lt v u) Q E s := by
  refine lt_el (P := fun x y => Rd s.heap v x → Rd s.heap u y → Sp X RelV S l s Q E (cmpop .lt x y) → wpAny (model X.prog X.w) A (compareOp .Lt v u) Q E s) ne (fun a b rx ry h => ?_) fun a b rx ry h => ?_
  · obtain ⟨_, rfl⟩ := rx.intI; obtain ⟨_, rfl⟩ := ry.intI; exact PyProof.Rows.lt_int (sp_bool w h)
  · obtain ⟨p, o, vs, n, rfl, ho, hc, hd, ra⟩ := rx.tupI
    obtain ⟨p', o', vs', n', rfl, ho', hc', hd', rb⟩ := ry.tupI
    rw [cmpop_7] at h
    cases e : tlt a b with
    | none => rw [e] at h; exact h.elim
    | some c =>
      rw [e] at h
      exact wpAny_richCompare_same_room (op := .Lt) (T := "tuple") ⟨_, ho, hc⟩ ⟨_, ho', hc'⟩ PySem.F.slot_tuple_lt
        (wpAny_call_entry PySem.F.slot_tuple_lt ⟨_, ho, hc⟩ PySem.F.entry_tuple_lt (tuple_lt_tree ⟨_, ho, hc, _, hd⟩ ⟨_, ho', hc', _, hd'⟩ ra rb e ⟨_, rfl, (fun q => nomatch q), sp_bool w h⟩) (PySem.F.args_tuple_lt_2 _ _)) (by lia)
theorem gt_sound {v u : Value} {x y : PyData} (w : W X s) (hu : A.units + 70 < cLine) (ne : cmpop .gt x y ≠ .stuck) : Rd s.heap v x → Rd s.heap u y → Sp X RelV S l s Q E (cmpop .gt x y) →
    wpAny (model X.prog X.w) A (compareOp .Gt v u) Q E s := by
  refine gt_el (P := fun x y => Rd s.heap v x → Rd s.heap u y → Sp X RelV S l s Q E (cmpop .gt x y) → wpAny (model X.prog X.w) A (compareOp .Gt v u) Q E s) ne (fun a b rx ry h => ?_) fun a b rx ry h => ?_
  · obtain ⟨_, rfl⟩ := rx.intI; obtain ⟨_, rfl⟩ := ry.intI; exact PyProof.Rows.gt_int (sp_bool w h)
  · obtain ⟨p, o, vs, n, rfl, ho, hc, hd, ra⟩ := rx.tupI
    obtain ⟨p', o', vs', n', rfl, ho', hc', hd', rb⟩ := ry.tupI
    rw [cmpop_8] at h
    cases e : tlt b a with
    | none => rw [e] at h; exact h.elim
    | some c =>
      rw [e] at h
      exact wpAny_richCompare_same_room (op := .Gt) (T := "tuple") ⟨_, ho, hc⟩ ⟨_, ho', hc'⟩ PySem.F.slot_tuple_gt
        (wpAny_call_entry PySem.F.slot_tuple_gt ⟨_, ho, hc⟩ PySem.F.entry_tuple_gt (tuple_gt_tree ⟨_, ho, hc, _, hd⟩ ⟨_, ho', hc', _, hd'⟩ ra rb e ⟨_, rfl, (fun q => nomatch q), sp_bool w h⟩) (PySem.F.args_tuple_gt_2 _ _)) (by lia)
theorem in_sound {v u : Value} {x y : PyData} (w : W X s) (hu : A.units + 70 < cLine) (ne : cmpop .isIn x y ≠ .stuck) : Rd s.heap v x → Rd s.heap u y → Sp X RelV S l s Q E (cmpop .isIn x y) →
    wpAny (model X.prog X.w) A (compareOp .In v u) Q E s := by
  refine in_el (P := fun x y => Rd s.heap v x → Rd s.heap u y → Sp X RelV S l s Q E (cmpop .isIn x y) → wpAny (model X.prog X.w) A (compareOp .In v u) Q E s) (.inl ne) (fun a b rx ry h => ?_) (fun a b rx ry h => ?_) fun a b rx ry h => ?_
  · obtain ⟨_, rfl⟩ := rx.strI; obtain ⟨_, rfl⟩ := ry.strI; exact in_str (by rw [occ_sub]; exact sp_bool w h)
  · obtain ⟨as, ra⟩ := rx.reads
    obtain ⟨bs, rb⟩ := ry.reads
    obtain ⟨_, _, _, _, rfl, _⟩ := ry.tupI
    rw [cmpop_11] at h
    cases e : memb (.int a) b with
    | none => rw [e] at h; exact h.elim
    | some c =>
      rw [e] at h
      obtain ⟨k1, k2, _⟩ := memb_sound (.inl ⟨_, rfl⟩) e
      refine SeqAt.in_tuple_reads rb ra k1 rfl ?_ (by rw [k2]; exact sp_bool w h)
      have : (PyData.int a).depth = 0 := rfl
      lia
  · obtain ⟨as, ra⟩ := rx.reads
    obtain ⟨bs, rb⟩ := ry.reads
    obtain ⟨_, _, _, _, rfl, _⟩ := ry.tupI
    rw [cmpop_13] at h
    cases e : memb (.tuple a) b with
    | none => rw [e] at h; exact h.elim
    | some c =>
      rw [e] at h
      obtain ⟨hne, h⟩ := when_ok h
      obtain ⟨k1, k2, k3⟩ := memb_sound (.inr ⟨_, rfl⟩) e
      have k3 := k3 (by rintro rfl; cases hne)
      refine SeqAt.in_tuple_reads rb ra k1 (SeqAt.canLay_of_shaped k3) ?_ (by rw [k2]; exact sp_bool w h)
      have := SeqAt.depth_of_shaped k3
      lia
theorem notIn_sound {v u : Value} {x y : PyData} (w : W X s) (hu : A.units + 70 < cLine) (ne : cmpop .notIn x y ≠ .stuck) : Rd s.heap v x → Rd s.heap u y → Sp X RelV S l s Q E (cmpop .notIn x y) →
    wpAny (model X.prog X.w) A (compareOp .NotIn v u) Q E s := by
  refine in_el (P := fun x y => Rd s.heap v x → Rd s.heap u y → Sp X RelV S l s Q E (cmpop .notIn x y) → wpAny (model X.prog X.w) A (compareOp .NotIn v u) Q E s) (.inr ne) (fun a b rx ry h => ?_) (fun a b rx ry h => ?_) fun a b rx ry h => ?_
  · obtain ⟨_, rfl⟩ := rx.strI; obtain ⟨_, rfl⟩ := ry.strI; exact notIn_str (by rw [occ_sub]; exact sp_bool w h)
  · obtain ⟨as, ra⟩ := rx.reads
    obtain ⟨bs, rb⟩ := ry.reads
    obtain ⟨_, _, _, _, rfl, _⟩ := ry.tupI
    rw [cmpop_12] at h
    cases e : memb (.int a) b with
    | none => rw [e] at h; exact h.elim
    | some c =>
      rw [e] at h
      obtain ⟨k1, k2, _⟩ := memb_sound (.inl ⟨_, rfl⟩) e
      refine SeqAt.notIn_tuple_reads rb ra k1 rfl ?_ (by rw [k2]; exact sp_bool w h)
      have : (PyData.int a).depth = 0 := rfl
      lia
  · obtain ⟨as, ra⟩ := rx.reads
    obtain ⟨bs, rb⟩ := ry.reads
    obtain ⟨_, _, _, _, rfl, _⟩ := ry.tupI
    rw [cmpop_14] at h
    cases e : memb (.tuple a) b with
    | none => rw [e] at h; exact h.elim
    | some c =>
      rw [e] at h
      obtain ⟨hne, h⟩ := when_ok h
      obtain ⟨k1, k2, k3⟩ := memb_sound (.inr ⟨_, rfl⟩) e
      have k3 := k3 (by rintro rfl; cases hne)
      refine SeqAt.notIn_tuple_reads rb ra k1 (SeqAt.canLay_of_shaped k3) ?_ (by rw [k2]; exact sp_bool w h)
      have := SeqAt.depth_of_shaped k3
      lia
theorem cmpop_sound {op : COp} {v u : Value} {x y : PyData} (w : W X s) (rx : Rd s.heap v x) (ry : Rd s.heap u y) (hu : A.units + 70 < cLine) (h : Sp X RelV S l s Q E (cmpop op x y)) :
    wpAny (model X.prog X.w) A (compareOp (cmpOf op) v u) Q E s := by
  cases op with
  | eq => exact eq_sound w rx ry hu h
  | ne => exact ne_sound w rx ry hu h
  | lt => exact lt_sound w hu h.ne rx ry h
  | gt => exact gt_sound w hu h.ne rx ry h
  | le =>
    revert rx ry h
    exact fun rx ry h => le_el (P := fun x y => Rd s.heap v x → Rd s.heap u y → Sp X RelV S l s Q E (cmpop .le x y) → wpAny (model X.prog X.w) A (compareOp .LtE v u) Q E s) h.ne (fun a b rx ry h => by
      obtain ⟨_, rfl⟩ := rx.intI; obtain ⟨_, rfl⟩ := ry.intI; exact PyProof.Rows.le_int (sp_bool w h)) rx ry h
  | ge =>
    exact ge_el (P := fun x y => Rd s.heap v x → Rd s.heap u y → Sp X RelV S l s Q E (cmpop .ge x y) → wpAny (model X.prog X.w) A (compareOp .GtE v u) Q E s) h.ne (fun a b rx ry h => by
      obtain ⟨_, rfl⟩ := rx.intI; obtain ⟨_, rfl⟩ := ry.intI; exact PyProof.Rows.ge_int (sp_bool w h)) rx ry h
  | isIn => exact in_sound w hu h.ne rx ry h
  | notIn => exact notIn_sound w hu h.ne rx ry h
end
end Mine

namespace Mine
open PySem PySem.Calls PySem.Spec PyProof.Rows

theorem idx_seq (i : Int) (n : Nat) : seqIndex? i n = idxAt i n := by
  unfold seqIndex? idxAt
  by_cases h : 0 ≤ i
  · simp only [show ¬ (i < 0) by first | assumption | exact Nat.le_add_left _ _ | decide | lia, if_false, if_pos h]
    by_cases h2 : i < n
    · simp [h, h2]
    · simp [h2]
  · simp only [show i < 0 by first | assumption | exact Nat.le_add_left _ _ | decide | lia, if_true, if_neg h]
    by_cases h2 : 0 ≤ i + n
    · have : i + n < n := by first | assumption | exact Nat.le_add_left _ _ | decide | lia
      simp [h2, this]
    · simp [h2]
theorem idxAt_bounds {i : Int} {n k : Nat} (h : idxAt i n = some k) : -(n : Int) ≤ i ∧ i < n ∧ k < n := by
  unfold idxAt at h
  split at h
  · split at h
    · cases h; lia
    · cases h
  · split at h
    · cases h; lia
    · cases h

noncomputable def noSlice : Expr → Bool
  | .Slice .. => false
  | _ => true
theorem subscripted_plain {e : Expr} (h : noSlice e = true) (o i : Value) : subscripted e false o i = operate [o, i] (getItem o i) := by
  cases e <;> first | rfl | cases h

noncomputable def ends (l u : Option Int) (n : Nat) : Nat × Nat := ((l.map (bound · n)).getD 0, (u.map (bound · n)).getD n)

theorem min_cast (a b : Nat) : ((min a b : Nat) : Int) = min (a : Int) (b : Int) := by
  rcases Nat.le_total a b with h | h
  · rw [Nat.min_eq_left h, Int.min_eq_left (Int.ofNat_le.mpr h)]
  · rw [Nat.min_eq_right h, Int.min_eq_right (Int.ofNat_le.mpr h)]
theorem clip_bound (i : Int) (n : Nat) : max 0 (min (if i < 0 then i + n else i) (n : Int)) = (bound i n : Int) := by
  unfold bound
  by_cases h : i < 0
  · rw [if_pos h, if_pos h, Int.min_eq_left (show i + (n : Int) ≤ n by lia), Int.max_comm, Int.ofNat_toNat]
  · have h' := Int.not_lt.mp h
    rw [if_neg h, if_neg h, Int.max_eq_right (Int.le_min.mpr ⟨h', Int.natCast_nonneg n⟩), min_cast, Int.toNat_of_nonneg h']
theorem clip_bound' (i : Int) (n : Nat) : (if i < 0 then max (i + n) 0 else min i n) = (bound i n : Int) := by
  unfold bound
  by_cases h : i < 0
  · rw [if_pos h, if_pos h, Int.ofNat_toNat]
  · rw [if_neg h, if_neg h, min_cast, Int.toNat_of_nonneg (Int.not_lt.mp h)]
theorem cut_drop {α : Type} (l : List α) (a b : Nat) (hab : a ≤ b) : (l.drop a).take (b - a) = cut l a b := by
  unfold cut
  rw [List.drop_take]
theorem cut_none {α : Type} (l : List α) (a b : Nat) (hab : ¬ a < b) : cut l a b = [] := by
  unfold cut
  rw [List.drop_of_length_le (by simp; lia)]

theorem ends_hi {l u : Option Int} {n : Nat} : (ends l u n).1 ≤ n ∧ (ends l u n).2 ≤ n := by
  have b : ∀ i, bound i n ≤ n := fun i => by unfold bound; split <;> lia
  unfold ends
  constructor
  · cases l <;> simp [b]
  · cases u <;> simp [b]

theorem slice_str_ok (x : Str) (l u : Option Int) : (Builtin.Str.strSliceIndices l u 1 x.length).filterMap (x.cps[·]?) = cut (sl x) (ends l u (sl x).length).1 (ends l u (sl x).length).2 := by
  rw [sl_length]
  have e : Builtin.Str.strSliceIndices l u 1 x.length = Builtin.Str.strSliceIndices (some ((ends l u x.length).1 : Int)) (some ((ends l u x.length).2 : Int)) 1 x.length := by
    obtain ⟨h1, h2⟩ := @ends_hi l u x.length
    have self : ∀ k : Nat, k ≤ x.length → max 0 (min (if (k : Int) < 0 then (k : Int) + x.length else (k : Int)) (x.length : Int)) = (k : Int) := by
      intro k hk; rw [if_neg (by first | assumption | exact Nat.le_add_left _ _ | decide | lia)]; lia
    unfold Builtin.Str.strSliceIndices
    dsimp only [show ((1 : Int) > 0) = True from by simp, if_true]
    congr 1
    · refine Eq.trans ?_ (self _ h1).symm
      cases l with
      | none => rfl
      | some i => exact clip_bound i x.length
    · refine Eq.trans ?_ (self _ h2).symm
      cases u with
      | none => rfl
      | some i => exact clip_bound i x.length
  rw [e]
  obtain ⟨h1, h2⟩ := @ends_hi l u x.length
  by_cases h : (ends l u x.length).1 ≤ (ends l u x.length).2
  · rw [StrLaws.sliced_plain x h h2, cut_drop _ _ _ h]
  · rw [cut_none _ _ _ (by first | assumption | exact Nat.le_add_left _ _ | decide | lia)]
    have self : ∀ k : Nat, k ≤ x.length → max 0 (min (if (k : Int) < 0 then (k : Int) + x.length else (k : Int)) (x.length : Int)) = (k : Int) := by
      intro k hk; rw [if_neg (by first | assumption | exact Nat.le_add_left _ _ | decide | lia)]; lia
    generalize (ends l u x.length).1 = a at h1 h
    generalize (ends l u x.length).2 = b at h2 h
    unfold Builtin.Str.strSliceIndices sliceRange
    simp only [show ((1 : Int) > 0) = True from by simp, if_true]
    rw [self a h1, self b h2, if_neg (by first | assumption | exact Nat.le_add_left _ _ | decide | lia)]
    rfl

section
variable {X : Cfg} {A : Around} {E : Value → Shared → Prop} {s : Shared} {S : List Addr} {l : List Env} {Q : Value → Shared → Prop}

theorem index_sound {value slice : Expr} {v u : Value} {x y : PyData} (w : W X s) (rx : Rd s.heap v x) (ry : Rd s.heap u y) (hs : noSlice slice = true) (h : Sp X RelV S l s Q E (index x y)) :
    wpAny (model X.prog X.w) A (subscriptTail value slice v u) Q E s := by
  cases ry with
  | int i t =>
    cases rx with
    | tuple ho hc hd z ra =>
      rename_i vs n xs
      rw [index_1] at h
      cases e : idxAt i xs.length with
      | none => rw [e] at h; exact h.elim
      | some k =>
        rw [e, R.ofOpt_some, R.bind_ok] at h
        cases e2 : xs[k]? with
        | none => rw [e2] at h; exact h.elim
        | some d =>
          rw [e2] at h
          have hl := ra.length
          rw [Array.length_toList] at hl
          obtain ⟨b1, b2, b3⟩ := idxAt_bounds e
          obtain ⟨xv, q1, q2⟩ := ra.get k d e2
          have ht : IsTup s.heap _ vs := ⟨_, ho, hc, _, hd⟩
          refine tail_any ht.typeIs PyProof.Rows.slot_tuple_getitem.lookup (getItem_tuple ht (by first | assumption | exact Nat.le_add_left _ _ | decide | lia) (by first | assumption | exact Nat.le_add_left _ _ | decide | lia) (j := k) (by rw [hl, idx_seq]; exact e) (x := xv) (by simpa using q1) ?_) (subscripted_plain hs _ _)
          exact h _ _ (Ok.refl w) q2
    | list ho hc hd z ra =>
      rename_i vs n xs
      rw [index_2] at h
      by_cases h0 : 0 ≤ i
      · rw [decide_eq_true h0, cond_true] at h
        cases e : idxAt i xs.length with
        | none => rw [e] at h; exact h.elim
        | some k =>
          rw [e, R.ofOpt_some, R.bind_ok] at h
          cases e2 : xs[k]? with
          | none => rw [e2] at h; exact h.elim
          | some d =>
            rw [e2] at h
            have hl := ra.length
            rw [Array.length_toList] at hl
            obtain ⟨b1, b2, b3⟩ := idxAt_bounds e
            obtain ⟨xv, q1, q2⟩ := ra.get k d e2
            have hk : k = i.toNat := by
              unfold idxAt at e
              rw [if_pos h0, if_pos b2] at e
              exact (Option.some.inj e).symm
            subst hk
            have ht : s.heap.IsList _ vs := ⟨_, ho, hc, _, hd⟩
            refine tail_any ht.typeIs PySem.F.slot_list_getitem.lookup (wpAny_getItem_list ht h0 (by first | assumption | exact Nat.le_add_left _ _ | decide | lia) (by simpa using q1) ?_) (subscripted_plain hs _ _)
            exact h _ _ (Ok.refl w) q2
      · rw [decide_eq_false h0, cond_false] at h; exact h.elim
    | str x t' z =>
      rw [index_3] at h
      cases e : idxAt i (sl x).length with
      | none => rw [e] at h; exact h.elim
      | some k =>
        rw [e, R.ofOpt_some, R.bind_ok] at h
        cases e2 : (sl x)[k]? with
        | none => rw [e2] at h; exact h.elim
        | some c =>
          rw [e2, R.ofOpt_some, R.bind_ok] at h
          obtain ⟨b1, b2, b3⟩ := idxAt_bounds e
          rw [sl_length] at e b1 b2 b3
          unfold limit at z
          refine tail_any (typeIs_str s x t') PyProof.Rows.slot_str_getitem.lookup (PyProof.Rows.getItem_str (c := c) (by simp; lia) ?_ (sp_str w (Nat.le_succ _) (by show (#[c] : Array Nat).size ≤ limit; unfold limit; simp) h)) (subscripted_plain hs _ _)
          rw [idx_seq, e, Option.bind_some]
          simpa [sl] using e2
    | _ => exact h.elim
  | _ => cases rx <;> exact h.elim

theorem part_sound {v : Value} {p : Option Int} {Q : Option Int → Shared → Prop} (hp : IsPart v p) (h : Q p s) : wpAny (model X.prog X.w) A (Builtin.Slice.slicePartIndex v) Q E s := by
  cases hp with
  | none => exact slicePart_none h
  | int i u => exact slicePart_int h

theorem adjust_ends (lo hi : Option Int) (n : Nat) : Builtin.Slice.sliceAdjust lo hi 1 (n : Int) = (((ends lo hi n).1 : Int), ((ends lo hi n).2 : Int)) := by
  have one : ∀ (p : Option Int) (d : Nat), (p.elim (d : Int) fun i => if i < 0 then max (i + n) 0 else min i n) = (((p.map (bound · n)).getD d : Nat) : Int) := fun p d => by
    cases p with
    | none => rfl
    | some i => exact clip_bound' i n
  refine Prod.ext ?_ ?_
  · cases lo with
    | none => rfl
    | some i => exact one (some i) 0
  · cases hi with
    | none => rfl
    | some i => exact one (some i) n
theorem places_nat (a b : Nat) : Builtin.Slice.slicePlaces (a : Int) (b : Int) 1 = b - a := by
  show (if (a : Int) < b then ((b : Int) - a - 1) / 1 + 1 else 0).toNat = b - a
  rw [Int.ediv_one]
  by_cases h : (a : Int) < b
  · rw [if_pos h]; lia
  · rw [if_neg h]; lia
theorem applied_sound {a : Addr} {vl vu : Value} {lo hi : Option Int} {n : Nat} {Q : Int × Int × Nat → Shared → Prop} (hs : s.heap.IsSliceOf a vl vu .none) (hl : IsPart vl lo) (hu : IsPart vu hi)
    (h : Q (((ends lo hi n).1 : Int), 1, (ends lo hi n).2 - (ends lo hi n).1) s) : wpAny (model X.prog X.w) A (Builtin.Slice.sliceApplied (.ref a) (pure (n : Int))) Q E s := by
  have three : ∀ {R : Value × Value × Value → Shared → Prop}, R (vl, vu, .none) s → wpAny (model X.prog X.w) A (Builtin.Slice.sliceFields (.ref a)) R E s := fun r => by
    obtain ⟨_, g, _, d⟩ := hs
    exact wpAny_bind (wpAny_field g d rfl (wpAny_bind (wpAny_field g d rfl (wpAny_bind (wpAny_field g d rfl (wpAny_pure r))))))
  have fin : wpAny (model X.prog X.w) A (pure (((Builtin.Slice.sliceAdjust lo hi 1 (n : Int)).1, (1 : Int), Builtin.Slice.slicePlaces (Builtin.Slice.sliceAdjust lo hi 1 (n : Int)).1 (Builtin.Slice.sliceAdjust lo hi 1 (n : Int)).2 1) : Int × Int × Nat)) Q E s := by
    rw [adjust_ends, places_nat]; exact wpAny_pure h
  exact wpAny_bind (three (wpAny_bind (part_sound .none (wpAny_bind (m := Builtin.Slice.slicePartIndex vl) (part_sound hl (wpAny_bind (part_sound hu (wpAny_bind (wpAny_pure fin)))))))))

theorem range_pick {α : Type} (l : List α) (a : Nat) : ∀ k : Nat, (List.range k).filterMap (fun j => l[a + j]?) = (l.drop a).take k
  | 0 => rfl
  | k + 1 => by
    rw [List.range_succ, List.filterMap_append, range_pick l a k, List.take_add_one, List.getElem?_drop]
    cases h : l[a + k]? <;> simp [h]
theorem pick_cut (xs : Array Value) (a b : Nat) : ((List.range (b - a)).filterMap fun (k : Nat) => xs[((a : Int) + (k : Int) * 1).toNat]?).toArray = (cut xs.toList a b).toArray := by
  have same : (fun (k : Nat) => xs[((a : Int) + (k : Int) * 1).toNat]?) = fun k => xs.toList[a + k]? := funext fun k => by
    rw [Int.mul_one, ← Int.natCast_add, Int.toNat_natCast, Array.getElem?_toList]
  unfold cut
  rw [same, range_pick, List.drop_take]

theorem cut_le {α : Type} (l : List α) (a b : Nat) : (cut l a b).length ≤ l.length := by
  unfold cut; rw [List.length_drop, List.length_take]; lia

theorem tuple_slice_sound {t a : Addr} {o : Obj} {vs : Array Value} {n : Nat} {xs : List PyData} {vl vu : Value} {lo hi : Option Int} (w : W X s) (ho : s.heap.get? t = some o) (hc : o.cls = .type "tuple") (hd : o.data = .seq vs n) (z : vs.size ≤ 1048576) (ra : RdAll s.heap vs.toList xs)
    (hs : s.heap.IsSliceOf a vl vu .none) (hl : IsPart vl lo) (hu : IsPart vu hi) (h : Sp X RelV S l s Q E (.ok (.tuple (cut xs (ends lo hi xs.length).1 (ends lo hi xs.length).2)))) :
    wpAny (model X.prog X.w) A (getItem (.ref t) (.ref a)) Q E s := by
  have ht : IsTup s.heap t vs := ⟨_, ho, hc, _, hd⟩
  have hlen := ra.length
  rw [Array.length_toList] at hlen
  rw [← hlen] at h
  have rc : RdAll s.heap (cut vs.toList (ends lo hi vs.size).1 (ends lo hi vs.size).2) (cut xs (ends lo hi vs.size).1 (ends lo hi vs.size).2) := (ra.take _).drop _
  have hcl : (cut vs.toList (ends lo hi vs.size).1 (ends lo hi vs.size).2).length ≤ vs.size := Nat.le_trans (cut_le vs.toList (ends lo hi vs.size).1 (ends lo hi vs.size).2) (Nat.le_of_eq Array.length_toList)
  have zz := sizeLine_eq
  have hdrop : sizeOk (.seq (cut vs.toList (ends lo hi vs.size).1 (ends lo hi vs.size).2).toArray) := by
    show (cut vs.toList (ends lo hi vs.size).1 (ends lo hi vs.size).2).toArray.size ≤ sizeLine
    rw [List.size_toArray]; lia
  refine wpAny_holding (wpAny_bind (wpAny_sequenceKey ht.typeIs (by decide) (wpAny_bind (wpAny_callSpecial?_slot ht.typeIs PyProof.Rows.slot_tuple_getitem (wpAny_call_entry PyProof.Rows.slot_tuple_getitem ht.typeIs PyProof.Rows.entry_tuple_getitem ?_ (PyProof.Rows.args_tuple_getitem _ _))))))
  refine wpAny_bind (m := Builtin.Tuple.tupleItemsOf (.ref t)) (tupleItemsOf_ ht (wpAny_bind (wpAny_typeOf (T := "slice") (hs.imp fun _ r => ⟨r.1, r.2.1⟩) ?_)))
  rw [if_pos (by decide)]
  refine wpAny_bind (applied_sound hs hl hu ?_)
  obtain ⟨he1, he2⟩ := @ends_hi lo hi vs.size
  have hnew := tuple_new w (vs := cut vs.toList (ends lo hi vs.size).1 (ends lo hi vs.size).2) (by first | assumption | exact Nat.le_add_left _ _ | decide | lia) rc h
  show wpAny _ _ (if (((ends lo hi vs.size).1 : Int) == 0 && (1 : Int) == 1 && ((ends lo hi vs.size).2 - (ends lo hi vs.size).1) == vs.size) = true then _ else _) _ _ s
  have last : wpAny (model X.prog X.w) A.in1 (do
      let r ← Builtin.Tuple.tupleExact ((List.range ((ends lo hi vs.size).2 - (ends lo hi vs.size).1)).filterMap fun (k : Nat) => vs[(((ends lo hi vs.size).1 : Int) + (k : Int) * 1).toNat]?).toArray
      ret r) (fun fin s' => ∃ v, fin = Fin.done (Flow.ret v) ∧ wpAny (model X.prog X.w) A (pure v) Q E s') E s := by
    rw [pick_cut vs]
    exact wpAny_bind (m := Builtin.Tuple.tupleExact _) (wpAny_newObj_type (wpAny_pure ⟨_, rfl, wpAny_pure hnew⟩) hdrop)
  by_cases hcond : (((ends lo hi vs.size).1 : Int) == 0 && (1 : Int) == 1 && ((ends lo hi vs.size).2 - (ends lo hi vs.size).1) == vs.size) = true
  · rw [if_pos hcond]
    simp only [Bool.and_eq_true, beq_iff_eq] at hcond
    have c1 : (ends lo hi vs.size).1 = 0 := by first | assumption | exact Nat.le_add_left _ _ | decide | lia
    have c2 : (ends lo hi vs.size).2 = vs.size := by first | assumption | exact Nat.le_add_left _ _ | decide | lia
    rw [c1, c2] at h
    have ec : cut xs 0 vs.size = xs := by unfold cut; rw [List.drop_zero, List.take_of_length_le (by first | assumption | exact Nat.le_add_left _ _ | decide | lia)]
    rw [ec] at h
    refine wpAny_bind (m := Builtin.Tuple.tupleIsExact _) ?_
    unfold Builtin.Tuple.tupleIsExact
    refine wpAny_bind (wpAny_typeOf ht.typeIs (wpAny_pure ?_))
    rw [if_pos (by decide)]
    first
      | exact wpAny_bind (wpAny_rule (wpAny_pure ⟨_, rfl, wpAny_pure (h _ _ (Ok.refl w) (.tuple ho hc hd z ra))⟩))
      | exact wpAny_bind (wpAny_rule (wpAny_bind (wpAny_pure (wpAny_pure ⟨_, rfl, wpAny_pure (h _ _ (Ok.refl w) (.tuple ho hc hd z ra))⟩))))
  · rw [if_neg hcond]
    exact last
end
end Mine

namespace Mine
open PySem PySem.Calls PySem.Spec PyProof.Rows

section
variable {X : Cfg} {A : Around} {E : Value → Shared → Prop} {s : Shared} {S : List Addr} {l : List Env} {Q : Value → Shared → Prop}

theorem part_value {v : Value} {p : Option Int} (h : IsPart v p) : ∃ q : Option (Int × Tok), v = partValue q ∧ q.map (·.1) = p := by
  cases h with
  | none => exact ⟨none, rfl, rfl⟩
  | int i t => exact ⟨some (i, t), rfl, rfl⟩

theorem sliceIdx_length (l u : Option Int) (n : Nat) : (Builtin.Str.strSliceIndices l u 1 n).length = (ends l u n).2 - (ends l u n).1 := by
  have key : ∀ a b : Nat, (sliceRange (a : Int) (b : Int) 1).length = b - a := by
    intro a b
    unfold sliceRange
    simp only [show ((1 : Int) > 0) = True from by simp, if_true, Int.ediv_one, List.length_map, List.length_range]
    split <;> lia
  rw [← key]
  unfold Builtin.Str.strSliceIndices ends
  dsimp only [show ((1 : Int) > 0) = True from by simp, if_true]
  congr 2
  · cases l with
    | none => rfl
    | some i => exact clip_bound i n
  · cases u with
    | none => rfl
    | some i => exact clip_bound i n

theorem slice_sound {value : Expr} {lower upper : Option Expr} {p : Pos} {v : Value} {x : PyData} {a : Addr} {vl vu : Value} {lo hi : Option Int} (w : W X s) (rx : Rd s.heap v x)
    (hs : s.heap.IsSliceOf a vl vu .none) (hl : IsPart vl lo) (hu : IsPart vu hi) (h : Sp X RelV S l s Q E (sliceBy x (ends lo hi))) :
    wpAny (model X.prog X.w) A (subscriptTail value (.Slice lower upper none p) v (.ref a)) Q E s := by
  cases rx with
  | str x t z =>
    obtain ⟨ql, rfl, rfl⟩ := part_value hl
    obtain ⟨qu, rfl, rfl⟩ := part_value hu
    have hs' : s.heap.IsSlice a ql qu none := hs
    refine tail_any (typeIs_str s x t) PyProof.Rows.slot_str_getitem.lookup (wpAny_getItem_str_slice hs' (by decide) ?_) rfl
    rw [sliceBy_1, ← slice_str_ok] at h
    have hlen : ((Builtin.Str.strSliceIndices (ql.map (·.1)) (qu.map (·.1)) 1 x.length).filterMap (x.cps[·]?)).length ≤ x.length := by
      rw [slice_str_ok, ← sl_length]; exact cut_le _ _ _
    unfold sliceMade
    split
    · rename_i hc
      simp only [Bool.and_eq_true, beq_iff_eq] at hc
      -- the whole text
      have e : (Builtin.Str.strSliceIndices (ql.map (·.1)) (qu.map (·.1)) 1 x.length).filterMap (x.cps[·]?) = sl x := by
        have hc2 : (Builtin.Str.strSliceIndices (ql.map (·.1)) (qu.map (·.1)) 1 x.length).length = x.length := hc.2
        have := slice_str_ok x (ql.map (·.1)) (qu.map (·.1))
        have lens := sliceIdx_length (ql.map (·.1)) (qu.map (·.1)) x.length
        obtain ⟨h1, h2⟩ := @ends_hi (ql.map (·.1)) (qu.map (·.1)) x.length
        rw [this, sl_length]
        have c1 : (ends (ql.map (·.1)) (qu.map (·.1)) x.length).1 = 0 := by first | assumption | exact Nat.le_add_left _ _ | decide | lia
        have c2 : (ends (ql.map (·.1)) (qu.map (·.1)) x.length).2 = x.length := by first | assumption | exact Nat.le_add_left _ _ | decide | lia
        rw [c1, c2]
        unfold cut
        rw [List.drop_zero, List.take_of_length_le (by rw [sl_length]; exact Nat.le_refl _)]
      rw [e] at h
      exact h _ _ (Ok.refl w) (.str x t z)
    · refine ⟨?_, sp_str w (Nat.le_succ _) ?_ h⟩
      · show (List.toArray _).size ≤ sizeLine
        rw [sizeLine_limit, List.size_toArray]; exact Nat.le_trans hlen z
      · show (List.toArray _).size ≤ limit
        rw [List.size_toArray]; exact Nat.le_trans hlen z
  | tuple ho hc hd z ra =>
    rename_i t o vs n xs
    have ht : IsTup s.heap t vs := ⟨_, ho, hc, _, hd⟩
    exact tail_any ht.typeIs PyProof.Rows.slot_tuple_getitem.lookup (tuple_slice_sound w ho hc hd z ra hs hl hu h) rfl
  | _ => exact h.elim

noncomputable def nameOf1 : B1 → Value
  | .len => .builtin "len"
  | .str => .type "str"
  | .int => .type "int"
  | .abs => .builtin "abs"
  | .ord => .builtin "ord"

theorem itoa_len_nat : ∀ (k n : Nat), n < 10 ^ (k + 1) → (itoa (n : Int)).length ≤ k + 1
  | 0, n, h => by rw [itoa_lt (by first | assumption | exact Nat.le_add_left _ _ | decide | lia)]; simp
  | k + 1, n, h => by
    by_cases q : n < 10
    · rw [itoa_lt q]; simp
    · rw [itoa_ge (by first | assumption | exact Nat.le_add_left _ _ | decide | lia)]
      have := itoa_len_nat k (n / 10) (by rw [Nat.pow_succ] at h; lia)
      rw [List.length_append, List.length_singleton]; lia
theorem itoa_fits {i : Int} (h : i.natAbs < 4611686018427387904) : (itoa i).length ≤ limit := by
  unfold limit
  match i, h with
  | .ofNat n, h =>
    have := itoa_len_nat 20 n (by have : (Int.ofNat n).natAbs = n := rfl; lia)
    exact Nat.le_trans this (by decide)
  | .negSucc n, h =>
    rw [itoa_neg]
    have := itoa_len_nat 20 (n + 1) (by have : (Int.negSucc n).natAbs = n + 1 := rfl; lia)
    rw [List.length_cons]; lia

theorem app1_sound {f : B1} {v : Value} {x : PyData} (w : W X s) (rx : Rd s.heap v x) (h : Sp X RelV S l s Q E (app1 f x)) :
    wpAny (model X.prog X.w) A (call (nameOf1 f) [v]) Q E s := by
  cases rx with
  | int i t =>
    cases f with
    | str =>
      obtain ⟨c, h⟩ := when_ok h
      refine wpAny_tk (PySem.P.str_of_int ?_ (fun hk => ?_))
      · unfold smallI at c
        simp only [Bool.and_eq_true, decide_eq_true_eq] at c
        by_cases h0 : i.natAbs = 0
        · rw [h0]; decide
        · have : i.natAbs.log2 < 62 := (Nat.log2_lt h0).mpr (by first | assumption | exact Nat.le_add_left _ _ | decide | lia)
          lia
      · refine sp_str w hk ?_ h
        unfold smallI at c
        simp only [Bool.and_eq_true, decide_eq_true_eq] at c
        have e : sl (Str.ofString (toString i)) = itoa i := rfl
        show (Str.ofString (toString i)).length ≤ limit
        rw [← sl_length, e]
        exact itoa_fits (by first | assumption | exact Nat.le_add_left _ _ | decide | lia)
    | abs => exact wpAny_tk (call_abs_int fun u tk hk => sp_int w hk h)
    | _ => exact h.elim
  | str x t z =>
    cases f with
    | len =>
      rw [app1_1, sl_length] at h
      unfold limit at z
      exact PyProof.Rows.len_str (by first | assumption | exact Nat.le_add_left _ _ | decide | lia) (sp_int w (by first | assumption | exact Nat.le_add_left _ _ | decide | lia) h)
    | ord =>
      obtain ⟨⟨cs⟩⟩ := x
      match cs, z, h with
      | [c], z, h => exact PySem.P.ord_of_char (sp_int w (Nat.le_succ _) h)
      | [], _, h => exact h.elim
      | _ :: _ :: _, _, h => exact h.elim
    | _ => exact h.elim
  | list ho hc hd z ra =>
    cases f with
    | len =>
      have := ra.length
      rw [Array.length_toList] at this
      rw [app1_3, ← this] at h
      exact PyProof.Rows.len_list ⟨_, ho, hc, _, hd⟩ (by first | assumption | exact Nat.le_add_left _ _ | decide | lia) (sp_int w (by first | assumption | exact Nat.le_add_left _ _ | decide | lia) h)
    | _ => exact h.elim
  | tuple ho hc hd z ra =>
    cases f with
    | len =>
      have := ra.length
      rw [Array.length_toList] at this
      rw [app1_2, ← this] at h
      exact PyProof.Rows.len_tuple ⟨_, ho, hc, _, hd⟩ (by first | assumption | exact Nat.le_add_left _ _ | decide | lia) (sp_int w (by first | assumption | exact Nat.le_add_left _ _ | decide | lia) h)
    | _ => exact h.elim
  | _ => cases f <;> exact h.elim

noncomputable def nameOf2 : B2 → Value
  | .min => .builtin "min"
  | .max => .builtin "max"
theorem app2_sound {f : B2} {v u : Value} {x y : PyData} (w : W X s) (hh : A.handled = none) (rx : Rd s.heap v x) (ry : Rd s.heap u y) (h : Sp X RelV S l s Q E (app2 f x y)) :
    wpAny (model X.prog X.w) A (call (nameOf2 f) [v, u]) Q E s := by
  cases rx with
  | int a t =>
    cases ry with
    | int b t' =>
      cases f with
      | min =>
        refine wpAny_tk (min_two_ints hh fun h' tk hk htk => ?_)
        have := h (if b < a then .int b t' else .int a t) _ (Ok.keeps w htk hk)
        split <;> rename_i q <;> simp only [q, if_true, if_false] at this <;> exact this (by constructor)
      | max =>
        refine wpAny_tk (max_two_ints hh fun h' tk hk htk => ?_)
        have := h (if b > a then .int b t' else .int a t) _ (Ok.keeps w htk hk)
        split <;> rename_i q <;> simp only [q, if_true, if_false, gt_iff_lt] at this <;> exact this (by constructor)
    | _ => cases f <;> exact h.elim
  | _ => cases f <;> exact h.elim

noncomputable def tyName : Ty → String
  | .int => "int" | .str => "str" | .tuple => "tuple" | .bool => "bool"
noncomputable def tyOfD : PyData → String
  | .none => "NoneType" | .bool _ => "bool" | .int _ => "int" | .str _ => "str" | .list _ => "list" | .tuple _ => "tuple" | _ => "dict"
theorem typeCall_sound {v : Value} {x : PyData} (rx : Rd s.heap v x) (h : Q (.type (tyOfD x)) s) : wpAny (model X.prog X.w) A (call (.type "type") [v]) Q E s := by
  cases rx with
  | none => exact call_type_of (Tx := "NoneType") rfl (by decide +kernel) h
  | bool b => exact call_type_of (Tx := "bool") rfl (by decide +kernel) h
  | int i t => exact call_type_of (Tx := "int") rfl (by decide +kernel) h
  | str x t z => exact call_type_of (Tx := "str") rfl (by decide +kernel) h
  | list ho hc hd z ra => exact call_type_of (Tx := "list") ⟨_, ho, hc⟩ (by decide +kernel) h
  | tuple ho hc hd z ra => exact call_type_of (Tx := "tuple") ⟨_, ho, hc⟩ (by decide +kernel) h
theorem typeIs_sound {x : PyData} {t : Ty} {v : Value} (rx : Rd s.heap v x) (h : Q (.bool (typeIs x t)) s) : wpAny (model X.prog X.w) A (compareOp .Is (.type (tyOfD x)) (.type (tyName t))) Q E s := by
  cases rx <;> cases t <;> first
    | exact wpAny_is_self (by rfl) h
    | exact wpAny_is_other (by rfl) (fun q => by simp [tyOfD, tyName] at q) h
end
end Mine

namespace Mine
open PySem PySem.Calls PySem.Spec PyProof.Rows PySem.Builtin.Str

section
variable {X : Cfg} {A : Around} {E : Value → Shared → Prop} {s : Shared} {S : List Addr} {l : List Env} {Q : Value → Shared → Prop}

theorem contains_sl (c : Str) (n : Nat) : c.cps.contains n = (sl c).contains n := by
  unfold sl
  rw [Array.contains_toList]

theorem takeDrop (p : Nat → Bool) : ∀ x : List Nat, (x.takeWhile p).length + (x.dropWhile p).length = x.length
  | [] => rfl
  | a :: r => by
    have := takeDrop p r
    simp only [List.takeWhile, List.dropWhile]
    cases p a <;> simp <;> lia
theorem dropWhile_drop (p : Nat → Bool) : ∀ x : List Nat, x.dropWhile p = x.drop (x.takeWhile p).length
  | [] => rfl
  | a :: r => by
    have := dropWhile_drop p r
    simp only [List.takeWhile, List.dropWhile]
    cases p a <;> (first | rfl | simp [this])

theorem rstrip_text (x c : Str) : Txt.rstripChars x c = ⟨(rstripL (sl c) (sl x)).toArray⟩ := by
  have e : (fun n => c.cps.contains n) = fun n => (sl c).contains n := by funext n; exact contains_sl c n
  have e2 : Txt.rstripChars x c = Txt.stripBy (fun n => c.cps.contains n) false true x := rfl
  rw [e2, e]
  have main : strSub x 0 (x.length - ((sl x).reverse.takeWhile fun n => (sl c).contains n).length) = ⟨(rstripL (sl c) (sl x)).toArray⟩ := by
    unfold strSub rstripL
    congr 1
    apply Array.toList_inj.mp
    rw [dropWhile_drop, List.drop_reverse, List.reverse_reverse, sl_length]
    simp [sl]
  unfold Txt.stripBy
  split
  · rename_i h
    simp only [stripSame, stripLo, stripHi, Bool.and_eq_true, beq_iff_eq, Bool.false_eq_true, if_false, if_true, List.drop_zero] at h
    rw [← main]
    have h2 : x.length - ((sl x).reverse.takeWhile fun n => (sl c).contains n).length = x.length := h.2
    rw [h2]
    unfold strSub
    have : x.cps.extract 0 x.length = x.cps := by
      apply Array.toList_inj.mp
      simp [Str.length]
    rw [this]
  · rw [← main]
    simp only [stripped, stripLo, stripHi, Bool.false_eq_true, if_false, if_true, List.drop_zero]

theorem rstripL_le (cs x : List Nat) : (rstripL cs x).length ≤ x.length := by
  unfold rstripL
  rw [List.length_reverse]
  have := takeDrop (fun c => cs.contains c) x.reverse
  rw [List.length_reverse] at this
  lia

theorem rstrip_sound {v u : Value} {x y : PyData} (w : W X s) (rx : Rd s.heap v x) (ry : Rd s.heap u y) (h : Sp X RelV S l s Q E (rstripD x y)) :
    wpAny (model X.prog X.w) A (call (.builtin "str.rstrip") [v, u]) Q E s := by
  cases rx with
  | str x t z =>
    cases ry with
    | str y t' z' =>
      refine wpAny_tk (SC.rstripChars (fun t' k hk => ?_) (by rw [sizeLine_limit]; exact z))
      rw [rstrip_text]
      refine sp_str w hk ?_ h
      show (rstripL (sl y) (sl x)).toArray.size ≤ limit
      rw [List.size_toArray]
      exact Nat.le_trans (rstripL_le _ _) (by rw [sl_length]; exact z)
    | _ => exact h.elim
  | _ => cases ry <;> exact h.elim

end
end Mine

namespace Mine
open PySem
noncomputable def pick (i n : Nat) (k : i = n → Bool) : Bool := if h : i = n then k h else false
theorem pick_inv {i n : Nat} {k : i = n → Bool} (h : pick i n k = true) : i = n := by
  unfold pick at h
  by_cases q : i = n
  · exact q
  · rw [dif_neg q] at h; cases h

noncomputable def onName (k : Str → Bool) (e : Expr) : Bool := pick e.ctorIdx 23 fun q => Expr.Name.elim (motive_1 := fun _ => Bool) e q fun x _ => k x
theorem onName_inv {k : Str → Bool} {e : Expr} (h : onName k e = true) : ∃ x p, e = .Name x p ∧ k x = true :=
  Expr.Name.elim (motive_1 := fun e => onName k e = true → ∃ x p, e = .Name x p ∧ k x = true) e (pick_inv h) (fun x p h => ⟨x, p, rfl, h⟩) h

noncomputable def onConst (k : Const → Bool) (e : Expr) : Bool := pick e.ctorIdx 19 fun q => Expr.Constant.elim (motive_1 := fun _ => Bool) e q fun x _ _ => k x
theorem onConst_inv {k : Const → Bool} {e : Expr} (h : onConst k e = true) : ∃ x n p, e = .Constant x n p ∧ k x = true :=
  Expr.Constant.elim (motive_1 := fun e => onConst k e = true → ∃ x n p, e = .Constant x n p ∧ k x = true) e (pick_inv h) (fun x n p h => ⟨x, n, p, rfl, h⟩) h

noncomputable def onBin (k : Expr → Operator → Expr → Bool) (e : Expr) : Bool := pick e.ctorIdx 2 fun q => Expr.BinOp.elim (motive_1 := fun _ => Bool) e q fun x o y _ => k x o y
theorem onBin_inv {k : Expr → Operator → Expr → Bool} {e : Expr} (h : onBin k e = true) : ∃ x o y p, e = .BinOp x o y p ∧ k x o y = true :=
  Expr.BinOp.elim (motive_1 := fun e => onBin k e = true → ∃ x o y p, e = .BinOp x o y p ∧ k x o y = true) e (pick_inv h) (fun x o y p h => ⟨x, o, y, p, rfl, h⟩) h

noncomputable def onUn (k : UnaryOp → Expr → Bool) (e : Expr) : Bool := pick e.ctorIdx 3 fun q => Expr.UnaryOp.elim (motive_1 := fun _ => Bool) e q fun o x _ => k o x
theorem onUn_inv {k : UnaryOp → Expr → Bool} {e : Expr} (h : onUn k e = true) : ∃ o x p, e = .UnaryOp o x p ∧ k o x = true :=
  Expr.UnaryOp.elim (motive_1 := fun e => onUn k e = true → ∃ o x p, e = .UnaryOp o x p ∧ k o x = true) e (pick_inv h) (fun o x p h => ⟨o, x, p, rfl, h⟩) h

noncomputable def onBoolOp (k : BoolOp → List Expr → Pos → Bool) (e : Expr) : Bool := pick e.ctorIdx 0 fun q => Expr.BoolOp.elim (motive_1 := fun _ => Bool) e q fun o xs p => k o xs p
theorem onBoolOp_inv {k : BoolOp → List Expr → Pos → Bool} {e : Expr} (h : onBoolOp k e = true) : ∃ o xs p, e = .BoolOp o xs p ∧ k o xs p = true :=
  Expr.BoolOp.elim (motive_1 := fun e => onBoolOp k e = true → ∃ o xs p, e = .BoolOp o xs p ∧ k o xs p = true) e (pick_inv h) (fun o xs p h => ⟨o, xs, p, rfl, h⟩) h

noncomputable def onIfE (k : Expr → Expr → Expr → Bool) (e : Expr) : Bool := pick e.ctorIdx 5 fun q => Expr.IfExp.elim (motive_1 := fun _ => Bool) e q fun x y z _ => k x y z
theorem onIfE_inv {k : Expr → Expr → Expr → Bool} {e : Expr} (h : onIfE k e = true) : ∃ x y z p, e = .IfExp x y z p ∧ k x y z = true :=
  Expr.IfExp.elim (motive_1 := fun e => onIfE k e = true → ∃ x y z p, e = .IfExp x y z p ∧ k x y z = true) e (pick_inv h) (fun x y z p h => ⟨x, y, z, p, rfl, h⟩) h

noncomputable def onTup (k : List Expr → Nat → Pos → Bool) (e : Expr) : Bool := pick e.ctorIdx 25 fun q => Expr.Tuple.elim (motive_1 := fun _ => Bool) e q fun xs n p => k xs n p
theorem onTup_inv {k : List Expr → Nat → Pos → Bool} {e : Expr} (h : onTup k e = true) : ∃ xs n p, e = .Tuple xs n p ∧ k xs n p = true :=
  Expr.Tuple.elim (motive_1 := fun e => onTup k e = true → ∃ xs n p, e = .Tuple xs n p ∧ k xs n p = true) e (pick_inv h) (fun xs n p h => ⟨xs, n, p, rfl, h⟩) h

noncomputable def onList (k : List Expr → Bool) (e : Expr) : Bool := pick e.ctorIdx 24 fun q => Expr.List.elim (motive_1 := fun _ => Bool) e q fun xs _ => k xs
theorem onList_inv {k : List Expr → Bool} {e : Expr} (h : onList k e = true) : ∃ xs p, e = .List xs p ∧ k xs = true :=
  Expr.List.elim (motive_1 := fun e => onList k e = true → ∃ xs p, e = .List xs p ∧ k xs = true) e (pick_inv h) (fun xs p h => ⟨xs, p, rfl, h⟩) h

noncomputable def onCmp (k : Expr → List CmpOp → List Expr → Bool) (e : Expr) : Bool := pick e.ctorIdx 15 fun q => Expr.Compare.elim (motive_1 := fun _ => Bool) e q fun x os rs _ => k x os rs
theorem onCmp_inv {k : Expr → List CmpOp → List Expr → Bool} {e : Expr} (h : onCmp k e = true) : ∃ x os rs p, e = .Compare x os rs p ∧ k x os rs = true :=
  Expr.Compare.elim (motive_1 := fun e => onCmp k e = true → ∃ x os rs p, e = .Compare x os rs p ∧ k x os rs = true) e (pick_inv h) (fun x os rs p h => ⟨x, os, rs, p, rfl, h⟩) h

noncomputable def onSub (k : Expr → Expr → Bool) (e : Expr) : Bool := pick e.ctorIdx 21 fun q => Expr.Subscript.elim (motive_1 := fun _ => Bool) e q fun x y _ => k x y
theorem onSub_inv {k : Expr → Expr → Bool} {e : Expr} (h : onSub k e = true) : ∃ x y p, e = .Subscript x y p ∧ k x y = true :=
  Expr.Subscript.elim (motive_1 := fun e => onSub k e = true → ∃ x y p, e = .Subscript x y p ∧ k x y = true) e (pick_inv h) (fun x y p h => ⟨x, y, p, rfl, h⟩) h

noncomputable def onSlice (k : Option Expr → Option Expr → Option Expr → Bool) (e : Expr) : Bool := pick e.ctorIdx 26 fun q => Expr.Slice.elim (motive_1 := fun _ => Bool) e q fun x y z _ => k x y z
theorem onSlice_inv {k : Option Expr → Option Expr → Option Expr → Bool} {e : Expr} (h : onSlice k e = true) : ∃ x y z p, e = .Slice x y z p ∧ k x y z = true :=
  Expr.Slice.elim (motive_1 := fun e => onSlice k e = true → ∃ x y z p, e = .Slice x y z p ∧ k x y z = true) e (pick_inv h) (fun x y z p h => ⟨x, y, z, p, rfl, h⟩) h

noncomputable def onCall (k : Expr → List Expr → List Keyword → Pos → Bool) (e : Expr) : Bool := pick e.ctorIdx 16 fun q => Expr.Call.elim (motive_1 := fun _ => Bool) e q fun f xs ks p => k f xs ks p
theorem onCall_inv {k : Expr → List Expr → List Keyword → Pos → Bool} {e : Expr} (h : onCall k e = true) : ∃ f xs ks p, e = .Call f xs ks p ∧ k f xs ks p = true :=
  Expr.Call.elim (motive_1 := fun e => onCall k e = true → ∃ f xs ks p, e = .Call f xs ks p ∧ k f xs ks p = true) e (pick_inv h) (fun f xs ks p h => ⟨f, xs, ks, p, rfl, h⟩) h

noncomputable def onAttr (k : Expr → Str → Pos → Bool) (e : Expr) : Bool := pick e.ctorIdx 20 fun q => Expr.Attribute.elim (motive_1 := fun _ => Bool) e q fun x n p => k x n p
theorem onAttr_inv {k : Expr → Str → Pos → Bool} {e : Expr} (h : onAttr k e = true) : ∃ x n p, e = .Attribute x n p ∧ k x n p = true :=
  Expr.Attribute.elim (motive_1 := fun e => onAttr k e = true → ∃ x n p, e = .Attribute x n p ∧ k x n p = true) e (pick_inv h) (fun x n p h => ⟨x, n, p, rfl, h⟩) h

noncomputable def onReturn (k : Option Expr → Bool) (e : Stmt) : Bool := pick e.ctorIdx 3 fun q => Stmt.Return.elim (motive_2 := fun _ => Bool) e q fun x _ => k x
theorem onReturn_inv {k : Option Expr → Bool} {e : Stmt} (h : onReturn k e = true) : ∃ x p, e = .Return x p ∧ k x = true :=
  Stmt.Return.elim (motive_2 := fun e => onReturn k e = true → ∃ x p, e = .Return x p ∧ k x = true) e (pick_inv h) (fun x p h => ⟨x, p, rfl, h⟩) h

noncomputable def onAssign (k : List Expr → Expr → Bool) (e : Stmt) : Bool := pick e.ctorIdx 5 fun q => Stmt.Assign.elim (motive_2 := fun _ => Bool) e q fun ts v _ => k ts v
theorem onAssign_inv {k : List Expr → Expr → Bool} {e : Stmt} (h : onAssign k e = true) : ∃ ts v p, e = .Assign ts v p ∧ k ts v = true :=
  Stmt.Assign.elim (motive_2 := fun e => onAssign k e = true → ∃ ts v p, e = .Assign ts v p ∧ k ts v = true) e (pick_inv h) (fun ts v p h => ⟨ts, v, p, rfl, h⟩) h

noncomputable def onIfS (k : Expr → List Stmt → List Stmt → Bool) (e : Stmt) : Bool := pick e.ctorIdx 12 fun q => Stmt.If.elim (motive_2 := fun _ => Bool) e q fun x y z _ => k x y z
theorem onIfS_inv {k : Expr → List Stmt → List Stmt → Bool} {e : Stmt} (h : onIfS k e = true) : ∃ x y z p, e = .If x y z p ∧ k x y z = true :=
  Stmt.If.elim (motive_2 := fun e => onIfS k e = true → ∃ x y z p, e = .If x y z p ∧ k x y z = true) e (pick_inv h) (fun x y z p h => ⟨x, y, z, p, rfl, h⟩) h

noncomputable def onWhile (k : Expr → List Stmt → List Stmt → Bool) (e : Stmt) : Bool := pick e.ctorIdx 11 fun q => Stmt.While.elim (motive_2 := fun _ => Bool) e q fun x y z _ => k x y z
theorem onWhile_inv {k : Expr → List Stmt → List Stmt → Bool} {e : Stmt} (h : onWhile k e = true) : ∃ x y z p, e = .While x y z p ∧ k x y z = true :=
  Stmt.While.elim (motive_2 := fun e => onWhile k e = true → ∃ x y z p, e = .While x y z p ∧ k x y z = true) e (pick_inv h) (fun x y z p h => ⟨x, y, z, p, rfl, h⟩) h

noncomputable def onFor (k : Expr → Expr → List Stmt → List Stmt → Bool) (e : Stmt) : Bool := pick e.ctorIdx 9 fun q => Stmt.For.elim (motive_2 := fun _ => Bool) e q fun t x y z _ => k t x y z
theorem onFor_inv {k : Expr → Expr → List Stmt → List Stmt → Bool} {e : Stmt} (h : onFor k e = true) : ∃ t x y z p, e = .For t x y z p ∧ k t x y z = true :=
  Stmt.For.elim (motive_2 := fun e => onFor k e = true → ∃ t x y z p, e = .For t x y z p ∧ k t x y z = true) e (pick_inv h) (fun t x y z p h => ⟨t, x, y, z, p, rfl, h⟩) h

noncomputable def onRaise (k : Option Expr → Option Expr → Bool) (e : Stmt) : Bool := pick e.ctorIdx 16 fun q => Stmt.Raise.elim (motive_2 := fun _ => Bool) e q fun x y _ => k x y
theorem onRaise_inv {k : Option Expr → Option Expr → Bool} {e : Stmt} (h : onRaise k e = true) : ∃ x y p, e = .Raise x y p ∧ k x y = true :=
  Stmt.Raise.elim (motive_2 := fun e => onRaise k e = true → ∃ x y p, e = .Raise x y p ∧ k x y = true) e (pick_inv h) (fun x y p h => ⟨x, y, p, rfl, h⟩) h

noncomputable def onTry (k : List Stmt → List ExceptHandler → List Stmt → List Stmt → Bool) (e : Stmt) : Bool := pick e.ctorIdx 17 fun q => Stmt.Try.elim (motive_2 := fun _ => Bool) e q fun b hs o f _ => k b hs o f
theorem onTry_inv {k : List Stmt → List ExceptHandler → List Stmt → List Stmt → Bool} {e : Stmt} (h : onTry k e = true) : ∃ b hs o f p, e = .Try b hs o f p ∧ k b hs o f = true :=
  Stmt.Try.elim (motive_2 := fun e => onTry k e = true → ∃ b hs o f p, e = .Try b hs o f p ∧ k b hs o f = true) e (pick_inv h) (fun b hs o f p h => ⟨b, hs, o, f, p, rfl, h⟩) h

noncomputable def onHandler (k : Option Expr → Option Str → List Stmt → Bool) : ExceptHandler → Bool
  | .ExceptHandler t n b _ => k t n b
theorem onHandler_inv {k : Option Expr → Option Str → List Stmt → Bool} {e : ExceptHandler} (h : onHandler k e = true) : ∃ t n b p, e = .ExceptHandler t n b p ∧ k t n b = true := by
  cases e; exact ⟨_, _, _, _, rfl, h⟩

section
variable {α : Type}
noncomputable def on0 : List α → Bool
  | [] => true
  | _ :: _ => false
theorem on0_inv {l : List α} (h : on0 l = true) : l = [] := by cases l <;> first | rfl | cases h
noncomputable def onCons (k : α → List α → Bool) : List α → Bool
  | [] => false
  | x :: r => k x r
theorem onCons_inv {k : α → List α → Bool} {l : List α} (h : onCons k l = true) : ∃ x r, l = x :: r ∧ k x r = true := by cases l <;> first | exact ⟨_, _, rfl, h⟩ | cases h
theorem either {a b : Bool} (h : (a || b) = true) : a = true ∨ b = true := Bool.or_eq_true_iff.mp h
theorem notT {b : Bool} (h : (!b) = true) : b = false := by cases b <;> first | rfl | cases h
theorem both {a b : Bool} (h : (a && b) = true) : a = true ∧ b = true := (Bool.and_eq_true_iff).mp h
noncomputable def on1 (k : α → Bool) : List α → Bool := onCons fun x r => on0 r && k x
theorem on1_inv {k : α → Bool} {l : List α} (h : on1 k l = true) : ∃ x, l = [x] ∧ k x = true := by
  obtain ⟨x, r, rfl, h0⟩ := onCons_inv h
  obtain ⟨h1, h2⟩ := both h0
  rw [on0_inv h1]
  exact ⟨x, rfl, h2⟩
noncomputable def on2 (k : α → α → Bool) : List α → Bool := onCons fun x r => on1 (k x) r
theorem on2_inv {k : α → α → Bool} {l : List α} (h : on2 k l = true) : ∃ x y, l = [x, y] ∧ k x y = true := by
  obtain ⟨x, r, rfl, h1⟩ := onCons_inv h
  obtain ⟨y, rfl, h2⟩ := on1_inv h1
  exact ⟨x, y, rfl, h2⟩
noncomputable def on2r (k : α → α → List α → Bool) : List α → Bool := onCons fun x r => onCons (k x) r
theorem on2r_inv {k : α → α → List α → Bool} {l : List α} (h : on2r k l = true) : ∃ x y r, l = x :: y :: r ∧ k x y r = true := by
  obtain ⟨x, r, rfl, h1⟩ := onCons_inv h
  obtain ⟨y, q, rfl, h2⟩ := onCons_inv h1
  exact ⟨x, y, q, rfl, h2⟩
noncomputable def onSome (k : α → Bool) : Option α → Bool
  | none => false
  | some a => k a
theorem onSome_inv {k : α → Bool} {o : Option α} (h : onSome k o = true) : ∃ a, o = some a ∧ k a = true := by cases o <;> first | exact ⟨_, rfl, h⟩ | cases h
noncomputable def onNone : Option α → Bool
  | none => true
  | some _ => false
theorem onNone_inv {o : Option α} (h : onNone o = true) : o = none := by cases o <;> first | rfl | cases h
end
noncomputable def isUSub (o : UnaryOp) : Bool := pick o.ctorIdx 3 fun _ => true
theorem isUSub_inv {o : UnaryOp} (h : isUSub o = true) : o = .USub := UnaryOp.USub.elim (motive := fun o => o = .USub) o (pick_inv h) rfl
noncomputable def isNot (o : UnaryOp) : Bool := pick o.ctorIdx 1 fun _ => true
theorem isNot_inv {o : UnaryOp} (h : isNot o = true) : o = .Not := UnaryOp.Not.elim (motive := fun o => o = .Not) o (pick_inv h) rfl
noncomputable def isAnd (o : BoolOp) : Bool := pick o.ctorIdx 0 fun _ => true
theorem isAnd_inv {o : BoolOp} (h : isAnd o = true) : o = .And := BoolOp.And.elim (motive := fun o => o = .And) o (pick_inv h) rfl
noncomputable def isOr (o : BoolOp) : Bool := pick o.ctorIdx 1 fun _ => true
theorem isOr_inv {o : BoolOp} (h : isOr o = true) : o = .Or := BoolOp.Or.elim (motive := fun o => o = .Or) o (pick_inv h) rfl
noncomputable def isIs (o : CmpOp) : Bool := pick o.ctorIdx 6 fun _ => true
theorem isIs_inv {o : CmpOp} (h : isIs o = true) : o = .Is := CmpOp.Is.elim (motive := fun o => o = .Is) o (pick_inv h) rfl
noncomputable def isIsNot (o : CmpOp) : Bool := pick o.ctorIdx 7 fun _ => true
theorem isIsNot_inv {o : CmpOp} (h : isIsNot o = true) : o = .IsNot := CmpOp.IsNot.elim (motive := fun o => o = .IsNot) o (pick_inv h) rfl
noncomputable def isNoneK (o : Const) : Bool := pick o.ctorIdx 0 fun _ => true
theorem isNoneK_inv {o : Const} (h : isNoneK o = true) : o = .none := Const.none.elim (motive := fun o => o = .none) o (pick_inv h) rfl
noncomputable def onStrK (o : Const) : Bool := pick o.ctorIdx 5 fun _ => true
theorem onStrK_inv {o : Const} (h : onStrK o = true) : ∃ x, o = .str x := Const.str.elim (motive := fun o => ∃ x, o = .str x) o (pick_inv h) fun x => ⟨x, rfl⟩
noncomputable def isNoneC (e : Expr) : Bool := onConst isNoneK e
theorem isNoneC_inv {e : Expr} (h : isNoneC e = true) : ∃ n p, e = .Constant .none n p := by
  obtain ⟨k, n, p, rfl, h1⟩ := onConst_inv h
  rw [isNoneK_inv h1]
  exact ⟨n, p, rfl⟩
noncomputable def isStrE (e : Expr) : Bool := onConst onStrK e
theorem isStrE_inv {e : Expr} (h : isStrE e = true) : ∃ x n p, e = .Constant (.str x) n p := by
  obtain ⟨k, n, p, rfl, h1⟩ := onConst_inv h
  obtain ⟨x, rfl⟩ := onStrK_inv h1
  exact ⟨x, n, p, rfl⟩
end Mine

namespace Mine
open PySem PySem.Calls PySem.Spec PyProof.Rows PySem.W

structure Cx where
  fns : List Str
  gl : List (Str × PyData)
  ns : List Str
  sc : Scope
  ext : PE → Expr → Bool

noncomputable def bts : List (Str × Value) := [("len", .builtin "len"), ("str", .type "str"), ("int", .type "int"), ("abs", .builtin "abs"), ("ord", .builtin "ord"), ("min", .builtin "min"), ("max", .builtin "max"),
  ("type", .type "type"), ("tuple", .type "tuple"), ("bool", .type "bool"), ("all", .builtin "all"), ("any", .builtin "any"), ("zip", .type "zip"), ("range", .type "range"), ("ValueError", .type "ValueError")]

noncomputable def tyValue : Ty → Value
  | .int => .type "int" | .str => .type "str" | .tuple => .type "tuple" | .bool => .type "bool"

noncomputable def plainArg : Expr → Bool
  | .Starred .. => false
  | _ => true
noncomputable def noSuper : Expr → Bool
  | .Call (.Name _ _) [] [] _ => false
  | _ => true

noncomputable def kindIs (c : Cx) (x : Str) (k : NameKind) : Bool := c.sc.names.lookup x == some k && !(x == ("__debug__" : Str))
noncomputable def isBt (c : Cx) (x : Str) (v : Value) : Bool := kindIs c x .globalImplicit && bts.lookup x == some v

noncomputable def dNone (e : PyData) : Bool := pick e.ctorIdx 0 fun _ => true
theorem dNone_inv {e : PyData} (h : dNone e = true) : e = .none := PyData.none.elim (motive_1 := fun e => e = .none) e (pick_inv h) rfl
noncomputable def onB' (k : Bool → Bool) (e : PyData) : Bool := pick e.ctorIdx 1 fun q => PyData.bool.elim (motive_1 := fun _ => Bool) e q k
theorem onB_inv {k : Bool → Bool} {e : PyData} (h : onB' k e = true) : ∃ x, e = .bool x ∧ k x = true :=
  PyData.bool.elim (motive_1 := fun e => onB' k e = true → ∃ x, e = .bool x ∧ k x = true) e (pick_inv h) (fun x h => ⟨x, rfl, h⟩) h
noncomputable def onI' (k : Int → Bool) (e : PyData) : Bool := pick e.ctorIdx 2 fun q => PyData.int.elim (motive_1 := fun _ => Bool) e q k
theorem onI_inv {k : Int → Bool} {e : PyData} (h : onI' k e = true) : ∃ x, e = .int x ∧ k x = true :=
  PyData.int.elim (motive_1 := fun e => onI' k e = true → ∃ x, e = .int x ∧ k x = true) e (pick_inv h) (fun x h => ⟨x, rfl, h⟩) h
noncomputable def onS' (k : Str → Bool) (e : PyData) : Bool := pick e.ctorIdx 3 fun q => PyData.str.elim (motive_1 := fun _ => Bool) e q k
theorem onS_inv {k : Str → Bool} {e : PyData} (h : onS' k e = true) : ∃ x, e = .str x ∧ k x = true :=
  PyData.str.elim (motive_1 := fun e => onS' k e = true → ∃ x, e = .str x ∧ k x = true) e (pick_inv h) (fun x h => ⟨x, rfl, h⟩) h
noncomputable def onL' (k : List PyData → Bool) (e : PyData) : Bool := pick e.ctorIdx 4 fun q => PyData.list.elim (motive_1 := fun _ => Bool) e q k
theorem onL_inv {k : List PyData → Bool} {e : PyData} (h : onL' k e = true) : ∃ x, e = .list x ∧ k x = true :=
  PyData.list.elim (motive_1 := fun e => onL' k e = true → ∃ x, e = .list x ∧ k x = true) e (pick_inv h) (fun x h => ⟨x, rfl, h⟩) h
noncomputable def onT' (k : List PyData → Bool) (e : PyData) : Bool := pick e.ctorIdx 5 fun q => PyData.tuple.elim (motive_1 := fun _ => Bool) e q k
theorem onT_inv {k : List PyData → Bool} {e : PyData} (h : onT' k e = true) : ∃ x, e = .tuple x ∧ k x = true :=
  PyData.tuple.elim (motive_1 := fun e => onT' k e = true → ∃ x, e = .tuple x ∧ k x = true) e (pick_inv h) (fun x h => ⟨x, rfl, h⟩) h
noncomputable def onCB' (k : Bool → Bool) (e : Const) : Bool := pick e.ctorIdx 1 fun q => Const.bool.elim (motive := fun _ => Bool) e q k
theorem onCB_inv {k : Bool → Bool} {e : Const} (h : onCB' k e = true) : ∃ x, e = .bool x ∧ k x = true :=
  Const.bool.elim (motive := fun e => onCB' k e = true → ∃ x, e = .bool x ∧ k x = true) e (pick_inv h) (fun x h => ⟨x, rfl, h⟩) h
noncomputable def onCI' (k : Int → Bool) (e : Const) : Bool := pick e.ctorIdx 2 fun q => Const.int.elim (motive := fun _ => Bool) e q k
theorem onCI_inv {k : Int → Bool} {e : Const} (h : onCI' k e = true) : ∃ x, e = .int x ∧ k x = true :=
  Const.int.elim (motive := fun e => onCI' k e = true → ∃ x, e = .int x ∧ k x = true) e (pick_inv h) (fun x h => ⟨x, rfl, h⟩) h
noncomputable def onCS' (k : Str → Bool) (e : Const) : Bool := pick e.ctorIdx 5 fun q => Const.str.elim (motive := fun _ => Bool) e q k
theorem onCS_inv {k : Str → Bool} {e : Const} (h : onCS' k e = true) : ∃ x, e = .str x ∧ k x = true :=
  Const.str.elim (motive := fun e => onCS' k e = true → ∃ x, e = .str x ∧ k x = true) e (pick_inv h) (fun x h => ⟨x, rfl, h⟩) h
noncomputable def constOk : PyData → Const → Bool
  | .none, k => isNoneK k
  | .bool a, k => onCB' (fun b => a == b) k
  | .int a, k => onCI' (fun b => a == b) k
  | .str a, k => onCS' (fun b => a == b && decide (a.length ≤ limit)) k
  | .list _, _ => false
  | .tuple _, _ => false
  | .dict _, _ => false

mutual
noncomputable def dEq : PyData → PyData → Bool
  | .none, b => dNone b
  | .bool a, b => onB' (fun b => a == b) b
  | .int a, b => onI' (fun b => a == b) b
  | .str a, b => onS' (fun b => a == b) b
  | .list a, b => onL' (fun b => dEqs a b) b
  | .tuple a, b => onT' (fun b => dEqs a b) b
  | .dict _, _ => false
noncomputable def dEqs : List PyData → List PyData → Bool
  | [], b => on0 b
  | a :: r, b => onCons (fun b q => dEq a b && dEqs r q) b
end
mutual
theorem dEq_eq : ∀ {a b : PyData}, dEq a b = true → a = b
  | .none, b, h => (dNone_inv h).symm
  | .bool a, b, h => by obtain ⟨x, rfl, k⟩ := onB_inv h; rw [beq_iff_eq.mp k]
  | .int a, b, h => by obtain ⟨x, rfl, k⟩ := onI_inv h; rw [beq_iff_eq.mp k]
  | .str a, b, h => by obtain ⟨x, rfl, k⟩ := onS_inv h; rw [beq_iff_eq.mp k]
  | .list a, b, h => by obtain ⟨x, rfl, k⟩ := onL_inv h; rw [dEqs_eq k]
  | .tuple a, b, h => by obtain ⟨x, rfl, k⟩ := onT_inv h; rw [dEqs_eq k]
theorem dEqs_eq : ∀ {a b : List PyData}, dEqs a b = true → a = b
  | [], b, h => (on0_inv h).symm
  | a :: r, b, h => by
    obtain ⟨x, q, rfl, k⟩ := onCons_inv h
    rw [dEq_eq (both k).1, dEqs_eq (both k).2]
end
noncomputable def isD (d : PyData) : Option PyData → Bool := onSome fun d' => dEq d' d

noncomputable def isCall (e : Expr) : Bool := onCall (fun _ _ _ _ => true) e
noncomputable def isStrC (p : PE) : Bool := pick p.ctorIdx 1 fun q => PE.cst.elim (motive_1 := fun _ => Bool) p q fun d => onS' (fun _ => true) d
noncomputable def rest (o : BoolOp) (p : Pos) (y : Expr) : List Expr → Expr
  | [] => y
  | z :: q => .BoolOp o (y :: z :: q) p
noncomputable def keysOk : List PyData → List (Option Expr) → Bool
  | [], l => on0 l
  | d :: ds, l => onCons (fun o r => onSome (onConst fun k => constOk d k) o && keysOk ds r) l
noncomputable def valsOk : List PyData → List Expr → Bool
  | [], l => on0 l
  | d :: ds, l => onCons (fun e r => onConst (fun k => constOk d k) e && valsOk ds r) l
noncomputable def keyOf : PyData → Option (Option Int)
  | .none => some none
  | .int i => some (some i)
  | _ => none
noncomputable def tabOkD (ks vs : List PyData) : Bool := decide (ks.length = vs.length) && decide (1 ≤ ks.length) && decide (ks.length ≤ 15) && ks.all flat && decide (ks.filterMap keyOf).Nodup
noncomputable def onDict (k : List (Option Expr) → List Expr → Bool) (e : Expr) : Bool := pick e.ctorIdx 6 fun q => Expr.Dict.elim (motive_1 := fun _ => Bool) e q fun x y _ => k x y
noncomputable def isGetA (ks vs : List PyData) (p : Pos) (f : Expr) : Bool := onAttr (fun o n ap => n == ("get" : Str) && ap.endLine == p.line && onDict (fun keys vals => keysOk ks keys && valsOk vs vals) o) f
noncomputable def isGetC (ks vs : List PyData) (k : Expr → Expr → Bool) (e : Expr) : Bool := onCall (fun f xs kw p => on0 kw && isGetA ks vs p f && on2 k xs) e
noncomputable def isEasy (p : PE) : Bool := decide (p.ctorIdx = 0) || decide (p.ctorIdx = 1)
noncomputable def isStrIs (y : Str) : Expr → Bool := onConst (onCS' fun b => b == y)
noncomputable def strsE : List Str → List Expr → Bool
  | [], l => on0 l
  | z :: zs, l => onCons (fun e es => isStrIs z e && strsE zs es) l
noncomputable def repOk (y : Str) (zs : List Str) : Bool := decide (1 ≤ y.length) && decide (y.length ≤ 14) && decide (zs.length ≤ 15) && zs.all fun z => decide (z.length ≤ 14) && Txt.replace y y z == z
noncomputable def isRepA (p : Pos) (k : Expr → Bool) (f : Expr) : Bool := onAttr (fun o n ap => n == ("replace" : Str) && ap.endLine == p.line && k o) f
noncomputable def isRepB (zs : List Str) (k : Expr → Bool) (v : Expr) : Bool := onSub (fun t u => onTup (fun es _ _ => strsE zs es) t && k u) v
noncomputable def isRepC (y : Str) (zs : List Str) (k1 k2 : Expr → Bool) (e : Expr) : Bool := onCall (fun f xs kw p => on0 kw && isRepA p k1 f && on2 (fun u v => isStrIs y u && isRepB zs k2 v) xs) e
noncomputable def isTyC (c : Cx) (k : Expr → Bool) (e : Expr) : Bool := onCall (fun f xs ks _ => onName (fun f => isBt c f (.type "type")) f && on0 ks && on1 (fun x => plainArg x && k x) xs) e
theorem isTyC_inv {c : Cx} {k : Expr → Bool} {e : Expr} (h : isTyC c k e = true) : ∃ f fp x cp, e = .Call (.Name f fp) [x] [] cp ∧ isBt c f (.type "type") = true ∧ plainArg x = true ∧ k x = true := by
  obtain ⟨f, xs, ks, cp, rfl, k7⟩ := onCall_inv h
  obtain ⟨k8, k9⟩ := both k7
  obtain ⟨k10, k11⟩ := both k8
  obtain ⟨f', fp, rfl, ok1⟩ := onName_inv k10
  obtain rfl := on0_inv k11
  obtain ⟨x, rfl, k12⟩ := on1_inv k9
  obtain ⟨ok2, ok3⟩ := both k12
  exact ⟨_, _, _, _, rfl, ok1, ok2, ok3⟩
mutual
noncomputable def okE (c : Cx) : PE → Expr → Bool
  | .loc i, e => onName (fun x => c.ns[i]? == some x && kindIs c x .local) e
  | .cst d, e => onConst (fun k => constOk d k) e || onName (fun x => kindIs c x .globalImplicit && isD d (c.gl.lookup x)) e
  | .bin op a b, e => onBin (fun l o r => o == opOf op && okE c a l && okE c b r) e
  | .neg a, e => onUn (fun o x => isUSub o && okE c a x) e
  | .not a, e => onUn (fun o x => isNot o && okE c a x) e
  | .and a b, e => onBoolOp (fun o xs p => isAnd o && on2r (fun x y r => okE c a x && okE c b (rest .And p y r)) xs) e
  | .or a b, e => onBoolOp (fun o xs p => isOr o && on2r (fun x y r => okE c a x && okE c b (rest .Or p y r)) xs) e
  | .ite t a b, e => onIfE (fun x y z => okE c t x && okE c a y && okE c b z) e
  | .tup es, e => onTup (fun xs _ _ => okEs c es xs && decide (xs.length ≤ 100)) e
  | .lst es, e => onList (fun xs => okEs c es xs && decide (xs.length ≤ 100)) e
  | .cmp op a b, e => onCmp (fun l os rs => on1 (fun o => on1 (fun r => o == cmpOf op && !(behindInMarks o r) && okE c a l && okE c b r) rs) os) e
  | .chain o₁ o₂ a b d, e => onCmp (fun l os rs => on2 (fun p q => on2 (fun r t => p == cmpOf o₁ && q == cmpOf o₂ && !(behindInMarks q t) && okE c a l && okE c b r && okE c d t) rs) os) e
  | .isNone a, e => onCmp (fun l os rs => on1 isIs os && on1 isNoneC rs && okE c a l) e
  | .isNotNone a, e => onCmp (fun l os rs => on1 isIsNot os && on1 isNoneC rs && okE c a l) e
  | .typeIs a t, e => onCmp (fun l os rs => on1 isIs os && on1 (onName fun g => isBt c g (tyValue t)) rs && isTyC c (fun x => okE c a x) l) e
  | .idx a i, e => onSub (fun v s => noSlice s && okE c a v && okE c i s) e
  | .sliceTo a hi, e => onSub (fun v s => onSlice (fun x y z => onNone x && onNone z && onSome (fun u => okE c a v && okE c hi u) y) s) e
  | .sliceFrom a lo, e => onSub (fun v s => onSlice (fun x y z => onNone y && onNone z && onSome (fun u => okE c a v && okE c lo u) x) s) e
  | .slice a lo hi, e => onSub (fun v s => onSlice (fun x y z => onNone z && onSome (fun u => onSome (fun t => okE c a v && okE c lo u && okE c hi t) y) x) s) e
  | .call f args, e => onCall (fun g xs ks _ => onName (fun x => c.fns[f]? == some x && kindIs c x .globalImplicit) g && on0 ks && okEs c args xs) e
  | .b1 f a, e => onCall (fun g xs ks _ => onName (fun x => isBt c x (nameOf1 f)) g && on0 ks && on1 (fun y => plainArg y && okE c a y) xs) e
  | .b2 f a b, e => onCall (fun g xs ks _ => onName (fun x => isBt c x (nameOf2 f)) g && on0 ks && on2 (fun y z => plainArg y && plainArg z && okE c a y && okE c b z) xs) e
  | .join _ _, _ => false
  | .rstrip a b, e => onCall (fun g xs ks p => on0 ks && isStrC b && onAttr (fun o n ap => n == ("rstrip" : Str) && noSuper o && ap.endLine == p.line && okE c a o) g && on1 (fun y => plainArg y && okE c b y) xs) e
  | .replace _ _ _ _, _ => false
  | .dget _ _ _ _, _ => false
  | .all a b, e => isCall e && c.ext (.all a b) e
  | .anyZip a b d, e => isCall e && c.ext (.anyZip a b d) e
noncomputable def okEs (c : Cx) : List PE → List Expr → Bool
  | [], l => on0 l
  | p :: ps, l => onCons (fun e es => plainArg e && okE c p e && okEs c ps es) l
end
end Mine

namespace Mine
open PySem PySem.Calls PySem.Spec PyProof.Rows PySem.W

structure Gx (X : Cfg) (c : Cx) (Fa : Nat → Addr) : Prop where
  names : ∃ mg mb, X.H.Ns mainGlobals mg ∧ X.H.Ns builtinsNs mb ∧
    (∀ f x, c.fns[f]? = some x → mg x = some (.ref (Fa f)) ∧ ∃ o fd, X.H.get? (Fa f) = some o ∧ o.data = .func fd) ∧
    (∀ x d, c.gl.lookup x = some d → ∃ v, mg x = some v ∧ Rd X.H v d) ∧
    (∀ x v, bts.lookup x = some v → mg x = none ∧ mb x = some v)

structure Here (X : Cfg) (c : Cx) (env : Env) (l : List Env) (L : Addr) (ρ : Env') (s : Shared) : Prop where
  w : W X s
  ff : s.heap.FunFrames X.H (env :: l)
  fm : ∃ m, s.heap.Ns L m ∧ ∀ (i : Nat) (d : PyData), ρ[i]? = some (some d) → ∃ x v, c.ns[i]? = some x ∧ m x = some v ∧ Rd s.heap v d

section
variable {X : Cfg} {c : Cx} {env : Env} {l : List Env} {L : Addr} {ρ : Env'} {s s' : Shared} {Fa : Nat → Addr} {C : Calls} {A : Around}
theorem Here.step (h : Here X c env l L ρ s) (o : Ok X [] s s') : Here X c env l L ρ s' := by
  refine ⟨o.2, funFrames_xt o.1 h.ff (fun _ q => by cases q), ?_⟩
  obtain ⟨m, n, k⟩ := h.fm
  refine ⟨m, o.1.ns n (fun q => by cases q), fun i d e => ?_⟩
  obtain ⟨x, v, e1, e2, r⟩ := k i d e
  exact ⟨x, v, e1, e2, r.xt o.1⟩

theorem Wh.ns {h : Heap} {a : Addr} {m : Str → Option Value} (x : Wh X h) (n : X.H.Ns a m) : h.Ns a m := by
  obtain ⟨o, es, ep, ho, hd, r⟩ := n
  exact ⟨o, es, ep, x.old _ _ ho (.inr fun vs q => by rw [hd] at q; cases q), hd, r⟩
theorem Wh.rd {h : Heap} {v : Value} {d : PyData} (x : Wh X h) (r : Rd X.H v d) : Rd h v d :=
  r.move fun b o vs n e hd hc => ⟨o.slots, x.old _ _ e (.inl hc)⟩
theorem Wh.get {h : Heap} {a : Addr} {o : Obj} (x : Wh X h) (e : X.H.get? a = some o) (k : ∀ vs, o.data ≠ .fields vs) : h.get? a = some o := x.old _ _ e (.inr k)

structure Sit (X : Cfg) (c : Cx) (Fa : Nat → Addr) (C : Calls) (A : Around) (env : Env) (l : List Env) (L : Addr) : Prop where
  G : Gx X c Fa
  ev : ∃ q a cd, env = envOf q c.sc L a cd
  kind : c.sc.kind = .function
  new : X.H.get? L = none
  lim : X.H.NoLimit
  nb : NoneBooked X.H
  there : ∀ h, X.Tab h → ∀ b o, X.H.get? b = some o → ¬ KeepMe o → ∃ o', h.get? b = some o'
  fr : A.frames = some (env :: l)
  hh : A.handled = none
  units : A.units + 80 < cLine
  call : ∀ (f : Nat) (vs : List Value) (ds : List PyData) (s : Shared) (Q : Value → Shared → Prop) (E : Value → Shared → Prop), s.heap.FunFrames X.H (env :: l) → W X s → RdAll s.heap vs ds → Sp X RelV [] (env :: l) s Q E (C f ds) →
    wpAny (model X.prog X.w) A (call (.ref (Fa f)) vs) Q E s
  ext : ∀ (p : PE) (e : Expr) (ρ : Env') (s : Shared) (Q : Value → Shared → Prop) (E : Value → Shared → Prop), c.ext p e = true → Here X c env l L ρ s → Sp X RelV [] (env :: l) s Q E (Mine.ev C p ρ) → wpAny (model X.prog X.w) A (eval e env) Q E s

theorem kindIs_eq {x : Str} {k : NameKind} (h : kindIs c x k = true) : c.sc.names.lookup x = some k ∧ (x == ("__debug__" : Str)) = false := by
  unfold kindIs at h
  simp only [Bool.and_eq_true, beq_iff_eq, Bool.not_eq_true'] at h
  exact h

variable {E : Value → Shared → Prop} {Q : Value → Shared → Prop}
theorem load_local {x : Str} {p : Pos} {i : Nat} (T : Sit X c Fa C A env l L) (h : Here X c env l L ρ s) (h1 : c.ns[i]? = some x) (h2 : kindIs c x .local = true) (sp : Sp X RelV [] (env :: l) s Q E (getL ρ i)) :
    wpAny (model X.prog X.w) A (eval (.Name x p) env) Q E s := by
  obtain ⟨m, n, k⟩ := h.fm
  unfold getL at sp
  split at sp
  · rename_i d e
    obtain ⟨y, v, e1, e2, r⟩ := k i d e
    rw [h1] at e1; cases e1
    obtain ⟨q, a, cd, rfl⟩ := T.ev
    obtain ⟨k1, k2⟩ := kindIs_eq h2
    exact wpAny_Name (wpAny_loadName_local T.kind k1 n e2 (sp _ _ (Ok.refl h.w) r)) k2
  · exact sp.elim

theorem load_fn {x : Str} {p : Pos} {f : Nat} (T : Sit X c Fa C A env l L) (w : W X s) (h1 : c.fns[f]? = some x) (h2 : kindIs c x .globalImplicit = true) (h : Q (.ref (Fa f)) s) :
    wpAny (model X.prog X.w) A (eval (.Name x p) env) Q E s := by
  obtain ⟨mg, mb, g, b, fn, gd, bt⟩ := T.G.names
  obtain ⟨q, a, cd, rfl⟩ := T.ev
  obtain ⟨k1, k2⟩ := kindIs_eq h2
  exact Name_function_global T.kind k1 (loadGlobal_global (env := envOf q c.sc L a cd) (w.h.ns g) (fn f x h1).1 h) k2
theorem load_gl {x : Str} {p : Pos} {d : PyData} (T : Sit X c Fa C A env l L) (w : W X s) (h1 : c.gl.lookup x = some d) (h2 : kindIs c x .globalImplicit = true) (sp : Sp X RelV [] (env :: l) s Q E (.ok d)) :
    wpAny (model X.prog X.w) A (eval (.Name x p) env) Q E s := by
  obtain ⟨mg, mb, g, b, fn, gd, bt⟩ := T.G.names
  obtain ⟨v, e1, r⟩ := gd x d h1
  obtain ⟨q, a, cd, rfl⟩ := T.ev
  obtain ⟨k1, k2⟩ := kindIs_eq h2
  exact Name_function_global T.kind k1 (loadGlobal_global (env := envOf q c.sc L a cd) (w.h.ns g) e1 (sp _ _ (Ok.refl w) (w.h.rd r))) k2
theorem load_bt {x : Str} {p : Pos} {v : Value} (T : Sit X c Fa C A env l L) (w : W X s) (h1 : isBt c x v = true) (h : Q v s) :
    wpAny (model X.prog X.w) A (eval (.Name x p) env) Q E s := by
  unfold isBt at h1
  simp only [Bool.and_eq_true, beq_iff_eq] at h1
  obtain ⟨mg, mb, g, b, fn, gd, bt⟩ := T.G.names
  obtain ⟨e1, e2⟩ := bt x v h1.2
  obtain ⟨q, a, cd, rfl⟩ := T.ev
  obtain ⟨k1, k2⟩ := kindIs_eq h1.1
  exact Name_function_global T.kind k1 (loadGlobal_builtin (env := envOf q c.sc L a cd) (w.h.ns g) e1 (w.h.ns b) e2 h) k2

theorem star_plain {e : Expr} {rest : List Expr} {env : Env} (h : plainArg e = true) : starEach (e :: rest) env = (false, eval e env) :: starEach rest env := by
  cases e <;> first | rfl | cases h

theorem const_sound {d : PyData} {k : Const} {n : Nat} {p : Pos} (w : W X s) (hk : constOk d k = true) (sp : Sp X RelV [] (env :: l) s Q E (.ok d)) : wpAny (model X.prog X.w) A (eval (.Constant k n p) env) Q E s := by
  cases d with
  | none => rw [isNoneK_inv hk]; exact wpAny_Constant_none (sp _ _ (Ok.refl w) .none)
  | bool a => obtain ⟨x, rfl, q⟩ := onCB_inv hk; rw [← beq_iff_eq.mp q]; exact wpAny_Constant_bool (sp _ _ (Ok.refl w) (.bool _))
  | int a => obtain ⟨x, rfl, q⟩ := onCI_inv hk; rw [← beq_iff_eq.mp q]; exact wpAny_Constant_int (sp_int w (Nat.le_succ _) sp)
  | str a => obtain ⟨x, rfl, q⟩ := onCS_inv hk; rw [← beq_iff_eq.mp (both q).1]; exact wpAny_Constant_str (sp_str w (Nat.le_succ _) (of_decide_eq_true (both q).2) sp)
  | _ => cases hk

theorem truthy_sound {v : Value} {d : PyData} {Q : Bool → Shared → Prop} (w : W X s) (r : Rd s.heap v d) (sp : Sp X RelB [] (env :: l) s Q E (truthy d)) : wpAny (model X.prog X.w) A (PySem.truthy v) Q E s := by
  cases r with
  | bool b => exact wpAny_truthy_bool (sp _ _ (Ok.refl w) rfl)
  | _ => exact sp.elim

end
end Mine

namespace Mine
open PySem PySem.Calls PySem.Spec PyProof.Rows PySem.W

section
variable {X : Cfg} {c : Cx} {env : Env} {l : List Env} {L : Addr} {ρ : Env'} {Fa : Nat → Addr} {C : Calls} {A : Around}

noncomputable def EvOk (X : Cfg) (c : Cx) (C : Calls) (A : Around) (env : Env) (l : List Env) (L : Addr) (ρ : Env') (p : PE) : Prop :=
  ∀ (e : Expr) (s : Shared) (Q : Value → Shared → Prop) (E : Value → Shared → Prop), okE c p e = true → Here X c env l L ρ s → Sp X RelV [] (env :: l) s Q E (ev C p ρ) → wpAny (model X.prog X.w) A (eval e env) Q E s
noncomputable def TestOk (X : Cfg) (c : Cx) (C : Calls) (A : Around) (env : Env) (l : List Env) (L : Addr) (ρ : Env') (p : PE) : Prop :=
  ∀ (e : Expr) (s : Shared) (Q : Bool → Shared → Prop) (E : Value → Shared → Prop), okE c p e = true → Here X c env l L ρ s → Sp X RelB [] (env :: l) s Q E ((ev C p ρ).bind truthy) → wpAny (model X.prog X.w) A (isTrue e env (eval e env)) Q E s
noncomputable def EvsOk (X : Cfg) (c : Cx) (C : Calls) (A : Around) (env : Env) (l : List Env) (L : Addr) (ρ : Env') (ps : List PE) : Prop :=
  ∀ (es : List Expr) (pos : Pos) (s : Shared) (Q : List Value → Shared → Prop) (E : Value → Shared → Prop), okEs c ps es = true → Here X c env l L ρ s → Sp X RelVs [] (env :: l) s Q E (evs C ps ρ) → wpAny (model X.prog X.w) A (spliced (backTo pos (starEach es env))) Q E s

theorem nilS {env : Env} {l : List Env} : ∀ a ∈ ([] : List Addr), a ∈ fr (env :: l) := fun _ q => by cases q

theorem spExc {α β γ δ : Type} {Rel : Shared → β → α → Prop} {Rel' : Shared → δ → γ → Prop} {S : List Addr} {s : Shared} {Q : β → Shared → Prop} {Q' : δ → Shared → Prop} {E : Value → Shared → Prop} {b : Bool} (h : Sp X Rel S l s Q E (.exc b)) : Sp X Rel' S l s Q' E (.exc b) := by
  cases b <;> exact h
theorem Sp.bindE {α β γ δ : Type} {Rel : Shared → β → α → Prop} {Rel' : Shared → δ → γ → Prop} {S : List Addr} {s : Shared} {Q : β → Shared → Prop} {E : Value → Shared → Prop} {Q' : δ → Shared → Prop} {r : R γ} {f : γ → R α} (x : Sp X Rel S l s Q E (r.bind f)) (hS : ∀ a ∈ S, a ∈ fr l)
    (k : ∀ c v s₁, r = .ok c → Ok X S s s₁ → Rel' s₁ v c → Sp X Rel S l s₁ Q E (f c) → Q' v s₁) : Sp X Rel' S l s Q' E r := by
  match r, x with
  | .ok c, x => exact fun v s' o rel => k c v s' rfl o rel (Sp.pre x o hS)
  | .exc false, x => exact x
  | .exc true, x => exact x
theorem okEs_length {c : Cx} : ∀ {ps : List PE} {es : List Expr}, okEs c ps es = true → ps.length = es.length
  | [], es, h => by rw [on0_inv h]; rfl
  | p :: ps, es, h => by
    obtain ⟨e, r, rfl, k⟩ := onCons_inv h
    exact congrArg (· + 1) (okEs_length (both k).2)
theorem isStrC_ev {a : PE} (h : isStrC a = true) (C : Calls) (ρ : Env') : ∃ x, ev C a ρ = .ok (.str x) :=
  PE.cst.elim (motive_1 := fun a => isStrC a = true → ∃ x, ev C a ρ = .ok (.str x)) a (pick_inv h) (fun d h => by obtain ⟨x, rfl, _⟩ := onS_inv h; exact ⟨x, rfl⟩) h
theorem evs_length {C : Calls} {ρ : Env'} : ∀ {ps : List PE} {ds : List PyData}, evs C ps ρ = .ok ds → ds.length = ps.length
  | [], ds, h => by simp only [evsE_nil, evsE_cons] at h; cases h; rfl
  | p :: ps, ds, h => by
    simp only [evsE_nil, evsE_cons] at h
    cases e : ev C p ρ with
    | ok d =>
      rw [e, R.bind_ok] at h
      cases e2 : evs C ps ρ with
      | ok q =>
        rw [e2, R.bind_ok] at h
        cases h
        simp [evs_length e2]
      | exc b => rw [e2] at h; cases h
      | stuck => rw [e2] at h; cases h
    | exc b => rw [e] at h; cases h
    | stuck => rw [e] at h; cases h
theorem test_plain {p : PE} {e : Expr} {s : Shared} {Q : Bool → Shared → Prop} {E : Value → Shared → Prop} (he : isTrue e env (eval e env) = (do let v ← eval e env; standAt e.pos; holding [v] (PySem.truthy v)))
    (i : EvOk X c C A env l L ρ p) (ok : okE c p e = true) (h : Here X c env l L ρ s) (sp : Sp X RelB [] (env :: l) s Q E ((ev C p ρ).bind truthy)) : wpAny (model X.prog X.w) A (isTrue e env (eval e env)) Q E s :=
  isTrue_plain (i e s _ E ok h (Sp.bind sp nilS fun d v s₁ o r sp' => truthy_sound o.2 r sp')) he

theorem base_ok {o : Expr} {name : Str} {env : Env} (h1 : noSuper o = true) : attributeBase o name env (eval o env) = eval o env := by
  unfold attributeBase
  split
  · cases h1
  · rfl
theorem method_one {o e : Expr} {name : Str} {apos pos : Pos} {env : Env} (h1 : noSuper o = true) (h2 : (apos.endLine == pos.line) = true) (h3 : plainArg e = true) :
    eval (.Call (.Attribute o name apos) [e] [] pos) env = (do
      let ov ← eval o env
      standAt apos.atName
      let (f, first) ← holding [ov] (getMethod ov name (do return (← importBound o env).getD true))
      callWith pos f first (backTo pos (starEach [e] env)) []) := by
  have ha : attributeBase o name env (eval o env) = eval o env := base_ok h1
  show (do
    let ov ← attributeBase o name env (eval o env)
    standAt apos.atName
    methodCall o name apos pos env ov ([e].length + 0) (backTo pos (starEach [e] env)) (backToKw pos (keywordEach [] env))) = _
  rw [ha]
  rw [star_plain h3]
  unfold methodCall calleeOf methodCallPos
  have hf : methodCallForm ([e].length + 0) (backTo pos ((false, eval e env) :: starEach [] env)) (backToKw pos (keywordEach [] env)) = true := rfl
  rw [hf]
  simp only [if_true, Bool.not_true, Bool.false_or, h2]
  rfl

theorem ofNone {d : PyData} {h : Heap} {v : Value} (r : Rd h v d) : (v == Value.none) = (match d with | .none => true | _ => false) := by
  cases r <;> rfl

theorem typeIs_is {t : Ty} : tyValue t = .type (tyName t) := by cases t <;> rfl

theorem callWith_fn {f : Nat} {es : List Expr} {pos : Pos} {ps : List PE} {s : Shared} {Q : Value → Shared → Prop} {E : Value → Shared → Prop} (T : Sit X c Fa C A env l L) (x : Str) (hx : c.fns[f]? = some x) (i : EvsOk X c C A env l L ρ ps) (ok : okEs c ps es = true) (h : Here X c env l L ρ s)
    (sp : Sp X RelV [] (env :: l) s Q E ((evs C ps ρ).bind fun ds => C f ds)) : wpAny (model X.prog X.w) A (callWith pos (.ref (Fa f)) [] (backTo pos (starEach es env)) []) Q E s := by
  obtain ⟨mg, mb, g, b, fn, gd, bt⟩ := T.G.names
  obtain ⟨_, o, fd, ho, hd⟩ := fn f x hx
  have main : wpAny (model X.prog X.w) A (spliced (backTo pos (starEach es env))) (fun vs s₁ => (s₁.heap.get? (Fa f) = some o ∧ o.data = .func fd) ∧ wpAny (model X.prog X.w) A (call (.ref (Fa f)) vs) Q E s₁) E s :=
    i es pos s _ E ok h (Sp.bind sp nilS fun ds vs s₁ o₁ r sp' => ⟨⟨o₁.2.h.get ho (fun vs q => by rw [hd] at q; cases q), hd⟩, T.call f vs ds s₁ Q E (h.step o₁).ff o₁.2 r sp'⟩)
  cases es with
  | nil =>
    cases ps with
    | cons p ps => cases ok
    | nil =>
      refine callWith_function (o := o) (fd := fd) (PyProof.Rows.evalArgs_none ⟨⟨h.w.h.get ho (fun vs q => by rw [hd] at q; cases q), hd⟩, ?_⟩)
      exact T.call f [] [] s Q E h.ff h.w .nil sp
  | cons e rest =>
    cases ps with
    | nil => cases ok
    | cons p ps =>
      have ok' := both (show (plainArg e && okE c p e && okEs c ps rest) = true from ok)
      rw [star_plain (both ok'.1).1] at main ⊢
      exact callWith_function (o := o) (fd := fd) (evalArgs_plain main)

theorem callWith_n1 {f : B1} {e : Expr} {pos : Pos} {s : Shared} {Q : Value → Shared → Prop} {E : Value → Shared → Prop} (main : ∀ ps : Pos, wpAny (model X.prog X.w) A (spliced (backTo ps (starEach [e] env))) (fun vs s₁ => wpAny (model X.prog X.w) A (call (nameOf1 f) vs) Q E s₁) E s) (hp : plainArg e = true) :
    wpAny (model X.prog X.w) A (callWith pos (nameOf1 f) [] (backTo pos (starEach [e] env)) []) Q E s := by
  match f, main with
  | .len, main => exact callWith_builtin1 (id := "len") (main _) (star_plain hp)
  | .str, main => exact PyProof.Rows.callWith_type1 (T := "str") (main _) (star_plain hp)
  | .int, main => exact PyProof.Rows.callWith_type1 (T := "int") (main _) (star_plain hp)
  | .abs, main => exact callWith_builtin1 (id := "abs") (main _) (star_plain hp)
  | .ord, main => exact callWith_builtin1 (id := "ord") (main _) (star_plain hp)
theorem callWith_n2 {f : B2} {e d : Expr} {pos : Pos} {s : Shared} {Q : Value → Shared → Prop} {E : Value → Shared → Prop} (main : ∀ ps : Pos, wpAny (model X.prog X.w) A (spliced (backTo ps (starEach [e, d] env))) (fun vs s₁ => wpAny (model X.prog X.w) A (call (nameOf2 f) vs) Q E s₁) E s) (hp : plainArg e = true) (hq : plainArg d = true) :
    wpAny (model X.prog X.w) A (callWith pos (nameOf2 f) [] (backTo pos (starEach [e, d] env)) []) Q E s := by
  match f, main with
  | .min, main => exact callWith_builtin1 (id := "min") (main _) (star_plain hp) (by rw [star_plain hq]; rfl)
  | .max, main => exact callWith_builtin1 (id := "max") (main _) (star_plain hp) (by rw [star_plain hq]; rfl)

theorem assocR {α β γ : Type} (r : R α) (f : α → R β) (g : β → R γ) : (r.bind f).bind g = r.bind fun x => (f x).bind g := by cases r <;> rfl

@[elab_as_elim] theorem inv_loc {P : Expr → Prop} {e : Expr} {i : Nat} (ok : okE c (.loc i) e = true) (k : ∀ x p, c.ns[i]? = some x → kindIs c x .local = true → P (.Name x p)) : P e := by
  obtain ⟨x, p, rfl, k0⟩ := onName_inv ok
  obtain ⟨k1, ok2⟩ := both k0
  have ok1 := beq_iff_eq.mp k1
  exact k x p ok1 ok2
@[elab_as_elim] theorem inv_bin {P : Expr → Prop} {e : Expr} {op : BOp} {a b : PE} (ok : okE c (.bin op a b) e = true) (k : ∀ l r p, okE c a l = true → okE c b r = true → P (.BinOp l (opOf op) r p)) : P e := by
  obtain ⟨_, o, _, _, rfl, k0⟩ := onBin_inv ok
  obtain ⟨k1, ok3⟩ := both k0
  obtain ⟨k2, ok2⟩ := both k1
  obtain rfl := beq_iff_eq.mp k2
  exact k _ _ _ ok2 ok3
@[elab_as_elim] theorem inv_neg {P : Expr → Prop} {e : Expr} {a : PE} (ok : okE c (.neg a) e = true) (k : ∀ x p, okE c a x = true → P (.UnaryOp .USub x p)) : P e := by
  obtain ⟨o, x, p, rfl, k0⟩ := onUn_inv ok
  obtain ⟨k1, ok2⟩ := both k0
  obtain rfl := isUSub_inv k1
  exact k _ _ ok2
@[elab_as_elim] theorem inv_not {P : Expr → Prop} {e : Expr} {a : PE} (ok : okE c (.not a) e = true) (k : ∀ x p, okE c a x = true → P (.UnaryOp .Not x p)) : P e := by
  obtain ⟨o, x, p, rfl, k0⟩ := onUn_inv ok
  obtain ⟨k1, ok2⟩ := both k0
  obtain rfl := isNot_inv k1
  exact k _ _ ok2
@[elab_as_elim] theorem inv_and {P : Expr → Prop} {e : Expr} {a b : PE} (ok : okE c (.and a b) e = true) (k : ∀ x y r p, okE c a x = true → okE c b (rest .And p y r) = true → P (.BoolOp .And (x :: y :: r) p)) : P e := by
  obtain ⟨o, xs, p, rfl, k0⟩ := onBoolOp_inv ok
  obtain ⟨k1, k2⟩ := both k0
  obtain rfl := isAnd_inv k1
  obtain ⟨x, y, r, rfl, k3⟩ := on2r_inv k2
  obtain ⟨ok1, ok2⟩ := both k3
  exact k _ _ _ _ ok1 ok2
@[elab_as_elim] theorem inv_or {P : Expr → Prop} {e : Expr} {a b : PE} (ok : okE c (.or a b) e = true) (k : ∀ x y r p, okE c a x = true → okE c b (rest .Or p y r) = true → P (.BoolOp .Or (x :: y :: r) p)) : P e := by
  obtain ⟨o, xs, p, rfl, k0⟩ := onBoolOp_inv ok
  obtain ⟨k1, k2⟩ := both k0
  obtain rfl := isOr_inv k1
  obtain ⟨x, y, r, rfl, k3⟩ := on2r_inv k2
  obtain ⟨ok1, ok2⟩ := both k3
  exact k _ _ _ _ ok1 ok2
@[elab_as_elim] theorem inv_ite {P : Expr → Prop} {e : Expr} {t a b : PE} (ok : okE c (.ite t a b) e = true) (k : ∀ x y z p, okE c t x = true → okE c a y = true → okE c b z = true → P (.IfExp x y z p)) : P e := by
  obtain ⟨x, y, z, p, rfl, k0⟩ := onIfE_inv ok
  obtain ⟨k1, ok3⟩ := both k0
  obtain ⟨ok1, ok2⟩ := both k1
  exact k _ _ _ _ ok1 ok2 ok3
@[elab_as_elim] theorem inv_tup {P : Expr → Prop} {e : Expr} {es : List PE} (ok : okE c (.tup es) e = true) (k : ∀ xs n p, okEs c es xs = true → xs.length ≤ 100 → P (.Tuple xs n p)) : P e := by
  obtain ⟨xs, n, p, rfl, k0⟩ := onTup_inv ok
  obtain ⟨ok1, k1⟩ := both k0
  have ok2 := of_decide_eq_true k1
  exact k _ _ _ ok1 ok2
@[elab_as_elim] theorem inv_lst {P : Expr → Prop} {e : Expr} {es : List PE} (ok : okE c (.lst es) e = true) (k : ∀ xs p, okEs c es xs = true → xs.length ≤ 100 → P (.List xs p)) : P e := by
  obtain ⟨xs, p, rfl, k0⟩ := onList_inv ok
  obtain ⟨ok1, k1⟩ := both k0
  have ok2 := of_decide_eq_true k1
  exact k _ _ ok1 ok2
@[elab_as_elim] theorem inv_cmp {P : Expr → Prop} {e : Expr} {op : COp} {a b : PE} (ok : okE c (.cmp op a b) e = true) (k : ∀ l r p, behindInMarks (cmpOf op) r = false → okE c a l = true → okE c b r = true → P (.Compare l [cmpOf op] [r] p)) : P e := by
  obtain ⟨l', os, rs, p, rfl, k0⟩ := onCmp_inv ok
  obtain ⟨o, rfl, k1⟩ := on1_inv k0
  obtain ⟨r, rfl, k2⟩ := on1_inv k1
  obtain ⟨k3, ok4⟩ := both k2
  obtain ⟨k4, ok3⟩ := both k3
  obtain ⟨k5, k6⟩ := both k4
  obtain rfl := beq_iff_eq.mp k5
  have ok2 := notT k6
  exact k _ _ _ ok2 ok3 ok4
@[elab_as_elim] theorem inv_chain {P : Expr → Prop} {e : Expr} {o₁ o₂ : COp} {a b d : PE} (ok : okE c (.chain o₁ o₂ a b d) e = true) (k : ∀ l r t p, behindInMarks (cmpOf o₂) t = false → okE c a l = true → okE c b r = true → okE c d t = true → P (.Compare l [cmpOf o₁, cmpOf o₂] [r, t] p)) : P e := by
  obtain ⟨l', os, rs, p, rfl, k0⟩ := onCmp_inv ok
  obtain ⟨p1, p2, rfl, k1⟩ := on2_inv k0
  obtain ⟨r1, r2, rfl, k2⟩ := on2_inv k1
  obtain ⟨k3, ok6⟩ := both k2
  obtain ⟨k4, ok5⟩ := both k3
  obtain ⟨k5, ok4⟩ := both k4
  obtain ⟨k6, k7⟩ := both k5
  obtain ⟨k8, k9⟩ := both k6
  obtain rfl := beq_iff_eq.mp k8
  obtain rfl := beq_iff_eq.mp k9
  have ok3 := notT k7
  exact k _ _ _ _ ok3 ok4 ok5 ok6
@[elab_as_elim] theorem inv_isNone {P : Expr → Prop} {e : Expr} {a : PE} (ok : okE c (.isNone a) e = true) (k : ∀ l n q p, okE c a l = true → P (.Compare l [.Is] [.Constant .none n q] p)) : P e := by
  obtain ⟨l', os, rs, p, rfl, k0⟩ := onCmp_inv ok
  obtain ⟨k1, ok2⟩ := both k0
  obtain ⟨k2, k3⟩ := both k1
  obtain ⟨o, rfl, k4⟩ := on1_inv k2
  obtain rfl := isIs_inv k4
  obtain ⟨r, rfl, k5⟩ := on1_inv k3
  obtain ⟨n, q, rfl⟩ := isNoneC_inv k5
  exact k _ _ _ _ ok2
@[elab_as_elim] theorem inv_isNotNone {P : Expr → Prop} {e : Expr} {a : PE} (ok : okE c (.isNotNone a) e = true) (k : ∀ l n q p, okE c a l = true → P (.Compare l [.IsNot] [.Constant .none n q] p)) : P e := by
  obtain ⟨l', os, rs, p, rfl, k0⟩ := onCmp_inv ok
  obtain ⟨k1, ok2⟩ := both k0
  obtain ⟨k2, k3⟩ := both k1
  obtain ⟨o, rfl, k4⟩ := on1_inv k2
  obtain rfl := isIsNot_inv k4
  obtain ⟨r, rfl, k5⟩ := on1_inv k3
  obtain ⟨n, q, rfl⟩ := isNoneC_inv k5
  exact k _ _ _ _ ok2
@[elab_as_elim] theorem inv_typeIs {P : Expr → Prop} {e : Expr} {a : PE} {t : Ty} (ok : okE c (.typeIs a t) e = true) (k : ∀ f fp x cp g gp p, isBt c f (.type "type") = true → plainArg x = true → okE c a x = true → isBt c g (tyValue t) = true → P (.Compare (.Call (.Name f fp) [x] [] cp) [.Is] [.Name g gp] p)) : P e := by
  obtain ⟨l', os, rs, p, rfl, k0⟩ := onCmp_inv ok
  obtain ⟨k1, k2⟩ := both k0
  obtain ⟨k3, k4⟩ := both k1
  obtain ⟨o, rfl, k5⟩ := on1_inv k3
  obtain rfl := isIs_inv k5
  obtain ⟨r, rfl, k6⟩ := on1_inv k4
  obtain ⟨g, gp, rfl, ok4⟩ := onName_inv k6
  obtain ⟨f, fp, x, cp, rfl, ok1, ok2, ok3⟩ := isTyC_inv k2
  exact k _ _ _ _ _ _ _ ok1 ok2 ok3 ok4
@[elab_as_elim] theorem inv_idx {P : Expr → Prop} {e : Expr} {a i : PE} (ok : okE c (.idx a i) e = true) (k : ∀ v u p, noSlice u = true → okE c a v = true → okE c i u = true → P (.Subscript v u p)) : P e := by
  obtain ⟨v', s', p, rfl, k0⟩ := onSub_inv ok
  obtain ⟨k1, ok3⟩ := both k0
  obtain ⟨ok1, ok2⟩ := both k1
  exact k _ _ _ ok1 ok2 ok3
@[elab_as_elim] theorem inv_sliceTo {P : Expr → Prop} {e : Expr} {a hi : PE} (ok : okE c (.sliceTo a hi) e = true) (k : ∀ v u q p, okE c a v = true → okE c hi u = true → P (.Subscript v (.Slice none (some u) none q) p)) : P e := by
  obtain ⟨v', s', p, rfl, k0⟩ := onSub_inv ok
  obtain ⟨x, y, z, q, rfl, k1⟩ := onSlice_inv k0
  obtain ⟨k2, k3⟩ := both k1
  obtain ⟨k4, k5⟩ := both k2
  obtain rfl := onNone_inv k4
  obtain rfl := onNone_inv k5
  obtain ⟨u', rfl, k6⟩ := onSome_inv k3
  obtain ⟨ok1, ok2⟩ := both k6
  exact k _ _ _ _ ok1 ok2
@[elab_as_elim] theorem inv_sliceFrom {P : Expr → Prop} {e : Expr} {a lo : PE} (ok : okE c (.sliceFrom a lo) e = true) (k : ∀ v u q p, okE c a v = true → okE c lo u = true → P (.Subscript v (.Slice (some u) none none q) p)) : P e := by
  obtain ⟨v', s', p, rfl, k0⟩ := onSub_inv ok
  obtain ⟨x, y, z, q, rfl, k1⟩ := onSlice_inv k0
  obtain ⟨k2, k3⟩ := both k1
  obtain ⟨k4, k5⟩ := both k2
  obtain rfl := onNone_inv k4
  obtain rfl := onNone_inv k5
  obtain ⟨u', rfl, k6⟩ := onSome_inv k3
  obtain ⟨ok1, ok2⟩ := both k6
  exact k _ _ _ _ ok1 ok2
@[elab_as_elim] theorem inv_slice {P : Expr → Prop} {e : Expr} {a lo hi : PE} (ok : okE c (.slice a lo hi) e = true) (k : ∀ v u t q p, okE c a v = true → okE c lo u = true → okE c hi t = true → P (.Subscript v (.Slice (some u) (some t) none q) p)) : P e := by
  obtain ⟨v', s', p, rfl, k0⟩ := onSub_inv ok
  obtain ⟨x, y, z, q, rfl, k1⟩ := onSlice_inv k0
  obtain ⟨k2, k3⟩ := both k1
  obtain rfl := onNone_inv k2
  obtain ⟨u', rfl, k4⟩ := onSome_inv k3
  obtain ⟨t', rfl, k5⟩ := onSome_inv k4
  obtain ⟨k6, ok3⟩ := both k5
  obtain ⟨ok1, ok2⟩ := both k6
  exact k _ _ _ _ _ ok1 ok2 ok3
@[elab_as_elim] theorem inv_call {P : Expr → Prop} {e : Expr} {f : Nat} {args : List PE} (ok : okE c (.call f args) e = true) (k : ∀ x xp xs p, c.fns[f]? = some x → kindIs c x .globalImplicit = true → okEs c args xs = true → P (.Call (.Name x xp) xs [] p)) : P e := by
  obtain ⟨g, xs, ks, p, rfl, k0⟩ := onCall_inv ok
  obtain ⟨k1, ok3⟩ := both k0
  obtain ⟨k2, k3⟩ := both k1
  obtain ⟨x, xp, rfl, k4⟩ := onName_inv k2
  obtain rfl := on0_inv k3
  obtain ⟨k5, ok2⟩ := both k4
  have ok1 := beq_iff_eq.mp k5
  exact k _ _ _ _ ok1 ok2 ok3
@[elab_as_elim] theorem inv_b1 {P : Expr → Prop} {e : Expr} {f : B1} {a : PE} (ok : okE c (.b1 f a) e = true) (k : ∀ x xp y p, isBt c x (nameOf1 f) = true → plainArg y = true → okE c a y = true → P (.Call (.Name x xp) [y] [] p)) : P e := by
  obtain ⟨g, xs, ks, p, rfl, k0⟩ := onCall_inv ok
  obtain ⟨k1, k9⟩ := both k0
  obtain ⟨k2, k3⟩ := both k1
  obtain ⟨x, xp, rfl, ok1⟩ := onName_inv k2
  obtain rfl := on0_inv k3
  obtain ⟨y, rfl, k4⟩ := on1_inv k9
  obtain ⟨ok2, ok3⟩ := both k4
  exact k _ _ _ _ ok1 ok2 ok3
@[elab_as_elim] theorem inv_b2 {P : Expr → Prop} {e : Expr} {f : B2} {a b : PE} (ok : okE c (.b2 f a b) e = true) (k : ∀ x xp y z p, isBt c x (nameOf2 f) = true → plainArg y = true → plainArg z = true → okE c a y = true → okE c b z = true → P (.Call (.Name x xp) [y, z] [] p)) : P e := by
  obtain ⟨g, xs, ks, p, rfl, k0⟩ := onCall_inv ok
  obtain ⟨k1, k9⟩ := both k0
  obtain ⟨k2, k3⟩ := both k1
  obtain ⟨x, xp, rfl, ok1⟩ := onName_inv k2
  obtain rfl := on0_inv k3
  obtain ⟨y, z, rfl, k4⟩ := on2_inv k9
  obtain ⟨k5, ok5⟩ := both k4
  obtain ⟨k6, ok4⟩ := both k5
  obtain ⟨ok2, ok3⟩ := both k6
  exact k _ _ _ _ _ ok1 ok2 ok3 ok4 ok5
@[elab_as_elim] theorem inv_rstrip {P : Expr → Prop} {e : Expr} {a b : PE} (ok : okE c (.rstrip a b) e = true) (k : ∀ o ap y p, isStrC b = true → noSuper o = true → (ap.endLine == p.line) = true → plainArg y = true → okE c a o = true → okE c b y = true → P (.Call (.Attribute o ("rstrip" : Str) ap) [y] [] p)) : P e := by
  obtain ⟨g, xs, ks, p, rfl, k0⟩ := onCall_inv ok
  obtain ⟨k1, k2⟩ := both k0
  obtain ⟨k3, k4⟩ := both k1
  obtain ⟨k5, ok0⟩ := both k3
  obtain rfl := on0_inv k5
  obtain ⟨o, n, ap, rfl, k6⟩ := onAttr_inv k4
  obtain ⟨k7, ok5⟩ := both k6
  obtain ⟨k8, ok3⟩ := both k7
  obtain ⟨k9, ok2⟩ := both k8
  obtain rfl := beq_iff_eq.mp k9
  obtain ⟨y, rfl, k10⟩ := on1_inv k2
  obtain ⟨ok4, ok6⟩ := both k10
  exact k _ _ _ _ ok0 ok2 ok3 ok4 ok5 ok6
set_option maxHeartbeats 1000000 in
mutual
theorem sound (T : Sit X c Fa C A env l L) : ∀ p : PE, EvOk X c C A env l L ρ p ∧ TestOk X c C A env l L ρ p
  | .loc i => by
    have I : EvOk X c C A env l L ρ (.loc i) := fun e s Q E ok h sp => by
      refine inv_loc ok fun x p ok1 ok2 => ?_
      exact load_local T h ok1 ok2 sp
    refine ⟨I, fun e s Q E ok h sp => test_plain ?_ I ok h sp⟩
    exact inv_loc ok fun _ _ _ _ => rfl
  | .cst d => by
    have I : EvOk X c C A env l L ρ (.cst d) := fun e s Q E ok h sp => by
      rcases either ok with q | q
      · obtain ⟨k, n, p, rfl, k0⟩ := onConst_inv q
        exact const_sound h.w k0 sp
      · obtain ⟨x, p, rfl, k0⟩ := onName_inv q
        obtain ⟨ok1, ok2⟩ := both k0
        obtain ⟨d', e', k1⟩ := onSome_inv ok2
        rw [dEq_eq k1] at e'
        exact load_gl T h.w e' ok1 sp
    refine ⟨I, fun e s Q E ok h sp => test_plain ?_ I ok h sp⟩
    rcases either ok with q | q
    · obtain ⟨k, n, p, rfl, k0⟩ := onConst_inv q
      rfl
    · obtain ⟨x, p, rfl, k0⟩ := onName_inv q
      rfl
  | .bin op a b => by
    have ia := (sound T a).1
    have ib := (sound T b).1
    have I : EvOk X c C A env l L ρ (.bin op a b) := fun e s Q E ok h sp => by
      refine inv_bin ok fun l r p ok2 ok3 => ?_
      exact wpAny_BinOp (ia _ _ _ _ ok2 h (Sp.bind sp nilS fun x v s₁ o₁ r₁ sp₁ => ib _ _ _ _ ok3 (h.step o₁) (Sp.bind sp₁ nilS fun y u s₂ o₂ r₂ sp₂ => binop_sound o₂.2 (r₁.xt o₂.1) r₂ sp₂)))
    refine ⟨I, fun e s Q E ok h sp => test_plain ?_ I ok h sp⟩
    exact inv_bin ok fun _ _ _ _ _ => rfl
  | .neg a => by
    have ia := (sound T a).1
    have I : EvOk X c C A env l L ρ (.neg a) := fun e s Q E ok h sp => by
      refine inv_neg ok fun x p ok2 => ?_
      refine UnaryOp_ (ia _ _ _ _ ok2 h (Sp.bind sp nilS fun x v s₁ o₁ r₁ sp₁ => ?_))
      cases r₁ with
      | int i t => exact PyProof.Rows.neg_int (sp_int o₁.2 (Nat.le_succ _) sp₁)
      | _ => exact sp₁.elim
    refine ⟨I, fun e s Q E ok h sp => test_plain ?_ I ok h sp⟩
    exact inv_neg ok fun _ _ _ => rfl
  | .not a => by
    have ia := (sound T a).1
    have ta := (sound T a).2
    refine ⟨fun e s Q E ok h sp => ?_, fun e s Q E ok h sp => ?_⟩
    · refine inv_not ok fun x p ok2 => ?_
      exact UnaryOp_ (ia _ _ _ _ ok2 h (Sp.bind sp nilS fun x v s₁ o₁ r₁ sp₁ => not_of (truthy_sound o₁.2 r₁ (Sp.bind sp₁ nilS fun t t' s₂ o₂ r₂ sp₂ => by cases r₂; exact sp_bool o₂.2 sp₂))))
    · refine inv_not ok fun x p ok2 => ?_
      refine isTrue_not (ta _ _ _ _ ok2 h ?_)
      simp only [evE_loc, evE_cst, evE_bin, evE_neg, evE_not, evE_and, evE_or, evE_ite, evE_tup, evE_lst, evE_cmp, evE_chain, evE_isNone, evE_isNotNone, evE_typeIs, evE_idx, evE_sliceTo, evE_sliceFrom, evE_slice, evE_call, evE_b1, evE_b2, evE_join, evE_rstrip, evE_replace, evE_dget, evE_all, evE_anyZip] at sp
      revert sp
      cases ev C a ρ with
      | ok x =>
        simp only [R.bind_ok]
        cases truthy x with
        | ok b => exact fun sp v s' o r => by cases r; exact sp _ _ o rfl
        | exc b => exact fun sp => spExc sp
        | stuck => exact fun sp => sp
      | exc b => exact fun sp => spExc sp
      | stuck => exact fun sp => sp
  | .and a b => by
    have ia := (sound T a).1
    have ta := (sound T a).2
    have ib := (sound T b).1
    have tb := (sound T b).2
    refine ⟨fun e s Q E ok h sp => ?_, fun e s Q E ok h sp => ?_⟩
    · refine inv_and ok fun x y r p ok1 ok2 => ?_
      refine BoolOp_and (ia _ _ _ _ ok1 h (Sp.bind sp nilS fun d v s₁ o₁ r₁ sp₁ => truthy_sound o₁.2 r₁ (Sp.bind sp₁ nilS fun t t' s₂ o₂ r₂ sp₂ => ?_)))
      cases r₂
      cases t with
      | true =>
        simp only [if_true]
        cases r with
        | nil => exact BoolOp_one (ib _ _ _ _ ok2 ((h.step o₁).step o₂) sp₂)
        | cons z q => exact ib _ _ _ _ ok2 ((h.step o₁).step o₂) sp₂
      | false => exact sp₂ _ _ (Ok.refl o₂.2) (r₁.xt o₂.1)
    · refine inv_and ok fun x y r p ok1 ok2 => ?_
      refine isTrue_and (ta _ _ _ _ ok1 h ?_)
      simp only [evE_loc, evE_cst, evE_bin, evE_neg, evE_not, evE_and, evE_or, evE_ite, evE_tup, evE_lst, evE_cmp, evE_chain, evE_isNone, evE_isNotNone, evE_typeIs, evE_idx, evE_sliceTo, evE_sliceFrom, evE_slice, evE_call, evE_b1, evE_b2, evE_join, evE_rstrip, evE_replace, evE_dget, evE_all, evE_anyZip] at sp
      revert sp
      cases ev C a ρ with
      | ok d =>
        simp only [R.bind_ok]
        cases hd : truthy d with
        | ok t =>
          simp only [R.bind_ok]
          intro sp v s₁ o₁ r₁
          cases r₁
          cases t with
          | true =>
            simp only [if_true]
            have sp' := Sp.pre sp o₁ nilS
            cases r with
            | nil => exact isTrue_and (tb _ _ _ _ ok2 (h.step o₁) ((fun (q : Sp X RelB [] (env :: l) s₁ Q E ((ev C b ρ).bind truthy)) => by
                revert q
                generalize (ev C b ρ).bind truthy = z
                cases z with
                | ok t => intro q v s' o e; cases e; cases t with
                  | true => exact isTrue_and_nil (q _ _ o rfl)
                  | false => exact q _ _ o rfl
                | exc b => exact fun q => spExc q
                | stuck => exact fun q => q) sp'))
            | cons z q => exact tb _ _ _ _ ok2 (h.step o₁) sp'
          | false =>
            have hd' : d = .bool false := by
              unfold truthy at hd; split at hd
              · cases hd; rfl
              · cases hd
            subst hd'
            exact sp _ _ o₁ rfl
        | exc b => exact fun sp => spExc sp
        | stuck => exact fun sp => sp
      | exc b => exact fun sp => spExc sp
      | stuck => exact fun sp => sp
  | .or a b => by
    have ia := (sound T a).1
    have ta := (sound T a).2
    have ib := (sound T b).1
    have tb := (sound T b).2
    refine ⟨fun e s Q E ok h sp => ?_, fun e s Q E ok h sp => ?_⟩
    · refine inv_or ok fun x y r p ok1 ok2 => ?_
      refine BoolOp_or (ia _ _ _ _ ok1 h (Sp.bind sp nilS fun d v s₁ o₁ r₁ sp₁ => truthy_sound o₁.2 r₁ (Sp.bind sp₁ nilS fun t t' s₂ o₂ r₂ sp₂ => ?_)))
      cases r₂
      cases t with
      | false =>
        simp only [Bool.false_eq_true, if_false]
        cases r with
        | nil => exact BoolOp_one (ib _ _ _ _ ok2 ((h.step o₁).step o₂) sp₂)
        | cons z q => exact ib _ _ _ _ ok2 ((h.step o₁).step o₂) sp₂
      | true => exact sp₂ _ _ (Ok.refl o₂.2) (r₁.xt o₂.1)
    · refine inv_or ok fun x y r p ok1 ok2 => ?_
      refine isTrue_or (ta _ _ _ _ ok1 h ?_)
      simp only [evE_loc, evE_cst, evE_bin, evE_neg, evE_not, evE_and, evE_or, evE_ite, evE_tup, evE_lst, evE_cmp, evE_chain, evE_isNone, evE_isNotNone, evE_typeIs, evE_idx, evE_sliceTo, evE_sliceFrom, evE_slice, evE_call, evE_b1, evE_b2, evE_join, evE_rstrip, evE_replace, evE_dget, evE_all, evE_anyZip] at sp
      revert sp
      cases ev C a ρ with
      | ok d =>
        simp only [R.bind_ok]
        cases hd : truthy d with
        | ok t =>
          simp only [R.bind_ok]
          intro sp v s₁ o₁ r₁
          cases r₁
          cases t with
          | false =>
            simp only [Bool.false_eq_true, if_false]
            have sp' := Sp.pre sp o₁ nilS
            cases r with
            | nil => exact isTrue_or (tb _ _ _ _ ok2 (h.step o₁) ((fun (q : Sp X RelB [] (env :: l) s₁ Q E ((ev C b ρ).bind truthy)) => by
                revert q
                generalize (ev C b ρ).bind truthy = z
                cases z with
                | ok t => intro q v s' o e; cases e; cases t with
                  | true => exact q _ _ o rfl
                  | false => exact isTrue_or_nil (q _ _ o rfl)
                | exc b => exact fun q => spExc q
                | stuck => exact fun q => q) sp'))
            | cons z q => exact tb _ _ _ _ ok2 (h.step o₁) sp'
          | true =>
            have hd' : d = .bool true := by
              unfold truthy at hd; split at hd
              · cases hd; rfl
              · cases hd
            subst hd'
            exact sp _ _ o₁ rfl
        | exc b => exact fun sp => spExc sp
        | stuck => exact fun sp => sp
      | exc b => exact fun sp => spExc sp
      | stuck => exact fun sp => sp
  | .ite t a b => by
    have tt := (sound T t).2
    have ia := (sound T a).1
    have ib := (sound T b).1
    have ta := (sound T a).2
    have tb := (sound T b).2
    have assoc : ∀ {α β γ : Type} (r : R α) (f : α → R β) (g : β → R γ), (r.bind f).bind g = r.bind fun x => (f x).bind g := fun r f g => by cases r <;> rfl
    refine ⟨fun e s Q E ok h sp => ?_, fun e s Q E ok h sp => ?_⟩
    · refine inv_ite ok fun x y z p ok1 ok2 ok3 => ?_
      simp only [evE_loc, evE_cst, evE_bin, evE_neg, evE_not, evE_and, evE_or, evE_ite, evE_tup, evE_lst, evE_cmp, evE_chain, evE_isNone, evE_isNotNone, evE_typeIs, evE_idx, evE_sliceTo, evE_sliceFrom, evE_slice, evE_call, evE_b1, evE_b2, evE_join, evE_rstrip, evE_replace, evE_dget, evE_all, evE_anyZip] at sp
      rw [← assoc] at sp
      refine wpAny_IfExp (tt _ _ _ _ ok1 h (Sp.bind sp nilS fun x v s₁ o₁ r₁ sp₁ => ?_))
      cases r₁
      cases x with
      | true => simp only [if_true]; exact ia _ _ _ _ ok2 (h.step o₁) sp₁
      | false => simp only [Bool.false_eq_true, if_false]; exact ib _ _ _ _ ok3 (h.step o₁) sp₁
    · refine inv_ite ok fun x y z p ok1 ok2 ok3 => ?_
      simp only [evE_loc, evE_cst, evE_bin, evE_neg, evE_not, evE_and, evE_or, evE_ite, evE_tup, evE_lst, evE_cmp, evE_chain, evE_isNone, evE_isNotNone, evE_typeIs, evE_idx, evE_sliceTo, evE_sliceFrom, evE_slice, evE_call, evE_b1, evE_b2, evE_join, evE_rstrip, evE_replace, evE_dget, evE_all, evE_anyZip] at sp
      rw [← assoc, assoc] at sp
      refine isTrue_IfExp (tt _ _ _ _ ok1 h (Sp.bind sp nilS fun x v s₁ o₁ r₁ sp₁ => ?_))
      cases r₁
      cases x with
      | true => simp only [if_true]; exact ta _ _ _ _ ok2 (h.step o₁) sp₁
      | false => simp only [Bool.false_eq_true, if_false]; exact tb _ _ _ _ ok3 (h.step o₁) sp₁
  | .tup es => by
    have is := sounds T es
    have I : EvOk X c C A env l L ρ (.tup es) := fun e s Q E ok h sp => by
      refine inv_tup ok fun xs n p ok1 ok2 => ?_
      refine wpAny_Tuple (is _ _ _ _ _ ok1 h (Sp.bindE sp nilS fun ds vs s₁ e₁ o₁ r₁ sp₁ => ?_))
      have hl := okEs_length ok1
      have hl2 := r₁.length
      have hl3 := evs_length e₁
      exact ⟨by rw [sizeLine_limit]; unfold limit; lia, tuple_new o₁.2 (by first | assumption | exact Nat.le_add_left _ _ | decide | lia) r₁ sp₁⟩
    refine ⟨I, fun e s Q E ok h sp => test_plain ?_ I ok h sp⟩
    exact inv_tup ok fun _ _ _ _ _ => rfl
  | .lst es => by
    have is := sounds T es
    have I : EvOk X c C A env l L ρ (.lst es) := fun e s Q E ok h sp => by
      refine inv_lst ok fun xs p ok1 ok2 => ?_
      refine wpAny_List (is _ _ _ _ _ ok1 h (Sp.bindE sp nilS fun ds vs s₁ e₁ o₁ r₁ sp₁ => ?_))
      have hl := okEs_length ok1
      have hl2 := r₁.length
      have hl3 := evs_length e₁
      exact ⟨by rw [sizeLine_limit]; unfold limit; lia, list_new o₁.2 (by first | assumption | exact Nat.le_add_left _ _ | decide | lia) r₁ sp₁⟩
    refine ⟨I, fun e s Q E ok h sp => test_plain ?_ I ok h sp⟩
    exact inv_lst ok fun _ _ _ _ => rfl
  | .cmp op a b => by
    have ia := (sound T a).1
    have ib := (sound T b).1
    have hu : A.units + 70 < cLine := Nat.lt_of_le_of_lt (by first | assumption | exact Nat.le_add_left _ _ | decide | lia) T.units
    refine ⟨fun e s Q E ok h sp => ?_, fun e s Q E ok h sp => ?_⟩
    · refine inv_cmp ok fun l r p ok2 ok3 ok4 => ?_
      exact wpAny_Compare1 (ia _ _ _ _ ok3 h (Sp.bind sp nilS fun x v s₁ o₁ r₁ sp₁ => ib _ _ _ _ ok4 (h.step o₁) (Sp.bind sp₁ nilS fun y u s₂ o₂ r₂ sp₂ => cmpop_sound o₂.2 (r₁.xt o₂.1) r₂ hu sp₂))) ok2
    · refine inv_cmp ok fun l r p ok2 ok3 ok4 => ?_
      simp only [evE_loc, evE_cst, evE_bin, evE_neg, evE_not, evE_and, evE_or, evE_ite, evE_tup, evE_lst, evE_cmp, evE_chain, evE_isNone, evE_isNotNone, evE_typeIs, evE_idx, evE_sliceTo, evE_sliceFrom, evE_slice, evE_call, evE_b1, evE_b2, evE_join, evE_rstrip, evE_replace, evE_dget, evE_all, evE_anyZip] at sp
      rw [assocR] at sp
      refine wpAny_isTrue_Compare1 (ia _ _ _ _ ok3 h (Sp.bind sp nilS fun x v s₁ o₁ r₁ sp₁ => ?_)) ok2
      rw [assocR] at sp₁
      refine ib _ _ _ _ ok4 (h.step o₁) (Sp.bind sp₁ nilS fun y u s₂ o₂ r₂ sp₂ => cmpop_sound o₂.2 (r₁.xt o₂.1) r₂ hu (Sp.bind sp₂ nilS fun z w s₃ o₃ r₃ sp₃ => truthy_sound o₃.2 r₃ sp₃))
  | .chain o₁ o₂ a b d => by
    have ia := (sound T a).1
    have ib := (sound T b).1
    have id := (sound T d).1
    have hu : A.units + 70 < cLine := Nat.lt_of_le_of_lt (by first | assumption | exact Nat.le_add_left _ _ | decide | lia) T.units
    refine ⟨fun e s Q E ok h sp => ?_, fun e s Q E ok h sp => ?_⟩
    · refine inv_chain ok fun l r t p ok3 ok4 ok5 ok6 => ?_
      refine Compare_chain (ia _ _ _ _ ok4 h (Sp.bind sp nilS fun x v s₁ o₁ r₁ sp₁ => chain_link (ib _ _ _ _ ok5 (h.step o₁) (Sp.bind sp₁ nilS fun y u s₂ o₂ r₂ sp₂ => cmpop_sound o₂.2 (r₁.xt o₂.1) r₂ hu
        (Sp.bind sp₂ nilS fun z w s₃ o₃ r₃ sp₃ => truthy_sound o₃.2 r₃ (Sp.bind sp₃ nilS fun t t' s₄ o₄ r₄ sp₄ => ?_)))))) (by simpa [lastMarks] using ok3)
      cases r₄
      cases t with
      | true =>
        simp only [if_true]
        exact chain_last (id _ _ _ _ ok6 ((((h.step o₁).step o₂).step o₃).step o₄) (Sp.bind sp₄ nilS fun k kv s₅ o₅ r₅ sp₅ => cmpop_sound o₅.2 (((r₂.xt o₃.1).xt o₄.1).xt o₅.1) r₅ hu sp₅))
      | false => exact sp₄ _ _ (Ok.refl o₄.2) (r₃.xt o₄.1)
    · refine inv_chain ok fun l r t p ok3 ok4 ok5 ok6 => ?_
      simp only [evE_loc, evE_cst, evE_bin, evE_neg, evE_not, evE_and, evE_or, evE_ite, evE_tup, evE_lst, evE_cmp, evE_chain, evE_isNone, evE_isNotNone, evE_typeIs, evE_idx, evE_sliceTo, evE_sliceFrom, evE_slice, evE_call, evE_b1, evE_b2, evE_join, evE_rstrip, evE_replace, evE_dget, evE_all, evE_anyZip, assocR] at sp
      refine isTrue_chain (ia _ _ _ _ ok4 h (Sp.bind sp nilS fun x v s₁ o₁ r₁ sp₁ => test_link (ib _ _ _ _ ok5 (h.step o₁) (Sp.bind sp₁ nilS fun y u s₂ o₂ r₂ sp₂ => cmpop_sound o₂.2 (r₁.xt o₂.1) r₂ hu
        (Sp.bind sp₂ nilS fun z w s₃ o₃ r₃ sp₃ => truthy_sound o₃.2 r₃ (Sp.bindE sp₃ nilS fun t t' s₄ et o₄ r₄ sp₄ => ?_)))))) (by simpa [lastMarks] using ok3)
      cases r₄
      cases t with
      | true =>
        simp only [if_true]
        rw [assocR] at sp₄
        exact test_last (id _ _ _ _ ok6 ((((h.step o₁).step o₂).step o₃).step o₄) (Sp.bind sp₄ nilS fun k kv s₅ o₅ r₅ sp₅ => cmpop_sound o₅.2 (((r₂.xt o₃.1).xt o₄.1).xt o₅.1) r₅ hu (Sp.bind sp₅ nilS fun z' w' s₆ o₆ r₆ sp₆ => truthy_sound o₆.2 r₆ sp₆)))
      | false =>
        have hz : z = .bool false := by
          unfold truthy at et; split at et
          · cases et; rfl
          · cases et
        subst hz
        exact sp₄ _ _ (Ok.refl o₄.2) rfl
  | .isNone a => by
    have ia := (sound T a).1
    refine ⟨fun e s Q E ok h sp => ?_, fun e s Q E ok h sp => ?_⟩
    · refine inv_isNone ok fun l n q p ok2 => ?_
      refine wpAny_Compare1 (ia _ _ _ _ ok2 h (Sp.bind sp nilS fun x v s₁ o₁ r₁ sp₁ => wpAny_Constant_none (is_none ?_))) rfl
      rw [ofNone r₁]
      revert sp₁
      cases x <;> exact fun sp₁ => sp_bool o₁.2 sp₁
    · refine inv_isNone ok fun l n q p ok2 => ?_
      simp only [evE_loc, evE_cst, evE_bin, evE_neg, evE_not, evE_and, evE_or, evE_ite, evE_tup, evE_lst, evE_cmp, evE_chain, evE_isNone, evE_isNotNone, evE_typeIs, evE_idx, evE_sliceTo, evE_sliceFrom, evE_slice, evE_call, evE_b1, evE_b2, evE_join, evE_rstrip, evE_replace, evE_dget, evE_all, evE_anyZip] at sp
      rw [assocR] at sp
      refine wpAny_isTrue_Compare1 (ia _ _ _ _ ok2 h (Sp.bind sp nilS fun x v s₁ o₁ r₁ sp₁ => wpAny_Constant_none (is_none ?_))) rfl
      rw [ofNone r₁]
      revert sp₁
      cases x <;> exact fun sp₁ => wpAny_truthy_bool (sp₁ _ _ (Ok.refl o₁.2) rfl)
  | .isNotNone a => by
    have ia := (sound T a).1
    refine ⟨fun e s Q E ok h sp => ?_, fun e s Q E ok h sp => ?_⟩
    · refine inv_isNotNone ok fun l n q p ok2 => ?_
      refine wpAny_Compare1 (ia _ _ _ _ ok2 h (Sp.bind sp nilS fun x v s₁ o₁ r₁ sp₁ => wpAny_Constant_none (isNot_none ?_))) rfl
      rw [ofNone r₁]
      revert sp₁
      cases x <;> exact fun sp₁ => sp_bool o₁.2 sp₁
    · refine inv_isNotNone ok fun l n q p ok2 => ?_
      simp only [evE_loc, evE_cst, evE_bin, evE_neg, evE_not, evE_and, evE_or, evE_ite, evE_tup, evE_lst, evE_cmp, evE_chain, evE_isNone, evE_isNotNone, evE_typeIs, evE_idx, evE_sliceTo, evE_sliceFrom, evE_slice, evE_call, evE_b1, evE_b2, evE_join, evE_rstrip, evE_replace, evE_dget, evE_all, evE_anyZip] at sp
      rw [assocR] at sp
      refine wpAny_isTrue_Compare1 (ia _ _ _ _ ok2 h (Sp.bind sp nilS fun x v s₁ o₁ r₁ sp₁ => wpAny_Constant_none (isNot_none ?_))) rfl
      rw [ofNone r₁]
      revert sp₁
      cases x <;> exact fun sp₁ => wpAny_truthy_bool (sp₁ _ _ (Ok.refl o₁.2) rfl)
  | .typeIs a t => by
    have ia := (sound T a).1
    refine ⟨fun e s Q E ok h sp => ?_, fun e s Q E ok h sp => ?_⟩
    · refine inv_typeIs ok fun f fp x cp g gp p ok1 ok2 ok3 ok4 => ?_
      refine wpAny_Compare1 (Call_ (load_bt T h.w ok1 (PyProof.Rows.callWith_type1 (args_cons (ia _ _ _ _ ok3 h (Sp.bind sp nilS fun x v s₁ o₁ r₁ sp₁ => args_nil (typeCall_sound r₁ (load_bt T o₁.2 ok4 ?_)))) (star_plain ok2)) (star_plain ok2)))) rfl
      rw [typeIs_is]
      exact typeIs_sound r₁ (sp_bool o₁.2 sp₁)
    · refine inv_typeIs ok fun f fp x cp g gp p ok1 ok2 ok3 ok4 => ?_
      simp only [evE_loc, evE_cst, evE_bin, evE_neg, evE_not, evE_and, evE_or, evE_ite, evE_tup, evE_lst, evE_cmp, evE_chain, evE_isNone, evE_isNotNone, evE_typeIs, evE_idx, evE_sliceTo, evE_sliceFrom, evE_slice, evE_call, evE_b1, evE_b2, evE_join, evE_rstrip, evE_replace, evE_dget, evE_all, evE_anyZip] at sp
      rw [assocR] at sp
      refine wpAny_isTrue_Compare1 (Call_ (load_bt T h.w ok1 (PyProof.Rows.callWith_type1 (args_cons (ia _ _ _ _ ok3 h (Sp.bind sp nilS fun x v s₁ o₁ r₁ sp₁ => args_nil (typeCall_sound r₁ (load_bt T o₁.2 ok4 ?_)))) (star_plain ok2)) (star_plain ok2)))) rfl
      rw [typeIs_is]
      exact typeIs_sound r₁ (wpAny_truthy_bool (sp₁ _ _ (Ok.refl o₁.2) rfl))
  | .idx a i => by
    have ia := (sound T a).1
    have ii := (sound T i).1
    have I : EvOk X c C A env l L ρ (.idx a i) := fun e s Q E ok h sp => by
      refine inv_idx ok fun v u p ok1 ok2 ok3 => ?_
      exact Subscript_ (ia _ _ _ _ ok2 h (Sp.bind sp nilS fun x v s₁ o₁ r₁ sp₁ => ii _ _ _ _ ok3 (h.step o₁) (Sp.bind sp₁ nilS fun y u s₂ o₂ r₂ sp₂ => index_sound o₂.2 (r₁.xt o₂.1) r₂ ok1 sp₂)))
    refine ⟨I, fun e s Q E ok h sp => test_plain ?_ I ok h sp⟩
    exact inv_idx ok fun _ _ _ _ _ _ => rfl
  | .sliceTo a hi => by
    have ia := (sound T a).1
    have ii := (sound T hi).1
    have I : EvOk X c C A env l L ρ (.sliceTo a hi) := fun e s Q E ok h sp => by
      refine inv_sliceTo ok fun v u q p ok1 ok2 => ?_
      refine Subscript_ (ia _ _ _ _ ok1 h (Sp.bind sp nilS fun x v s₁ o₁ r₁ sp₁ => wpAny_Slice (wpAny_pure (ii _ _ _ _ ok2 (h.step o₁) (Sp.bind sp₁ nilS fun y u s₂ o₂ r₂ sp₂ => wpAny_pure ?_)))))
      cases r₂ with
      | int j t =>
        have hk : Ok X [] s₂ { s₂ with heap := s₂.heap.push { cls := .type "slice", data := .fields #[.none, .int j t, .none] } } := Ok.keeps o₂.2 (Nat.le_refl _) fun b o e => Heap.get?_push_of_some _ e
        exact slice_sound hk.2 ((r₁.xt o₂.1).xt hk.1) (Heap.IsSliceOf.new _ _ _ _) .none (.int j t) (Sp.pre sp₂ hk nilS)
      | _ => exact sp₂.elim
    refine ⟨I, fun e s Q E ok h sp => test_plain ?_ I ok h sp⟩
    exact inv_sliceTo ok fun _ _ _ _ _ _ => rfl
  | .sliceFrom a lo => by
    have ia := (sound T a).1
    have ii := (sound T lo).1
    have I : EvOk X c C A env l L ρ (.sliceFrom a lo) := fun e s Q E ok h sp => by
      refine inv_sliceFrom ok fun v u q p ok1 ok2 => ?_
      refine Subscript_ (ia _ _ _ _ ok1 h (Sp.bind sp nilS fun x v s₁ o₁ r₁ sp₁ => wpAny_Slice (ii _ _ _ _ ok2 (h.step o₁) (Sp.bind sp₁ nilS fun y u s₂ o₂ r₂ sp₂ => wpAny_pure (wpAny_pure ?_)))))
      cases r₂ with
      | int j t =>
        have hk : Ok X [] s₂ { s₂ with heap := s₂.heap.push { cls := .type "slice", data := .fields #[.int j t, .none, .none] } } := Ok.keeps o₂.2 (Nat.le_refl _) fun b o e => Heap.get?_push_of_some _ e
        exact slice_sound hk.2 ((r₁.xt o₂.1).xt hk.1) (Heap.IsSliceOf.new _ _ _ _) (.int j t) .none (Sp.pre sp₂ hk nilS)
      | _ => exact sp₂.elim
    refine ⟨I, fun e s Q E ok h sp => test_plain ?_ I ok h sp⟩
    exact inv_sliceFrom ok fun _ _ _ _ _ _ => rfl
  | .slice a lo hi => by
    have ia := (sound T a).1
    have ii := (sound T lo).1
    have ih := (sound T hi).1
    have I : EvOk X c C A env l L ρ (.slice a lo hi) := fun e s Q E ok h sp => by
      refine inv_slice ok fun v u t q p ok1 ok2 ok3 => ?_
      refine Subscript_ (ia _ _ _ _ ok1 h (Sp.bind sp nilS fun x v s₁ o₁ r₁ sp₁ => wpAny_Slice (ii _ _ _ _ ok2 (h.step o₁) (Sp.bind sp₁ nilS fun y u s₂ o₂ r₂ sp₂ => ih _ _ _ _ ok3 ((h.step o₁).step o₂) (Sp.bind sp₂ nilS fun z u' s₃ o₃ r₃ sp₃ => wpAny_pure ?_)))))
      cases r₂ with
      | int j t =>
        cases r₃ with
        | int k t' =>
          have hk : Ok X [] s₃ { s₃ with heap := s₃.heap.push { cls := .type "slice", data := .fields #[.int j t, .int k t', .none] } } := Ok.keeps o₃.2 (Nat.le_refl _) fun b o e => Heap.get?_push_of_some _ e
          exact slice_sound hk.2 (((r₁.xt o₂.1).xt o₃.1).xt hk.1) (Heap.IsSliceOf.new _ _ _ _) (.int j t) (.int k t') (Sp.pre sp₃ hk nilS)
        | _ => exact sp₃.elim
      | _ => revert sp₃; cases z <;> exact fun sp₃ => sp₃.elim
    refine ⟨I, fun e s Q E ok h sp => test_plain ?_ I ok h sp⟩
    exact inv_slice ok fun _ _ _ _ _ _ _ _ => rfl
  | .call f args => by
    have is := sounds T args
    have I : EvOk X c C A env l L ρ (.call f args) := fun e s Q E ok h sp => by
      refine inv_call ok fun x xp xs p ok1 ok2 ok3 => ?_
      exact Call_ (load_fn T h.w ok1 ok2 (callWith_fn T _ ok1 is ok3 h sp))
    refine ⟨I, fun e s Q E ok h sp => test_plain ?_ I ok h sp⟩
    exact inv_call ok fun _ _ _ _ _ _ _ => rfl
  | .b1 f a => by
    have ia := (sound T a).1
    have I : EvOk X c C A env l L ρ (.b1 f a) := fun e s Q E ok h sp => by
      refine inv_b1 ok fun x xp y p ok1 ok2 ok3 => ?_
      refine Call_ (load_bt T h.w ok1 ?_)
      have main : ∀ ps : Pos, wpAny (model X.prog X.w) A (spliced (backTo ps (starEach [_] env))) (fun vs s₁ => wpAny (model X.prog X.w) A (call (nameOf1 f) vs) Q E s₁) E s := fun ps =>
        args_cons (ia _ _ _ _ ok3 h (Sp.bind sp nilS fun x v s₁ o₁ r₁ sp₁ => args_nil (app1_sound o₁.2 r₁ sp₁))) (star_plain ok2)
      exact callWith_n1 main ok2
    refine ⟨I, fun e s Q E ok h sp => test_plain ?_ I ok h sp⟩
    exact inv_b1 ok fun _ _ _ _ _ _ _ => rfl
  | .b2 f a b => by
    have ia := (sound T a).1
    have ib := (sound T b).1
    have I : EvOk X c C A env l L ρ (.b2 f a b) := fun e s Q E ok h sp => by
      refine inv_b2 ok fun x xp y z p ok1 ok2 ok3 ok4 ok5 => ?_
      refine Call_ (load_bt T h.w ok1 ?_)
      have main : ∀ ps : Pos, wpAny (model X.prog X.w) A (spliced (backTo ps (starEach [_, _] env))) (fun vs s₁ => wpAny (model X.prog X.w) A (call (nameOf2 f) vs) Q E s₁) E s := fun ps =>
        args_cons (ia _ _ _ _ ok4 h (Sp.bind sp nilS fun x v s₁ o₁ r₁ sp₁ => args_cons (ib _ _ _ _ ok5 (h.step o₁) (Sp.bind sp₁ nilS fun y u s₂ o₂ r₂ sp₂ => args_nil (app2_sound o₂.2 T.hh (r₁.xt o₂.1) r₂ sp₂))) (star_plain ok3))) (star_plain ok2)
      exact callWith_n2 main ok2 ok3
    refine ⟨I, fun e s Q E ok h sp => test_plain ?_ I ok h sp⟩
    exact inv_b2 ok fun _ _ _ _ _ _ _ _ _ _ => rfl
  | .join a b => ⟨(fun e s Q E ok h sp => by cases ok), (fun e s Q E ok h sp => by cases ok)⟩
  | .rstrip a b => by
    have ia := (sound T a).1
    have ib := (sound T b).1
    have I : EvOk X c C A env l L ρ (.rstrip a b) := fun e s Q E ok h sp => by
      refine inv_rstrip ok fun o ap y p ok0 ok2 ok3 ok4 ok5 ok6 => ?_
      refine MethodCall_ (ia _ _ _ _ ok5 h (Sp.bindE sp nilS fun x v s₁ e₁ o₁ r₁ sp₁ => ?_)) (method_one ok2 ok3 ok4)
      cases r₁ with
      | str z t hz =>
        with_reducible refine GM.rstrip ?_
        show wpAny _ _ (callWith _ (.builtin "str.rstrip") [.str z t] _ _) _ _ _
        exact callWith_method1 (id := "str.rstrip") (first := [.str z t]) (args_cons (ib _ _ _ _ ok6 (h.step o₁) (Sp.bind sp₁ nilS fun y u s₂ o₂ r₂ sp₂ => args_nil (rstrip_sound o₂.2 (.str z t hz) r₂ sp₂))) (star_plain ok4)) (star_plain ok4)
      | _ =>
        obtain ⟨w, q⟩ := isStrC_ev ok0 C ρ
        rw [q] at sp₁; exact sp₁.elim
    refine ⟨I, fun e s Q E ok h sp => test_plain ?_ I ok h sp⟩
    exact inv_rstrip ok fun _ _ _ _ _ _ _ _ _ _ => rfl
  | .replace a y zs i => ⟨(fun e s Q E ok h sp => by cases ok), (fun e s Q E ok h sp => by cases ok)⟩
  | .dget ks vs k d => ⟨(fun e s Q E ok h sp => by cases ok), (fun e s Q E ok h sp => by cases ok)⟩
  | .all a b => by
    have I : EvOk X c C A env l L ρ (.all a b) := fun e s Q E ok h sp => T.ext _ _ _ _ _ _ (Bool.and_eq_true_iff.mp (show (isCall e && c.ext (.all a b) e) = true from ok)).2 h sp
    refine ⟨I, fun e s Q E ok h sp => test_plain ?_ I ok h sp⟩
    have q := (Bool.and_eq_true_iff.mp (show (isCall e && c.ext (.all a b) e) = true from ok)).1
    obtain ⟨_, _, _, _, rfl, _⟩ := onCall_inv q
    rfl
  | .anyZip a b d => by
    have I : EvOk X c C A env l L ρ (.anyZip a b d) := fun e s Q E ok h sp => T.ext _ _ _ _ _ _ (Bool.and_eq_true_iff.mp (show (isCall e && c.ext (.anyZip a b d) e) = true from ok)).2 h sp
    refine ⟨I, fun e s Q E ok h sp => test_plain ?_ I ok h sp⟩
    have q := (Bool.and_eq_true_iff.mp (show (isCall e && c.ext (.anyZip a b d) e) = true from ok)).1
    obtain ⟨_, _, _, _, rfl, _⟩ := onCall_inv q
    rfl
theorem sounds (T : Sit X c Fa C A env l L) : ∀ ps : List PE, EvsOk X c C A env l L ρ ps
  | [] => fun es pos s Q E ok h sp => by
    cases es with
    | nil => exact args_nil (sp _ _ (Ok.refl h.w) .nil)
    | cons e es => cases ok
  | p :: ps => fun es pos s Q E ok h sp => by
    have ip := (sound T p).1
    have ips := sounds T ps
    cases es with
    | nil => cases ok
    | cons e es =>
      obtain ⟨k0, ok3⟩ := both (show (plainArg e && okE c p e && okEs c ps es) = true from ok)
      obtain ⟨ok1, ok2⟩ := both k0
      refine args_cons (ip _ _ _ _ ok2 h (Sp.bind sp nilS fun d v s₁ o₁ r₁ sp₁ => ips _ _ _ _ _ ok3 (h.step o₁) (Sp.bind sp₁ nilS fun ds vs s₂ o₂ r₂ sp₂ => ?_))) (star_plain ok1)
      exact sp₂ _ _ (Ok.refl o₂.2) (.cons (r₁.xt o₂.1) r₂)
end
end
end Mine

namespace Mine
open PySem PySem.Calls PySem.Spec PyProof.Rows PySem.W

noncomputable def semPure {α : Type} (t : Sem α) : Option α := if h : t.ctorIdx = 0 then some (Sem.pure.elim (motive := fun _ => α) t h fun a => a) else none
theorem semPure_eq {α : Type} {t : Sem α} {a : α} (h : semPure t = some a) : t = pure a := by
  by_cases q : t.ctorIdx = 0
  · exact Sem.pure.elim (motive := fun t => semPure t = some a → t = pure a) t q (fun b h => by cases h; rfl) h
  · rw [semPure, dif_neg q] at h; cases h

noncomputable def noComp : Expr → Bool
  | .ListComp .. => false
  | .SetComp .. => false
  | .DictComp .. => false
  | _ => true
theorem noSwap {v : Expr} {t : Option Expr} {n : Nat} {env : Env} (h : noComp v = true) : swapsWith v t n env = pure false := by
  cases v <;> first | rfl | cases h

noncomputable abbrev env0 (c : Cx) : Env := envOf "" c.sc 0 0 .none

noncomputable def okNames (c : Cx) : List Nat → List Expr → Bool
  | [], l => on0 l
  | i :: is, l => onCons (fun e es => onName (fun x => c.ns[i]? == some x && kindIs c x .local) e && okNames c is es) l
noncomputable def namesOf : List Expr → List Str
  | .Name x _ :: es => x :: namesOf es
  | _ => []
noncomputable def okSw (ns : List Str) : Option (List Str) → Bool
  | none => true
  | some l => l == ns
noncomputable def okSwap (c : Cx) (ts : List Expr) (k : Nat) (p : Pos) (v : Expr) : Bool := onSome (okSw (namesOf ts)) (semPure (swappedStores [.Tuple ts k p] v (env0 c)))

noncomputable def handV : PE → Option PyData
  | .cst v => some v
  | .tup [] => some (.tuple [])
  | _ => none
noncomputable def handOk (d : PE) (u : Expr) : Bool := onSome (fun v => onConst (constOk v) u || (onT' on0 v && onTup (fun ts _ _ => on0 ts) u)) (handV d)
noncomputable def okName (c : Cx) (i : Nat) : Expr → Bool := onName fun x => c.ns[i]? == some x && kindIs c x .local
noncomputable def okAsg (c : Cx) (i : Nat) (k : Expr → Bool) (s : Stmt) : Bool := onAssign (fun ts v => on1 (okName c i) ts && noComp v && k v) s
noncomputable def okHand (c : Cx) (k : Stmt → Bool) (h : ExceptHandler) : Bool := onHandler (fun t n b => onSome (onName fun y => isBt c y (.type "ValueError")) t && onNone n && on1 k b) h
noncomputable def isVE (c : Cx) (e : Expr) : Bool := onCall (fun f xs ks _ => onName (fun f => isBt c f (.type "ValueError")) f && on1 isStrE xs && on0 ks) e
noncomputable def isRangeC (c : Cx) (ty : Value) (k : Expr → Expr → Bool) (e : Expr) : Bool := onCall (fun f xs ks _ => onName (fun f => isBt c f ty) f && on0 ks && on2 k xs) e
mutual
noncomputable def okS (c : Cx) : PS → Stmt → Bool
  | .ret e, s => onReturn (fun o => onSome (fun x => okE c e x) o) s
  | .asg i e, s => okAsg c i (fun v => okE c e v) s
  | .asgT is e, s => onAssign (fun ts v => on1 (onTup fun ts k p => okNames c is ts && decide is.Nodup && noComp v && okSwap c ts k p v && okE c e v) ts) s
  | .ite t b o, s => onIfS (fun x y z => okE c t x && okSs c b y && okSs c o z) s
  | .whl t b, s => onWhile (fun x y z => on0 z && okE c t x && okSs c b y) s
  | .raise, s => onRaise (fun x y => onNone y && onSome (isVE c) x) s
  | .tryAsg i e j d, s => onTry (fun b hs o f => on0 o && on0 f && on1 (fun s => okAsg c i (fun v => okE c e v) s) b && on1 (okHand c (okAsg c j (handOk d))) hs) s
  | .forRange _ _ _ _, _ => false
  | .forTup xs e b, s => onFor (fun t x y z => on0 z && onTup (fun ts _ _ => okNames c xs ts) t && onTup (fun _ _ _ => true) x && okE c e x && okSs c b y) s
  | .forZip x y k e₁ e₂ e, s => onFor (fun t i b z => on0 z && onTup (fun ts _ _ => okNames c [x, y] ts) t && isRangeC c (.type "zip") (fun u v => plainArg u && plainArg v && okE c e₁ u && okE c e₂ v) i && on1 (fun s => okAsg c k (fun v => okE c e v) s) b) s
noncomputable def okSs (c : Cx) : List PS → List Stmt → Bool
  | [], l => on0 l
  | p :: ps, l => onCons (fun s ss => okS c p s && okSs c ps ss) l
end

section
variable {X : Cfg} {c : Cx} {env : Env} {l : List Env} {L : Addr} {ρ : Env'} {Fa : Nat → Addr} {C : Calls} {A : Around} {N : Nat} {s : Shared}

noncomputable def RelF (X : Cfg) (c : Cx) (env : Env) (l : List Env) (L : Addr) (s : Shared) (f : Flow) : Fl → Prop
  | .next ρ => f = .next ∧ Here X c env l L ρ s
  | .ret d => ∃ v, f = .ret v ∧ Rd s.heap v d

theorem frS (T : Sit X c Fa C A env l L) : ∀ a ∈ [L], a ∈ fr (env :: l) := fun a q => by
  obtain ⟨n, b, cd, rfl⟩ := T.ev
  rcases List.mem_cons.mp q with rfl | q
  · exact List.mem_filterMap.mpr ⟨_, List.mem_cons_self, rfl⟩
  · cases q

theorem nodup_get {α : Type} : ∀ {l : List α} {i j : Nat} {a : α}, l.Nodup → l[i]? = some a → l[j]? = some a → i = j
  | [], _, _, _, _, h, _ => by simp at h
  | b :: r, 0, 0, _, _, _, _ => rfl
  | b :: r, 0, j + 1, a, nd, h, h' => by
    simp only [List.getElem?_cons_zero, Option.some.injEq] at h
    rw [List.getElem?_cons_succ] at h'
    subst h
    exact absurd (List.mem_of_getElem? h') (List.nodup_cons.mp nd).1
  | b :: r, i + 1, 0, a, nd, h, h' => by
    simp only [List.getElem?_cons_zero, Option.some.injEq] at h'
    rw [List.getElem?_cons_succ] at h
    subst h'
    exact absurd (List.mem_of_getElem? h) (List.nodup_cons.mp nd).1
  | b :: r, i + 1, j + 1, a, nd, h, h' => by
    rw [List.getElem?_cons_succ] at h h'
    rw [nodup_get (List.nodup_cons.mp nd).2 h h']
theorem store_sound {A' : Around} {i : Nat} {x : Str} {v : Value} {d : PyData} {Q : Unit → Shared → Prop} {E : Value → Shared → Prop} (T : Sit X c Fa C A env l L) (nd : c.ns.Nodup) (h : Here X c env l L ρ s) (hx : c.ns[i]? = some x) (hk : kindIs c x .local = true) (r : Rd s.heap v d)
    (k : ∀ s', Ok X [L] s s' → Here X c env l L (ρ.set i (some d)) s' → (∀ u e, Rd s.heap u e → Rd s'.heap u e) → Q () s') : wpAny (model X.prog X.w) A' (storeName env x v) Q E s := by
  obtain ⟨m, n, km⟩ := h.fm
  have T' := T
  obtain ⟨q, a, cd, rfl⟩ := T.ev
  obtain ⟨k1, _⟩ := kindIs_eq hk
  refine wpAny_storeName_local (env := envOf q c.sc L a cd) k1 n (fun h' hn' hs' => ?_) ?_
  · have mv : ∀ u e, Rd s.heap u e → Rd h' u e := fun u e r => r.move (seq_sameBut n hs')
    have xt : Xt [L] s.heap h' := fun b o nb e _ => ⟨o.slots, (hs'.2 b (fun z => nb (by rw [z]; exact List.mem_cons_self))).trans e, fun _ => rfl⟩
    have w' : W X { s with heap := h', toks := s.toks + 1 } := ⟨h.w.h.store n T'.new hs', h.w.gens, h.w.os, Nat.lt_succ_of_lt h.w.toks⟩
    refine k _ ⟨xt, w'⟩ ⟨w', funFrames_xt xt h.ff (fun b hb => by
      rcases List.mem_cons.mp hb with rfl | hb
      · exact ⟨_, hn'⟩
      · cases hb), ⟨_, hn', fun j e ej => ?_⟩⟩ mv
    by_cases hij : i = j
    · subst hij
      rw [List.getElem?_set] at ej
      simp only [if_true] at ej
      split at ej
      · cases ej
        exact ⟨x, v, hx, by simp, mv _ _ r⟩
      · cases ej
    · rw [List.getElem?_set_ne hij] at ej
      obtain ⟨y, u, e1, e2, e3⟩ := km j e ej
      refine ⟨y, u, e1, ?_, mv _ _ e3⟩
      have : y ≠ x := fun z => hij (by
        subst z
        exact nodup_get nd hx e1)
      simp [this, e2]
  · show (c.sc.kind == .class || (c.sc.kind == .module && _)) = false
    rw [T'.kind]; rfl

theorem putAll_set : ∀ {xs : List Nat} {ds : List PyData} {ρ ρ' : Env'} {i : Nat} {d : PyData}, i ∉ xs → putAll xs ds (ρ.set i (some d)) = some ρ' → ∃ ρ₀, putAll xs ds ρ = some ρ₀ ∧ ρ' = ρ₀.set i (some d)
  | [], [], ρ, ρ', i, d, _, h => by
    simp only [putAllE_nil, putAllE_cons, putAllE_l, putAllE_r] at h; cases h; exact ⟨ρ, rfl, rfl⟩
  | x :: xs, e :: ds, ρ, ρ', i, d, hn, h => by
    simp only [putAllE_nil, putAllE_cons, putAllE_l, putAllE_r] at h
    rw [List.set_comm _ _ (fun q => hn (by rw [q]; exact List.mem_cons_self))] at h
    obtain ⟨ρ₀, h1, h2⟩ := putAll_set (fun q => hn (List.mem_cons_of_mem _ q)) h
    exact ⟨ρ₀, h1, h2⟩
  | [], _ :: _, _, _, _, _, _, h => by cases h
  | _ :: _, [], _, _, _, _, _, h => by cases h

theorem RdAll.moveAll {h h' : Heap} (mv : ∀ u e, Rd h u e → Rd h' u e) : ∀ {vs : List Value} {ds : List PyData}, RdAll h vs ds → RdAll h' vs ds
  | _, _, .nil => .nil
  | _, _, .cons a b => .cons (mv _ _ a) (RdAll.moveAll mv b)
theorem okName_inv {i : Nat} {e : Expr} (h : okName c i e = true) : ∃ x p, e = .Name x p ∧ c.ns[i]? = some x ∧ kindIs c x .local = true := by
  obtain ⟨x, p, rfl, k⟩ := onName_inv h
  exact ⟨x, p, rfl, beq_iff_eq.mp (both k).1, (both k).2⟩
theorem okAsg_inv {i : Nat} {k : Expr → Bool} {s : Stmt} (h : okAsg c i k s = true) : ∃ x xp v p, s = .Assign [.Name x xp] v p ∧ c.ns[i]? = some x ∧ kindIs c x .local = true ∧ noComp v = true ∧ k v = true := by
  obtain ⟨ts, v, p, rfl, k0⟩ := onAssign_inv h
  obtain ⟨k1, k4⟩ := both k0
  obtain ⟨k2, k3⟩ := both k1
  obtain ⟨t, rfl, k5⟩ := on1_inv k2
  obtain ⟨x, xp, rfl, e1, e2⟩ := okName_inv k5
  exact ⟨x, xp, v, p, rfl, e1, e2, k3, k4⟩
theorem okHand_inv {k : Stmt → Bool} {h : ExceptHandler} (e : okHand c k h = true) : ∃ y yp st hp, h = .ExceptHandler (some (.Name y yp)) none [st] hp ∧ isBt c y (.type "ValueError") = true ∧ k st = true := by
  obtain ⟨ht, hn, hb, hp, rfl, k13⟩ := onHandler_inv e
  obtain ⟨k14, k15⟩ := both k13
  obtain ⟨k16, k17⟩ := both k14
  obtain rfl := onNone_inv k17
  obtain ⟨a3, rfl, k18⟩ := onSome_inv k16
  obtain ⟨y, yp, rfl, ok5⟩ := onName_inv k18
  obtain ⟨a4, rfl, k19⟩ := on1_inv k15
  exact ⟨y, yp, a4, hp, rfl, ok5, k19⟩
theorem isVE_inv {e : Expr} (h : isVE c e = true) : ∃ x xp z n zp q, e = .Call (.Name x xp) [.Constant (.str z) n zp] [] q ∧ isBt c x (.type "ValueError") = true := by
  obtain ⟨f, xs, ks, q, rfl, k4⟩ := onCall_inv h
  obtain ⟨k5, k6⟩ := both k4
  obtain ⟨k7, k8⟩ := both k5
  obtain ⟨fx, fp, rfl, ok1⟩ := onName_inv k7
  obtain rfl := on0_inv k6
  obtain ⟨z, rfl, k9⟩ := on1_inv k8
  obtain ⟨zx, zn, zp, rfl⟩ := isStrE_inv k9
  exact ⟨_, _, _, _, _, _, rfl, ok1⟩
theorem isRangeC_inv {ty : Value} {k : Expr → Expr → Bool} {e : Expr} (h : isRangeC c ty k e = true) : ∃ f fp u v q, e = .Call (.Name f fp) [u, v] [] q ∧ isBt c f ty = true ∧ k u v = true := by
  obtain ⟨f, xs, ks, q, rfl, k4⟩ := onCall_inv h
  obtain ⟨k5, k6⟩ := both k4
  obtain ⟨k7, k8⟩ := both k5
  obtain ⟨fx, fp, rfl, ok1⟩ := onName_inv k7
  obtain rfl := on0_inv k8
  obtain ⟨u, v, rfl, k9⟩ := on2_inv k6
  exact ⟨_, _, _, _, _, rfl, ok1, k9⟩
theorem okNames_cons {i : Nat} {is : List Nat} {ts : List Expr} (h : okNames c (i :: is) ts = true) : ∃ x p ts', ts = .Name x p :: ts' ∧ c.ns[i]? = some x ∧ kindIs c x .local = true ∧ okNames c is ts' = true := by
  obtain ⟨e, es, rfl, k⟩ := onCons_inv h
  obtain ⟨k1, k2⟩ := both k
  obtain ⟨x, p, rfl, e1, e2⟩ := okName_inv k1
  exact ⟨x, p, es, rfl, e1, e2, k2⟩
theorem okNames_nil {ts : List Expr} (h : okNames c [] ts = true) : ts = [] := on0_inv h

theorem stores_fwd {E : Value → Shared → Prop} (T : Sit X c Fa C A env l L) (nd : c.ns.Nodup) : ∀ (is : List Nat) {ts : List Expr} {vs : List Value} {ds : List PyData} {ρ ρ' : Env'} {s : Shared} {Q : Unit → Shared → Prop}, okNames c is ts = true → putAll is ds ρ = some ρ' → Here X c env l L ρ s → RdAll s.heap vs ds →
    (∀ s', Ok X [L] s s' → Here X c env l L ρ' s' → Q () s') → wpAny (model X.prog X.w) A (assignInOrder ((assignEach ts env).map (·.2)) vs) Q E s := by
  intro is
  induction is with
  | nil =>
    intro ts vs ds ρ ρ' s Q ok hp h rs k
    obtain rfl := okNames_nil ok
    cases ds with
    | nil =>
      simp only [putAllE_nil, putAllE_cons, putAllE_l, putAllE_r] at hp; cases hp
      exact assignInOrder_nil (k _ (Ok.refl h.w) h)
    | cons d ds => cases hp
  | cons i is ih =>
    intro ts vs ds ρ ρ' s Q ok hp h rs k
    obtain ⟨x, p, ts', rfl, ok1, ok2, ok3⟩ := okNames_cons ok
    cases rs with
    | nil => cases hp
    | cons r rs =>
      simp only [putAllE_nil, putAllE_cons, putAllE_l, putAllE_r] at hp
      show wpAny _ _ (assignInOrder (assign (.Name x p) env :: (assignEach ts' env).map (·.2)) _) _ _ _
      exact assignInOrder_cons (assign_Name (store_sound T nd h ok1 ok2 r fun s₁ o₁ h₁ mv => ih ok3 hp h₁ (rs.moveAll mv) fun s₂ o₂ h₂ => k s₂ (o₁.trans o₂) h₂))

theorem stores_bwd {E : Value → Shared → Prop} (T : Sit X c Fa C A env l L) (nd : c.ns.Nodup) : ∀ (is : List Nat) {ts : List Expr} {vs : List Value} {ds : List PyData} {ρ ρ' : Env'} {s : Shared} {rn : List (Value → Sem Unit)} {rv : List Value} {Q : Unit → Shared → Prop}, is.Nodup → okNames c is ts = true → putAll is ds ρ = some ρ' → Here X c env l L ρ s → RdAll s.heap vs ds →
    (∀ s', Ok X [L] s s' → Here X c env l L ρ' s' → (∀ u e, Rd s.heap u e → Rd s'.heap u e) → wpAny (model X.prog X.w) A (assignInOrder rn rv) Q E s') → wpAny (model X.prog X.w) A (assignInOrder (((namesOf ts).reverse.map fun n => bindName env n) ++ rn) (vs.reverse ++ rv)) Q E s := by
  intro is
  induction is with
  | nil =>
    intro ts vs ds ρ ρ' s rn rv Q nodup ok hp h rs k
    obtain rfl := okNames_nil ok
    cases ds with
    | nil =>
      cases rs
      simp only [putAllE_nil, putAllE_cons, putAllE_l, putAllE_r] at hp; cases hp
      exact k _ (Ok.refl h.w) h fun _ _ r => r
    | cons d ds => cases hp
  | cons i is ih =>
    intro ts vs ds ρ ρ' s rn rv Q nodup ok hp h rs k
    obtain ⟨x, p, ts', rfl, ok1, ok2, ok3⟩ := okNames_cons ok
    cases rs with
    | nil => cases hp
    | cons r rs =>
      simp only [putAllE_nil, putAllE_cons, putAllE_l, putAllE_r] at hp
      obtain ⟨ρ₀, hp0, rfl⟩ := putAll_set (List.nodup_cons.mp nodup).1 hp
      rename_i v vs' d ds'
      have e1 : ((namesOf (.Name x p :: ts')).reverse.map fun n => bindName env n) ++ rn = ((namesOf ts').reverse.map fun n => bindName env n) ++ (bindName env x :: rn) := by
        simp [namesOf]
      have e2 : (v :: vs').reverse ++ rv = vs'.reverse ++ (v :: rv) := by simp
      rw [e1, e2]
      exact ih (List.nodup_cons.mp nodup).2 ok3 hp0 h rs fun s₁ o₁ h₁ mv => assignInOrder_cons (bindName_ (store_sound T nd h₁ ok1 ok2 (mv _ _ r) fun s₂ o₂ h₂ mv₂ => k s₂ (o₁.trans o₂) h₂ fun u e r => mv₂ _ _ (mv _ _ r)))
end
end Mine

namespace Mine
open PySem PySem.Calls PySem.Spec PyProof.Rows PySem.W

section
variable {X : Cfg} {c : Cx} {env : Env} {l : List Env} {L : Addr} {ρ : Env'} {Fa : Nat → Addr} {C : Calls} {A : Around} {N : Nat} {s : Shared}

theorem putAll_length : ∀ {xs : List Nat} {ds : List PyData} {ρ ρ' : Env'}, putAll xs ds ρ = some ρ' → xs.length = ds.length
  | [], [], _, _, _ => rfl
  | _ :: _, _ :: _, _, _, h => by rw [putAllE_cons] at h; simp [putAll_length h]
  | [], _ :: _, _, _, h => by cases h
  | _ :: _, [], _, _, h => by cases h
theorem okNames_length : ∀ {is : List Nat} {ts : List Expr}, okNames c is ts = true → is.length = ts.length
  | [], ts, h => by rw [okNames_nil h]; rfl
  | i :: is, ts, h => by
    obtain ⟨x, p, ts', rfl, _, _, h3⟩ := okNames_cons h
    simp [okNames_length h3]
theorem namesOf_length : ∀ {is : List Nat} {ts : List Expr}, okNames c is ts = true → (namesOf ts).length = ts.length
  | [], ts, h => by rw [okNames_nil h]; rfl
  | i :: is, ts, h => by
    obtain ⟨x, p, ts', rfl, _, _, h3⟩ := okNames_cons h
    simp [namesOf, namesOf_length h3]
theorem assignEach_names : ∀ {is : List Nat} {ts : List Expr}, okNames c is ts = true → (assignEach ts env).length = ts.length ∧ (assignEach ts env).findIdx? (·.1) = none
  | [], ts, h => by rw [okNames_nil h]; exact ⟨rfl, rfl⟩
  | i :: is, ts, h => by
    obtain ⟨x, p, ts', rfl, _, _, h3⟩ := okNames_cons h
    obtain ⟨h1, h2⟩ := assignEach_names h3
    have e : assignEach (.Name x p :: ts') env = (false, assign (.Name x p) env) :: assignEach ts' env := rfl
    rw [e]
    refine ⟨by simp [h1], ?_⟩
    rw [List.findIdx?_cons]
    simp [h2]
theorem spNo {α β : Type} {Rel : Shared → β → α → Prop} {S : List Addr} {l : List Env} {Q : β → Shared → Prop} {E E' : Value → Shared → Prop} {r : R α} (h : Sp X Rel S l s Q E (noExc r)) : Sp X Rel S l s Q E' (noExc r) := by
  cases r with
  | ok a => exact h
  | exc b => exact h.elim
  | stuck => exact h.elim

theorem Sit.none (T : Sit X c Fa C A env l L) {h : Heap} (w : Wh X h) {b : Addr} (hb : h.get? b = none) : X.H.get? b = none := by
  cases e : X.H.get? b with
  | none => rfl
  | some o =>
    exfalso
    by_cases k : KeepMe o
    · rw [w.old _ _ e k] at hb; cases hb
    · obtain ⟨o', e'⟩ := T.there _ w.tab _ _ e k
      rw [e'] at hb; cases hb
theorem size_none (h : Heap) {b : Addr} (hb : h.objs.size ≤ b) : h.get? b = none := by
  cases e : h.get? b with
  | none => rfl
  | some o => exact absurd (Heap.lt_size e) (Nat.not_lt_of_le hb)

noncomputable def ItAt (X : Cfg) (wr : List Addr) (s₀ : Shared) (h : Heap) : Prop := ∀ b ∈ wr, X.H.get? b = none ∧ s₀.heap.get? b = none ∧ ∀ o, h.get? b = some o → (∃ vs, o.data = .fields vs) ∧ o.cls ≠ .none ∧ o.cls ≠ .type "code"
theorem Wh.moved {wr : List Addr} {s₀ : Shared} {h h' : Heap} (x : Wh X h) (k : ∀ b o, b ∉ wr → h.get? b = some o → h'.get? b = some o) (it : ItAt X wr s₀ h) : Wh X h' := by
  refine ⟨fun b o e q => k b o (fun z => ?_) (x.old b o e q), X.tab h h' (fun b o vs e hd hc => k b o (fun z => ?_) e) x.tab⟩
  · rw [(it b z).1] at e; cases e
  · obtain ⟨_, n1, n2⟩ := (it b z).2.2 o e
    exact hc.elim n1 n2
theorem Here.moved {wr : List Addr} {s₀ : Shared} {h' : Heap} {tk : Nat} (x : Here X c env l L ρ s) (k : ∀ b o, b ∉ wr → s.heap.get? b = some o → h'.get? b = some o) (htk : 0 < tk) (it : ItAt X wr s₀ s.heap) : Here X c env l L ρ { s with heap := h', toks := tk } := by
  have ne : ∀ {b o}, s.heap.get? b = some o → (∀ vs, o.data ≠ .fields vs) → b ∉ wr := fun {b o} e hd z => by
    obtain ⟨⟨vs, q⟩, _⟩ := (it b z).2.2 o e
    exact hd vs q
  refine ⟨⟨x.w.h.moved k it, x.w.gens, x.w.os, htk⟩, x.ff.of_keeps fun b o e hd => ⟨o, k b o (ne e hd) e, rfl⟩, ?_⟩
  obtain ⟨m, n, km⟩ := x.fm
  obtain ⟨o, es, ep, ho, hd, r⟩ := n
  refine ⟨m, ⟨o, es, ep, k _ _ (ne ho fun vs q => by rw [hd] at q; cases q) ho, hd, r⟩, fun i d e => ?_⟩
  obtain ⟨y, v, e1, e2, e3⟩ := km i d e
  exact ⟨y, v, e1, e2, e3.move fun b o vs n eb hdb _ => ⟨o.slots, k b o (ne eb fun vs' q => by rw [hdb] at q; cases q) eb⟩⟩
theorem Ok.moved {wr : List Addr} {s₀ : Shared} {S : List Addr} {h' : Heap} {tk : Nat} (x : Ok X S s₀ s) (k : ∀ b o, b ∉ wr → s.heap.get? b = some o → h'.get? b = some o) (htk : 0 < tk) (it : ItAt X wr s₀ s.heap) : Ok X S s₀ { s with heap := h', toks := tk } := by
  refine ⟨fun b o nb e ko => ?_, ⟨x.2.h.moved k it, x.2.gens, x.2.os, htk⟩⟩
  obtain ⟨sl, e2, q⟩ := x.1 b o nb e ko
  exact ⟨sl, k b _ (fun z => by rw [(it b z).2.1] at e; cases e) e2, q⟩

end
end Mine

namespace Mine
open PySem

noncomputable abbrev Stops (h : Heap) (e : Addr) : Prop := ∃ o, h.get? e = some o ∧ o.cls = .type "StopIteration"
noncomputable abbrev Kp (bs : List Addr) (h h' : Heap) : Prop := ∀ c o, c ∉ bs → h.get? c = some o → h'.get? c = some o

section
variable {prog : Program} {w : World} {A : Around} {E : Value → Shared → Prop} {s : Shared}

theorem stops_ {α : Type} {Q : α → Shared → Prop} (hh : A.handled = none) (hE : ∀ h' e, (∀ c o, s.heap.get? c = some o → h'.get? c = some o) → Stops h' e → E (.ref e) { s with heap := h' }) :
    wpAny (model prog w) A (Builtin.SmallTypes.stopIteration : Sem α) Q E s :=
  wpAny_bind (m := newExc (.type "StopIteration") []) (wpAny_bind (wpAny_newTuple (wpAny_bind (m := firstArgMember (.type "StopIteration") []) (wpAny_of_eq (a := Value.none) (by unfold firstArgMember; rfl)
    (wpAny_newObj_type (wpAny_raiseNew_none hh (hE _ _ (fun _ _ e => Heap.get?_push_of_some _ (Heap.get?_push_of_some _ e)) ⟨_, Heap.get?_push_size _ rfl, rfl⟩)))))))

theorem tupNext {it t : Addr} {i : Nat} {items : Array Value} {R : Fin → Shared → Prop} (I : s.heap.IsTupleIter it t i) (T : s.heap.IsTuple t items)
    (some_ : ∀ x, items[i]? = some x → ∀ h', h'.IsTupleIter it t (i + 1) → Heap.SameBut it s.heap h' → R (.done (.ret x)) { s with heap := h' })
    (none_ : items[i]? = none → A.handled = none ∧ ∀ h' e, Heap.ExtBut it s.heap h' → Stops h' e → E (.ref e) { s with heap := h' }) :
    wpAny (model prog w) A (Builtin.«tuple_iterator.__next__» ⟨[.ref it], []⟩) R E s := by
  obtain ⟨io, gi, ci, di⟩ := I
  obtain ⟨to, gt, _, _, dt⟩ := T
  refine wpAny_bind (m := field (.ref it) 0) (wpAny_field gi di (x := .ref t) rfl ?_)
  refine wpAny_bind (m := field (.ref it) 1) (wpAny_field gi di (x := .int i 0) rfl ?_)
  refine wpAny_bind (m := seqItems? (.ref t)) (wpAny_seqItems gt dt ?_)
  have put : ∀ (k : Nat) (v : Value) (Q : Unit → Shared → Prop), k < 2 → (∀ h' o', h'.get? it = some o' → o'.cls = .type "tuple_iterator" → o'.data = .fields ((#[.ref t, .int i 0] : Array Value).setIfInBounds k v) → Heap.SameBut it s.heap h' → Q () { s with heap := h' }) → wpAny (model prog w) A (setField (.ref it) k v) Q E s :=
    fun k v Q hk h => wpAny_setField gi di hk (h _ _ (Heap.get?_update_self _ gi (Obj.isFreed_of_fields (Obj.data_mapFields di _))) ((Obj.cls_mapFields ..).trans ci) (Obj.data_mapFields di _) (Heap.SameBut.update ..))
  cases e : items[i]? with
  | some x =>
    have e' : items[(i : Int).toNat]? = some x := e
    dsimp only
    rw [e']
    exact wpAny_bind (put 1 _ _ (by decide) fun h' o' g c d k => wpAny_pure (some_ x e h' ⟨o', g, c, d⟩ k))
  | none =>
    have e' : items[(i : Int).toNat]? = none := e
    dsimp only
    rw [e']
    obtain ⟨hh, ends⟩ := none_ e
    exact wpAny_bind (wpAny_rule (wpAny_bind (put 0 _ _ (by decide) fun h' o' g c d k => stops_ hh fun h'' x kp st => ends h'' x (fun b o n q => kp b o (k.extBut b o n q)) st)))
theorem drawsTuple (hh : A.handled = none) (it l : Addr) (ne : l ≠ it) (items : Array Value) :
    Draws prog w A it [it, l] items.size (fun i v => items[i]? = some v) (fun i h => h.IsTupleIter it l i ∧ h.IsTuple l items) := by
  have nx : ∀ {i : Nat} {s : Shared} {Q E : Value → Shared → Prop}, s.heap.IsTupleIter it l i → s.heap.IsTuple l items →
      (∀ x, items[i]? = some x → ∀ h', h'.IsTupleIter it l (i + 1) → Heap.SameBut it s.heap h' → Q x { s with heap := h' }) →
      (items[i]? = none → ∀ h' e, Heap.ExtBut it s.heap h' → Stops h' e → E (.ref e) { s with heap := h' }) → wpAny (model prog w) A (Builtin.SmallTypes.nextOf (.ref it)) Q E s :=
    fun {i s Q E} I T q r => wpAny_bind (wpAny_callSpecial?_slot I.typeIs F.slot_tuple_iterator_next (wpAny_call_entry F.slot_tuple_iterator_next I.typeIs F.entry_tuple_iterator_next
      (tupNext I T (fun x e h' I' k => ⟨x, rfl, wpAny_pure (q x e h' I' k)⟩) fun e => ⟨hh, r e⟩) (F.args_tuple_iterator_next_1 _)))
  refine ⟨fun _ _ st => st.1.imp fun _ r => r.1, fun _ _ _ st k => ⟨?_, ?_⟩, fun i s Q E lt st q => ?_, fun s Q E st r => ?_⟩
  · obtain ⟨o, g, r⟩ := st.1; exact ⟨o, k it List.mem_cons_self o g, r⟩
  · obtain ⟨o, g, r⟩ := st.2; exact ⟨o, k l (List.mem_cons_of_mem _ List.mem_cons_self) o g, r⟩
  · exact nx st.1 st.2 (fun x e h' I' sm => q x h' s.toks e ⟨I', st.2.extBut sm.extBut ne⟩ sm) fun e => absurd (Array.getElem?_eq_none_iff.mp e) (Nat.not_le_of_lt lt)
  · exact nx st.1 st.2 (fun x e => absurd ((Array.getElem?_eq_none (Nat.le_refl _)).symm.trans e) (fun z => by cases z)) fun _ => r

structure ZA (z TI TO i1 i2 : Addr) (f1 f2 : List Addr) : Prop where
  tz : TI ≠ z
  oz : TO ≠ z
  ot : TI ≠ TO
  a1 : i1 ∉ [z, TI, TO]
  a2 : i2 ∉ [z, TI, TO]
  o1 : ∀ b ∈ [z, TO, i2], b ∉ f1
  o2 : ∀ b ∈ [z, TO, i1], b ∉ f2

structure Zs (z TI TO i1 i2 : Addr) (S1 S2 : Nat → Heap → Prop) (m a b : Value) (j1 j2 : Nat) (h : Heap) : Prop where
  zip : IsZip h z TI TO m
  its : h.IsTuple TI #[.ref i1, .ref i2]
  out : h.IsTuple TO #[a, b]
  st1 : S1 j1 h
  st2 : S2 j2 h

section
variable {z TI TO i1 i2 : Addr} {f1 f2 : List Addr} {n1 n2 : Nat} {P1 P2 : Nat → Value → Prop} {S1 S2 : Nat → Heap → Prop} {m a b : Value} {j1 j2 : Nat}

theorem src_by {it : Addr} {f : List Addr} {n : Nat} {P : Nat → Value → Prop} {S : Nat → Heap → Prop} (D : Draws prog w A it f n P S) {i : Nat} {h h' : Heap} {c : Addr} (st : S i h) (x : Heap.ExtBut c h h') (nc : c ∉ f) : S i h' :=
  D.frame _ _ _ st fun b hb o e => x b o (fun q => nc (q ▸ hb)) e
theorem seq_ {T : Addr} {xs : Array Value} {Q : Option (Array Value) → Shared → Prop} (hT : s.heap.IsTuple T xs) (h : Q (some xs) s) : wpAny (model prog w) A (seqItems? (.ref T)) Q E s :=
  let ⟨_, g, _, _, d⟩ := hT; wpAny_seqItems g d h

section
variable (D : ZA z TI TO i1 i2 f1 f2) (D1 : Draws prog w A i1 f1 n1 P1 S1) (D2 : Draws prog w A i2 f2 n2 P2 S2) (Z : Zs z TI TO i1 i2 S1 S2 m a b j1 j2 s.heap)
include D D1 D2 Z
theorem Zs.mark {k : Nat} {v m' : Value} {Q : Unit → Shared → Prop} (hk : k < 5) (hv : (#[m, .bool false, .bool false, .ref TI, .ref TO] : Array Value).setIfInBounds k v = #[m', .bool false, .bool false, .ref TI, .ref TO])
    (q : ∀ h', Zs z TI TO i1 i2 S1 S2 m' a b j1 j2 h' → Heap.SameBut z s.heap h' → Q () { s with heap := h' }) : wpAny (model prog w) A (setField (.ref z) k v) Q E s :=
  wpAny_setField_rec Z.zip hk fun h' g x => q h' ⟨by rw [hv] at g; exact g, Z.its.extBut x.extBut D.tz, Z.out.extBut x.extBut D.oz, src_by D1 Z.st1 x.extBut (D.o1 z List.mem_cons_self), src_by D2 Z.st2 x.extBut (D.o2 z List.mem_cons_self)⟩ x
theorem Zs.put {k : Nat} {v a' b' : Value} {Q : Unit → Shared → Prop} (hv : (#[a, b] : Array Value).setIfInBounds k v = #[a', b'])
    (q : ∀ h', Zs z TI TO i1 i2 S1 S2 m a' b' j1 j2 h' → Heap.SameBut TO s.heap h' → Q () { s with heap := h' }) : wpAny (model prog w) A (updateSeq TO (·.setIfInBounds k v)) Q E s := by
  obtain ⟨o, g, c, n, d⟩ := Z.out
  obtain ⟨n', d'⟩ := Obj.data_mapSeq d (·.setIfInBounds k v)
  have x : Heap.SameBut TO s.heap (s.heap.update TO (Obj.mapSeq (·.setIfInBounds k v))) := Heap.SameBut.update ..
  have mo : TO ∈ [z, TO, i2] ∧ TO ∈ [z, TO, i1] := ⟨List.mem_cons_of_mem _ List.mem_cons_self, List.mem_cons_of_mem _ List.mem_cons_self⟩
  exact wpAny_updateSeq g d (q _ ⟨x.extBut _ _ D.oz.symm Z.zip, Z.its.extBut x.extBut D.ot, ⟨_, Heap.get?_update_self _ g (Obj.isFreed_of_seq d'), (Obj.cls_mapSeq ..).trans c, n', by rw [d', hv]⟩, src_by D1 Z.st1 x.extBut (D.o1 _ mo.1), src_by D2 Z.st2 x.extBut (D.o2 _ mo.2)⟩ x)
end
theorem Zs.by {h h' : Heap} {c : Addr} {k1 k2 : Nat} (Z : Zs z TI TO i1 i2 S1 S2 m a b j1 j2 h) (x : Heap.ExtBut c h h') (n : c ∉ [z, TI, TO]) (t1 : S1 k1 h') (t2 : S2 k2 h') : Zs z TI TO i1 i2 S1 S2 m a b k1 k2 h' :=
  have ne : ∀ {d : Addr}, d ∈ [z, TI, TO] → d ≠ c := fun hd q => n (q ▸ hd)
  ⟨x _ _ (ne List.mem_cons_self) Z.zip, Z.its.extBut x (ne (List.mem_cons_of_mem _ List.mem_cons_self)), Z.out.extBut x (ne (List.mem_cons_of_mem _ (List.mem_cons_of_mem _ List.mem_cons_self))), t1, t2⟩
theorem Kp.on {W : List Addr} {h h' h'' : Heap} {c : Addr} (k : Kp W h h') (hc : c ∈ W) (x : Heap.ExtBut c h' h'') : Kp W h h'' := fun d o n e => x d o (fun q => n (q ▸ hc)) (k d o n e)

theorem for_two {α β : Type} {x y : α} {u : β} {f : α → β → Sem (ForInStep β)} {Q : β → Shared → Prop} (h : wpAny (model prog w) A (f x u) (fun r s' => r = .yield u ∧ wpAny (model prog w) A (f y u) (fun r s' => r = .yield u ∧ Q u s') E s') E s) :
    wpAny (model prog w) A (forIn [x, y] u f) Q E s := by
  rw [List.forIn_cons]
  refine wpAny_bind (wpAny_mono h (fun r s' ⟨e, h'⟩ => ?_) fun _ _ x => x)
  subst e
  show wpAny _ _ (forIn [y] u f) Q E s'
  rw [List.forIn_cons]
  refine wpAny_bind (wpAny_mono h' (fun r s' ⟨e, h''⟩ => ?_) fun _ _ x => x)
  subst e
  exact wpAny_pure h''

theorem zip_next {i : Nat} {R : Fin → Shared → Prop} (D : ZA z TI TO i1 i2 f1 f2) (D1 : Draws prog w A i1 f1 n1 P1 S1) (D2 : Draws prog w A i2 f2 n2 P2 S2) (hi : i ≤ min n1 n2)
    (Z : Zs z TI TO i1 i2 S1 S2 .none a b i i s.heap)
    (pair : i < min n1 n2 → ∀ x y h' tk, P1 i x → P2 i y → Zs z TI TO i1 i2 S1 S2 (rawInt s.heap.objs.size) x y (i + 1) (i + 1) h' → h'.IsTuple s.heap.objs.size #[x, y] → Kp [z, TO, i1, i2] s.heap h' → R (.done (.ret (.ref s.heap.objs.size))) { s with heap := h', toks := tk })
    (ends : i = min n1 n2 → ∀ h' tk e, Kp [z, TO, i1, i2] s.heap h' → Stops h' e → E (.ref e) { s with heap := h', toks := tk }) :
    wpAny (model prog w) A (Builtin.«zip.__next__» ⟨[.ref z], []⟩) R E s := by
  have mz : z ∈ [z, TO, i1, i2] := List.mem_cons_self
  have mo : TO ∈ [z, TO, i1, i2] := List.mem_cons_of_mem _ List.mem_cons_self
  have m1 : i1 ∈ [z, TO, i1, i2] := List.mem_cons_of_mem _ (List.mem_cons_of_mem _ List.mem_cons_self)
  have m2 : i2 ∈ [z, TO, i1, i2] := List.mem_cons_of_mem _ (List.mem_cons_of_mem _ (List.mem_cons_of_mem _ List.mem_cons_self))
  -- a source has ended: the zip frees its pair and lets the StopIteration pass
  have out : ∀ {s' : Shared} {h' : Heap} {e c : Addr}, c ∉ [z, TI, TO] → c ∈ [z, TO, i1, i2] → i = min n1 n2 → (∃ tk, s' = { s with heap := s'.heap, toks := tk }) → IsZip s'.heap z TI TO .ellipsis → Kp [z, TO, i1, i2] s.heap s'.heap →
      Heap.ExtBut c s'.heap h' → Stops h' e → wpAny (model prog w) A (setField (.ref z) 0 .none) (fun _ s'' => E (.ref e) s'') E { s' with heap := h' } := by
    intro s' h' e c nc mc hm ⟨tk, hs⟩ hz k x st
    obtain ⟨o, g, cl⟩ := st
    have hz' : IsZip h' z TI TO .ellipsis := x _ _ (fun q => nc (q ▸ List.mem_cons_self)) hz
    refine wpAny_setField_rec hz' (Nat.zero_lt_succ _) fun h'' _ y => ?_
    rw [hs]
    exact ends hm h'' tk e ((k.on mc x).on mz y.extBut) ⟨o, y.extBut _ _ (fun q => by rw [q, hz'] at g; cases g; injection cl with r; exact absurd r (by decide)) g, cl⟩
  refine wpAny_bind (m := field (.ref z) 2) (wpAny_field Z.zip rfl (x := .bool false) rfl ?_)
  refine wpAny_bind (m := field (.ref z) 3) (wpAny_field Z.zip rfl (x := .ref TI) rfl ?_)
  refine wpAny_bind (seq_ Z.its ?_)
  refine wpAny_bind (m := Builtin.SmallTypes.ownedTupleIsFree (.ref z)) (wpAny_bind (m := field (.ref z) 0) (wpAny_field Z.zip rfl (x := .none) rfl (wpAny_pure ?_)))
  refine wpAny_bind (wpAny_rule ?_)
  refine wpAny_bind (m := field (.ref z) 4) (wpAny_field Z.zip rfl (x := .ref TO) rfl ?_)
  refine wpAny_bind (Zs.mark D D1 D2 Z (by decide) (m' := .ellipsis) rfl fun ha Za xa => ?_)
  refine wpAny_bind (for_two ?_)
  have eq_ : ∀ {n : Nat}, ¬ i < n → (n = n1 ∨ n = n2) → i = min n1 n2 := fun {n} l hn => Nat.le_antisymm hi (Nat.le_trans (hn.elim (fun q => q ▸ Nat.min_le_left ..) fun q => q ▸ Nat.min_le_right ..) (Nat.le_of_not_lt l))
  have ka : Kp [z, TO, i1, i2] s.heap ha := fun d o n e => xa.extBut d o (fun q => n (q ▸ mz)) e
  refine wpAny_bind (wpAny_onRaise (wpAny_bind (m := Builtin.SmallTypes.nextOf (.ref i1)) ?_))
  by_cases l1 : i < n1
  case neg =>
    have e1 : n1 = i := Nat.le_antisymm (Nat.le_of_not_lt l1) (Nat.le_trans hi (Nat.min_le_left ..))
    exact D1.done _ _ _ (e1 ▸ Za.st1) fun h' e x st => out D.a1 m1 (eq_ l1 (.inl rfl)) ⟨_, rfl⟩ Za.zip ka x st
  refine D1.item i _ _ _ l1 Za.st1 fun x hb tb p1 t1 xb => wpAny_pure ?_
  have Zb := Za.by xb.extBut D.a1 t1 (src_by D2 Za.st2 xb.extBut (D.o2 _ (List.mem_cons_of_mem _ (List.mem_cons_of_mem _ List.mem_cons_self))))
  refine wpAny_bind (seq_ Zb.out (wpAny_bind (Zs.put D D1 D2 Zb (k := 0) (v := x) rfl fun hc Zc xc => wpAny_bind (wpAny_letGo (wpAny_pure ⟨rfl, ?_⟩)))))
  have kc := (ka.on m1 xb.extBut).on mo xc.extBut
  refine wpAny_bind (wpAny_onRaise (wpAny_bind (m := Builtin.SmallTypes.nextOf (.ref i2)) ?_))
  by_cases l2 : i < n2
  case neg =>
    have e2 : n2 = i := Nat.le_antisymm (Nat.le_of_not_lt l2) (Nat.le_trans hi (Nat.min_le_right ..))
    exact D2.done _ _ _ (e2 ▸ Zc.st2) fun h' e x st => out D.a2 m2 (eq_ l2 (.inr rfl)) ⟨_, rfl⟩ Zc.zip kc x st
  refine D2.item i _ _ _ l2 Zc.st2 fun y hd td p2 t2 xd => wpAny_pure ?_
  have Zd := Zc.by xd.extBut D.a2 (src_by D1 Zc.st1 xd.extBut (D.o1 _ (List.mem_cons_of_mem _ (List.mem_cons_of_mem _ List.mem_cons_self)))) t2
  refine wpAny_bind (seq_ Zd.out (wpAny_bind (Zs.put D D1 D2 Zd (k := 1) (v := y) rfl fun he Ze xe => wpAny_bind (wpAny_letGo (wpAny_pure ⟨rfl, ?_⟩)))))
  have ke := (kc.on m2 xd.extBut).on mo xe.extBut
  refine wpAny_bind (seq_ Ze.out (wpAny_bind (wpAny_newTuple ?_)))
  -- the new pair is handed out
  have sz : he.objs.size = s.heap.objs.size := xe.1.trans (xd.1.trans (xc.1.trans (xb.1.trans xa.1)))
  have Zf : Zs z TI TO i1 i2 S1 S2 .ellipsis x y (i + 1) (i + 1) (he.push { cls := .type "tuple", data := .seq #[x, y] }) :=
    ⟨Heap.get?_push_of_some _ Ze.zip, Ze.its.push _, Ze.out.push _, D1.frame _ _ _ Ze.st1 fun _ _ _ e => Heap.get?_push_of_some _ e, D2.frame _ _ _ Ze.st2 fun _ _ _ e => Heap.get?_push_of_some _ e⟩
  have nz : he.objs.size ≠ z := fun q => Nat.lt_irrefl _ (q ▸ Heap.lt_size Ze.zip)
  refine wpAny_bind (m := Builtin.SmallTypes.ownedTupleHandOut (.ref z) (.ref he.objs.size)) (wpAny_bind (Zs.mark D D1 D2 Zf (by decide) (m' := rawInt he.objs.size) rfl fun hg Zg xg => Zs.mark D D1 D2 Zg (by decide) (m' := rawInt he.objs.size) rfl fun hj Zj xj => wpAny_pure ?_))
  have tj : hj.IsTuple he.objs.size #[x, y] := Heap.IsTuple.extBut (Heap.IsTuple.extBut ⟨_, Heap.get?_push_size _ rfl, rfl, _, rfl⟩ xg.extBut nz) xj.extBut nz
  have kj : Kp [z, TO, i1, i2] s.heap hj := fun d o n e => xj.extBut d o (fun q => n (q ▸ mz)) (xg.extBut d o (fun q => n (q ▸ mz)) (Heap.get?_push_of_some _ (ke d o n e)))
  rw [sz] at Zj tj
  show R (.done (.ret (.ref he.objs.size))) _
  rw [sz]
  exact pair (Nat.lt_min.mpr ⟨l1, l2⟩) x y hj td p1 p2 Zj tj kj
end
end
end Mine

namespace Mine
open PySem

structure Src (prog : Program) (w : World) (h : Heap) (v : Value) (o : Obj) (f : List Addr) (n : Nat) (P : Nat → Value → Prop) (S : Addr → Nat → Heap → Prop) : Prop where
  iter : ∀ (prog : Program) (w : World) (A : Around) (E : Value → Shared → Prop) (s : Shared) (Q : Value → Shared → Prop), (∀ b ∈ f, ∀ o, h.get? b = some o → s.heap.get? b = some o) → Q (.ref s.heap.objs.size) { s with heap := s.heap.push o } → wpAny (model prog w) A (pyIter v) Q E s
  old : ∀ b ∈ f, ∃ o, h.get? b = some o
  live : o.isFreed = false
  draws : ∀ (A : Around) (it : Addr), A.handled = none → it ∉ f → Draws prog w A it (it :: f) n P (S it)
  start : ∀ (h' : Heap) (it : Addr), h'.get? it = some o → (∀ b ∈ f, ∀ o, h.get? b = some o → h'.get? b = some o) → S it 0 h'
  same : ∀ (it : Addr) (i : Nat) (h h' : Heap), S it i h → (∀ b ∈ it :: f, ∀ o, h.get? b = some o → o.cls ≠ .none → ∃ sl, h'.get? b = some { o with slots := sl } ∧ ((∃ vs, o.data = .fields vs) → sl = o.slots)) → S it i h'
  cls : ∀ (it : Addr) (i : Nat) (h' : Heap) (o' : Obj), S it i h' → h'.get? it = some o' → (∃ vs, o'.data = .fields vs) ∧ o'.cls ≠ .none ∧ o'.cls ≠ .type "code"

section
variable {prog : Program} {w : World} {h : Heap}
theorem srcTuple {t : Addr} {items : Array Value} (ht : h.IsTuple t items) :
    Src prog w h (.ref t) { cls := .type "tuple_iterator", data := .fields #[.ref t, .int 0 0] } [t] items.size (fun i v => items[i]? = some v) (fun it i h => h.IsTupleIter it t i ∧ h.IsTuple t items) where
  iter := fun _ _ A E s Q k hQ => wpAny_pyIter_tuple (let ⟨o, ho, r⟩ := ht; ⟨o, k t (List.mem_singleton.mpr rfl) o ho, r⟩) hQ
  old := fun b hb => let ⟨o, ho, _⟩ := ht; ⟨o, List.mem_singleton.mp hb ▸ ho⟩
  live := rfl
  draws := fun A it hh hn => drawsTuple hh it t (fun q => hn (q ▸ List.mem_singleton.mpr rfl)) items
  start := fun h' it e k => ⟨⟨_, e, rfl, rfl⟩, let ⟨o, ho, r⟩ := ht; ⟨o, k t (List.mem_singleton.mpr rfl) o ho, r⟩⟩
  same := fun it i h h' st k => by
    obtain ⟨⟨o, ho, hc, hd⟩, ⟨o2, ho2, hc2, r⟩⟩ := st
    obtain ⟨sl, e1, q1⟩ := k it List.mem_cons_self o ho (fun z => by rw [hc] at z; cases z)
    rw [q1 ⟨_, hd⟩] at e1
    obtain ⟨sl2, e2, _⟩ := k t (List.mem_cons_of_mem _ (List.mem_singleton.mpr rfl)) o2 ho2 (fun z => by rw [hc2] at z; cases z)
    exact ⟨⟨o, e1, hc, hd⟩, ⟨_, e2, hc2, r⟩⟩
  cls := fun it i h' o' st e => by
    obtain ⟨o, ho, hc, hd⟩ := st.1
    rw [e] at ho; cases ho
    refine ⟨⟨_, hd⟩, ?_, ?_⟩
    · intro z; rw [hc] at z; cases z
    · intro z; rw [hc] at z; injection z with z; exact absurd z (by decide)
theorem srcList {t : Addr} {items : Array Value} (ht : h.IsList t items) :
    Src prog w h (.ref t) { cls := .type "list_iterator", data := .fields #[.ref t, .int 0 0] } [t] items.size (fun i v => items[i]? = some v) (fun it i h => h.IsListIter it t i ∧ h.IsList t items) where
  iter := fun _ _ A E s Q k hQ => wpAny_pyIter_list (let ⟨o, ho, r⟩ := ht; ⟨o, k t (List.mem_singleton.mpr rfl) o ho, r⟩) hQ
  old := fun b hb => let ⟨o, ho, _⟩ := ht; ⟨o, List.mem_singleton.mp hb ▸ ho⟩
  live := rfl
  draws := fun A it hh hn => Draws.list hh it t (fun q => hn (q ▸ List.mem_singleton.mpr rfl)) items
  start := fun h' it e k => ⟨⟨_, e, rfl, rfl⟩, let ⟨o, ho, r⟩ := ht; ⟨o, k t (List.mem_singleton.mpr rfl) o ho, r⟩⟩
  same := fun it i h h' st k => by
    obtain ⟨⟨o, ho, hc, hd⟩, ⟨o2, ho2, hc2, r⟩⟩ := st
    obtain ⟨sl, e1, q1⟩ := k it List.mem_cons_self o ho (fun z => by rw [hc] at z; cases z)
    rw [q1 ⟨_, hd⟩] at e1
    obtain ⟨sl2, e2, _⟩ := k t (List.mem_cons_of_mem _ (List.mem_singleton.mpr rfl)) o2 ho2 (fun z => by rw [hc2] at z; cases z)
    exact ⟨⟨o, e1, hc, hd⟩, ⟨_, e2, hc2, r⟩⟩
  cls := fun it i h' o' st e => by
    obtain ⟨o, ho, hc, hd⟩ := st.1
    rw [e] at ho; cases ho
    refine ⟨⟨_, hd⟩, ?_, ?_⟩
    · intro z; rw [hc] at z; cases z
    · intro z; rw [hc] at z; injection z with z; exact absurd z (by decide)
theorem srcStr (x : Str) (t : Tok) :
    Src prog w h (.str x t) { cls := .type (strIterType x), data := .fields #[.str x t, .int 0 0] } [] x.cps.size (fun i v => ∃ c u, x.cps[i]? = some c ∧ v = .str ⟨#[c]⟩ u) (fun it i h => h.IsStrIter it (strIterType x) x t i) where
  iter := fun _ _ A E s Q k hQ => wpAny_pyIter_strU hQ
  old := fun b hb => by cases hb
  live := rfl
  draws := fun A it hh hn => by
    cases ha : x.cps.all (· < 128)
    · rw [show strIterType x = "str_iterator" by simp [strIterType, ha]]; exact Draws.strWide hh it x t
    · rw [show strIterType x = "str_ascii_iterator" by simp [strIterType, ha]]; exact Draws.strAscii hh it x t
  start := fun h' it e k => ⟨_, e, rfl, rfl⟩
  same := fun it i h h' st k => by
    obtain ⟨o, ho, hc, hd⟩ := st
    obtain ⟨sl, e1, q1⟩ := k it List.mem_cons_self o ho (fun z => by rw [hc] at z; cases z)
    rw [q1 ⟨_, hd⟩] at e1
    exact ⟨o, e1, hc, hd⟩
  cls := fun it i h' o' st e => by
    obtain ⟨o, ho, hc, hd⟩ := st
    rw [e] at ho; cases ho
    refine ⟨⟨_, hd⟩, ?_, fun z => ?_⟩
    · intro z; rw [hc] at z; cases z
    rw [hc] at z; injection z with z
    unfold strIterType at z
    split at z <;> exact absurd z (by decide)
end

noncomputable abbrev lay (h : Heap) (l : List Obj) : Heap := l.foldl Heap.push h
theorem lay_old {c : Addr} {o : Obj} : ∀ (l : List Obj) {h : Heap}, h.get? c = some o → (lay h l).get? c = some o
  | [], _, e => e
  | _ :: r, _, e => lay_old r (Heap.get?_push_of_some _ e)
theorem lay_new {o : Obj} (live : o.isFreed = false) : ∀ (l : List Obj) (h : Heap) (k : Nat), l[k]? = some o → (lay h l).get? (h.objs.size + k) = some o
  | p :: r, h, 0, e => by cases e; exact lay_old r (Heap.get?_push_size _ live)
  | p :: r, h, k + 1, e => by
    have x := lay_new live r (h.push p) k e
    rw [Heap.size_push, Nat.add_assoc, Nat.add_comm 1 k] at x
    exact x
theorem lay_size : ∀ (l : List Obj) (h : Heap), (lay h l).objs.size = h.objs.size + l.length
  | [], _ => rfl
  | p :: r, h => by
    have x := lay_size r (h.push p)
    rw [Heap.size_push, Nat.add_assoc, Nat.add_comm 1] at x
    exact x
noncomputable abbrev zObjs (n : Nat) (o1 o2 : Obj) : List Obj :=
  [o1, o2, { cls := .type "tuple", data := .seq #[.ref n, .ref (n + 1)] }, { cls := .type "tuple", data := .seq #[.none, .none] }, { cls := .type "zip", data := .fields #[.none, .bool false, .bool false, .ref (n + 2), .ref (n + 3)] }]

noncomputable abbrev Lays (v : Value) (o : Obj) (R : Heap → Prop) : Prop :=
  ∀ (prog : Program) (w : World) (A : Around) (E : Value → Shared → Prop) (s : Shared) (Q : Value → Shared → Prop), R s.heap → Q (.ref s.heap.objs.size) { s with heap := s.heap.push o } → wpAny (model prog w) A (pyIter v) Q E s

theorem zip_new {v1 v2 : Value} {o1 o2 : Obj} {R1 R2 : Heap → Prop} (y1 : Lays v1 o1 R1) (y2 : Lays v2 o2 R2) (k2 : ∀ h, R2 h → R2 (h.push o1)) :
    Meets (Builtin.«zip.__new__» ⟨[.type "zip", v1, v2], []⟩) (fun _ R s => R1 s.heap ∧ R2 s.heap ∧ R (.ok (.ret (.ref (s.heap.objs.size + 4)))) { s with heap := lay s.heap (zObjs s.heap.objs.size o1 o2) }) := by
  refine .of_wp fun prog w A R s ⟨r1, r2, fin⟩ => ?_
  cases s with | mk hp ge dr tk os
  have sub := sub_zip
  replace r1 : R1 (Shared.heap ⟨hp, ge, dr, tk, os⟩) := r1
  replace r2 : R2 (Shared.heap ⟨hp.push o1, ge, dr, tk, os⟩) := k2 _ r2
  wp_walk using y1 prog w _ _ _ _ r1, y2 prog w _ _ _ _ r2
  simp only [Heap.size_push]
  exact ⟨_, rfl, fin⟩
end Mine

namespace Mine
open PySem

section
variable {prog : Program} {w : World} {A : Around} {E : Value → Shared → Prop} {s : Shared}
variable {z TI TO i1 i2 : Addr} {f1 f2 : List Addr} {n1 n2 : Nat} {P1 P2 : Nat → Value → Prop} {S1 S2 : Nat → Heap → Prop}

noncomputable def ZSt (z TI TO i1 i2 : Addr) (S1 S2 : Nat → Heap → Prop) (i : Nat) (h : Heap) : Prop :=
  IsZip h z TI TO .none ∧ h.IsTuple TI #[.ref i1, .ref i2] ∧ (∃ a b, h.IsTuple TO #[a, b]) ∧ S1 i h ∧ S2 i h
noncomputable def ZMid (z TI TO i1 i2 : Addr) (S1 S2 : Nat → Heap → Prop) (i : Nat) (T : Addr) (h : Heap) : Prop :=
  IsZip h z TI TO (rawInt T) ∧ h.IsTuple TI #[.ref i1, .ref i2] ∧ (∃ a b, h.IsTuple TO #[a, b]) ∧ S1 (i + 1) h ∧ S2 (i + 1) h ∧ T ∉ [z, TO, i1, i2]

theorem pyNext_zip {i : Nat} {Q : Option Value → Shared → Prop} (D : ZA z TI TO i1 i2 f1 f2) (D1 : Draws prog w A.in1 i1 f1 n1 P1 S1) (D2 : Draws prog w A.in1 i2 f2 n2 P2 S2) (hi : i ≤ min n1 n2) (st : ZSt z TI TO i1 i2 S1 S2 i s.heap)
    (pair : i < min n1 n2 → ∀ T x y h' tk, P1 i x → P2 i y → ZMid z TI TO i1 i2 S1 S2 i T h' → h'.IsTuple T #[x, y] → Kp [z, TO, i1, i2] s.heap h' → Q (some (.ref T)) { s with heap := h', toks := tk })
    (ends : i = min n1 n2 → ∀ h' tk, Kp [z, TO, i1, i2] s.heap h' → Q none { s with heap := h', toks := tk }) : wpAny (model prog w) A (pyNext (.ref z)) Q E s := by
  obtain ⟨gz, gi, ⟨a, b, go⟩, t1, t2⟩ := st
  have ty : s.TypeIs (.ref z) "zip" := ⟨_, gz, rfl⟩
  have new : s.heap.objs.size ∉ [z, TO, i1, i2] := fun hm => by
    have old : ∀ {c : Addr} {o : Obj}, s.heap.get? c = some o → s.heap.objs.size = c → False := fun e q => Nat.lt_irrefl _ (q ▸ Heap.lt_size e)
    rcases List.mem_cons.mp hm with q | hm
    · exact old gz q
    rcases List.mem_cons.mp hm with q | hm
    · exact go.elim fun _ r => old r.1 q
    rcases List.mem_cons.mp hm with q | hm
    · exact (D1.live _ _ t1).elim fun _ r => old r q
    · exact (D2.live _ _ t2).elim fun _ r => old r (List.mem_singleton.mp hm)
  refine wpAny_bind (m := (callSpecial? (.ref z) "__next__").attempt) (wpAny_attempt (wpAny_callSpecial?_slot ty F.slot_zip_next (wpAny_call_entry F.slot_zip_next ty F.entry_zip_next
    (zip_next D D1 D2 hi ⟨gz, gi, go, t1, t2⟩ (fun l x y h' tk p1 p2 Z t k => ⟨_, rfl, wpAny_pure (pair l _ x y h' tk p1 p2 ⟨Z.zip, Z.its, ⟨_, _, Z.out⟩, Z.st1, Z.st2, new⟩ t k)⟩) fun l h' tk e k ⟨o, g, c⟩ => ?_) (F.args_zip_next_1 _))))
  exact wpAny_bind (wpAny_isInstance (T := "StopIteration") ⟨o, g, c⟩ isSubtype_stop (wpAny_pure (ends l h' tk k)))

theorem walksZip (D : ZA z TI TO i1 i2 f1 f2) (m1 : i1 ∈ f1) (m2 : i2 ∈ f2) (D1 : Draws prog w A.in1 i1 f1 n1 P1 S1) (D2 : Draws prog w A.in1 i2 f2 n2 P2 S2) :
    WalksU prog w A z (z :: TI :: TO :: (f1 ++ f2)) [z, TO, i1, i2] (min n1 n2) (fun i vals => ∃ x y, P1 i x ∧ P2 i y ∧ vals = #[x, y]) (ZSt z TI TO i1 i2 S1 S2) (ZMid z TI TO i1 i2 S1 S2) := by
  have in1 : ∀ {c}, c ∈ f1 → c ∈ z :: TI :: TO :: (f1 ++ f2) := fun hc => List.mem_cons_of_mem _ (List.mem_cons_of_mem _ (List.mem_cons_of_mem _ (List.mem_append_left _ hc)))
  have in2 : ∀ {c}, c ∈ f2 → c ∈ z :: TI :: TO :: (f1 ++ f2) := fun hc => List.mem_cons_of_mem _ (List.mem_cons_of_mem _ (List.mem_cons_of_mem _ (List.mem_append_right _ hc)))
  have inO : TO ∈ z :: TI :: TO :: (f1 ++ f2) := List.mem_cons_of_mem _ (List.mem_cons_of_mem _ List.mem_cons_self)
  constructor
  case sub =>
    intro c hc
    rcases List.mem_cons.mp hc with q | hc
    · exact q ▸ List.mem_cons_self
    rcases List.mem_cons.mp hc with q | hc
    · exact q ▸ inO
    rcases List.mem_cons.mp hc with q | hc
    · exact q ▸ in1 m1
    · exact List.mem_singleton.mp hc ▸ in2 m2
  case frame =>
    rintro i h h' ⟨gz, ⟨oi, gi, ri⟩, ⟨a, b, oo, go, ro⟩, t1, t2⟩ k
    exact ⟨k z List.mem_cons_self _ gz, ⟨oi, k TI (List.mem_cons_of_mem _ List.mem_cons_self) _ gi, ri⟩, ⟨a, b, oo, k TO inO _ go, ro⟩, D1.frame _ _ _ t1 fun c hc => k c (in1 hc), D2.frame _ _ _ t2 fun c hc => k c (in2 hc)⟩
  case item => exact fun i s Q E hi st q => pyNext_zip D D1 D2 (Nat.le_of_lt hi) st (fun _ T x y h' tk p1 p2 m t k => q T _ h' tk ⟨x, y, p1, p2, rfl⟩ t m k) fun e => absurd e (Nat.ne_of_lt hi)
  case done => exact fun s Q E st q => pyNext_zip D D1 D2 (Nat.le_refl _) st (fun l => absurd l (Nat.lt_irrefl _)) fun _ => q
  case go =>
    rintro elts k pos i T s Q E ⟨gz, gi, ⟨a, b, go⟩, t1, t2, _⟩ q
    refine wpAny_letOwnedTupleGo_zip gz fun h' gz' x => q h' ⟨gz', gi.extBut x.extBut D.tz, ⟨a, b, go.extBut x.extBut D.oz⟩, src_by D1 t1 x.extBut (D.o1 z List.mem_cons_self), src_by D2 t2 x.extBut (D.o2 z List.mem_cons_self)⟩ ?_
    exact fun c o n e => x.extBut c o (fun q => n (q ▸ List.mem_cons_self)) e
  case apart => exact fun _ _ _ m => m.2.2.2.2.2
  case self => exact fun _ _ _ _ st q => wpAny_pyIter_zip st.1 q
end

section
variable {prog : Program} {w : World} {A : Around} {E : Value → Shared → Prop} {s : Shared}
variable {v1 v2 : Value} {o1 o2 : Obj} {f1 f2 : List Addr} {n1 n2 : Nat} {P1 P2 : Nat → Value → Prop} {S1 S2 : Addr → Nat → Heap → Prop}

theorem call_zipS {Q : Value → Shared → Prop} (R1 : Src prog w s.heap v1 o1 f1 n1 P1 S1) (R2 : Src prog w s.heap v2 o2 f2 n2 P2 S2)
    (h : ∀ h', h'.objs.size = s.heap.objs.size + 5 → (∀ c o, s.heap.get? c = some o → h'.get? c = some o) →
      (∀ A' : Around, A'.handled = none → WalksU prog w A' (s.heap.objs.size + 4) ((s.heap.objs.size + 4) :: (s.heap.objs.size + 2) :: (s.heap.objs.size + 3) :: ((s.heap.objs.size :: f1) ++ ((s.heap.objs.size + 1) :: f2))) [s.heap.objs.size + 4, s.heap.objs.size + 3, s.heap.objs.size, s.heap.objs.size + 1] (min n1 n2) (fun i vals => ∃ x y, P1 i x ∧ P2 i y ∧ vals = #[x, y])
        (ZSt (s.heap.objs.size + 4) (s.heap.objs.size + 2) (s.heap.objs.size + 3) s.heap.objs.size (s.heap.objs.size + 1) (S1 s.heap.objs.size) (S2 (s.heap.objs.size + 1))) (ZMid (s.heap.objs.size + 4) (s.heap.objs.size + 2) (s.heap.objs.size + 3) s.heap.objs.size (s.heap.objs.size + 1) (S1 s.heap.objs.size) (S2 (s.heap.objs.size + 1)))) →
      ZSt (s.heap.objs.size + 4) (s.heap.objs.size + 2) (s.heap.objs.size + 3) s.heap.objs.size (s.heap.objs.size + 1) (S1 s.heap.objs.size) (S2 (s.heap.objs.size + 1)) 0 h' → Q (.ref (s.heap.objs.size + 4)) { s with heap := h' }) :
    wpAny (model prog w) A (call (.type "zip") [v1, v2]) Q E s := by
  have keep : ∀ c o, s.heap.get? c = some o → (lay s.heap (zObjs s.heap.objs.size o1 o2)).get? c = some o := fun _ _ e => lay_old _ e
  have at_ : ∀ {o : Obj} (k : Nat), (zObjs s.heap.objs.size o1 o2)[k]? = some o → o.isFreed = false → (lay s.heap (zObjs s.heap.objs.size o1 o2)).get? (s.heap.objs.size + k) = some o := fun k e l => lay_new l _ _ k e
  have old1 : ∀ {k : Nat}, s.heap.objs.size + k ∉ f1 := fun {k} m => (R1.old _ m).elim fun _ e => Nat.not_lt_of_le (Nat.le_add_right _ k) (Heap.lt_size e)
  have old2 : ∀ {k : Nat}, s.heap.objs.size + k ∉ f2 := fun {k} m => (R2.old _ m).elim fun _ e => Nat.not_lt_of_le (Nat.le_add_right _ k) (Heap.lt_size e)
  have ne : ∀ {j k : Nat}, j ≠ k → s.heap.objs.size + j ≠ s.heap.objs.size + k := fun d q => d (Nat.add_left_cancel q)
  have cons : ∀ {c d : Nat} {l : List Addr}, c ≠ d → c ∉ l → c ∉ d :: l := fun p q m => (List.mem_cons.mp m).elim p q
  have three : ∀ {c d e : Nat} {P : Nat → Prop}, P c → P d → P e → ∀ b ∈ [c, d, e], P b := fun pc pd pe b m => by
    rcases List.mem_cons.mp m with q | m
    · exact q ▸ pc
    rcases List.mem_cons.mp m with q | m
    · exact q ▸ pd
    · exact List.mem_singleton.mp m ▸ pe
  have D : ZA (s.heap.objs.size + 4) (s.heap.objs.size + 2) (s.heap.objs.size + 3) (s.heap.objs.size + 0) (s.heap.objs.size + 1) ((s.heap.objs.size + 0) :: f1) ((s.heap.objs.size + 1) :: f2) :=
    ⟨ne (by decide), ne (by decide), ne (by decide), cons (ne (by decide)) (cons (ne (by decide)) (cons (ne (by decide)) List.not_mem_nil)), cons (ne (by decide)) (cons (ne (by decide)) (cons (ne (by decide)) List.not_mem_nil)),
      three (cons (ne (by decide)) old1) (cons (ne (by decide)) old1) (cons (ne (by decide)) old1), three (cons (ne (by decide)) old2) (cons (ne (by decide)) old2) (cons (ne (by decide)) old2)⟩
  refine callType_new F.called_zip (by decide) (F.typeCall_zip_2 _ _) (F.newCall_zip_2 _ _) (fun obj => F.args_object_init_3 obj _ _) F.entry_zip_new
    (zip_new (o1 := o1) (o2 := o2) (R1 := fun h => ∀ b ∈ f1, ∀ o, s.heap.get? b = some o → h.get? b = some o) (R2 := fun h => ∀ b ∈ f2, ∀ o, s.heap.get? b = some o → h.get? b = some o) R1.iter R2.iter fun _ k b m o e => Heap.get?_push_of_some _ (k b m o e))
    ⟨fun _ _ _ e => e, fun _ _ _ e => e, ⟨_, at_ 4 rfl rfl, rfl⟩, h _ (lay_size _ _) keep (fun A' hA => walksZip D List.mem_cons_self List.mem_cons_self (R1.draws _ _ hA (old1 (k := 0))) (R2.draws _ _ hA old2))
      ⟨at_ 4 rfl rfl, ⟨_, at_ 2 rfl rfl, rfl, _, rfl⟩, ⟨_, _, _, at_ 3 rfl rfl, rfl, _, rfl⟩, R1.start _ _ (at_ 0 rfl R1.live) fun b _ o e => keep b o e, R2.start _ _ (at_ 1 rfl R2.live) fun b _ o e => keep b o e⟩⟩
end
end Mine

namespace Mine
open PySem PySem.Calls PySem.Spec PyProof.Rows PySem.W

section
variable {X : Cfg} {c : Cx} {env : Env} {l : List Env} {L : Addr} {ρ : Env'} {Fa : Nat → Addr} {C : Calls} {A : Around} {N : Nat} {s : Shared}

theorem Rd.xtL {h h' : Heap} {m : Str → Option Value} {v : Value} {d : PyData} (r : Rd h v d) (n : h.Ns L m) (x : Xt [L] h h') : Rd h' v d :=
  r.move fun b o vs k e hd hc => by
    have nb : b ∉ [L] := fun z => by
      rw [List.mem_singleton.mp z] at e
      obtain ⟨o', es, ep, e1, e2, _⟩ := n
      rw [e] at e1; cases e1; rw [hd] at e2; cases e2
    obtain ⟨sl, e1, _⟩ := x b o nb e (.inl hc)
    exact ⟨sl, e1⟩
theorem tuple_xtL {h h' : Heap} {t : Addr} {items : Array Value} (x : h.IsTuple t items) (nb : t ∉ [L]) (xt : Xt [L] h h') : h'.IsTuple t items := by
  obtain ⟨o, ho, hc, n, hd⟩ := x
  obtain ⟨sl, e1, _⟩ := xt t o nb ho (.inl fun z => by rw [hc] at z; cases z)
  exact ⟨_, e1, hc, n, hd⟩
theorem fields_xtL {h h' : Heap} {t : Addr} {o : Obj} {vs : Array Value} (e : h.get? t = some o) (hc : o.cls ≠ .none) (hd : o.data = .fields vs) (nb : t ∉ [L]) (xt : Xt [L] h h') : h'.get? t = some o := by
  obtain ⟨sl, e1, q⟩ := xt t o nb e (.inl hc)
  rw [q ⟨_, hd⟩] at e1
  exact e1

theorem two_args {α β : Type} {Rel : Shared → β → α → Prop} {S : List Addr} {Q : β → Shared → Prop} {E : Value → Shared → Prop} {K : Value → Shared → Prop} {F : PyData → PyData → R α} {n : String} {f : Str} {fp cp : Pos} {u v : Expr} {e₁ e₂ : PE} (T : Sit X c Fa C A env l L) (h : Here X c env l L ρ s) (hS : ∀ a ∈ S, a ∈ fr (env :: l)) (hf : isBt c f (.type n) = true) (pu : plainArg u = true) (pv : plainArg v = true)
    (i1 : ∀ (s : Shared) (Q : Value → Shared → Prop) (E : Value → Shared → Prop), Here X c env l L ρ s → Sp X RelV [] (env :: l) s Q E (ev C e₁ ρ) → wpAny (model X.prog X.w) A (eval u env) Q E s)
    (i2 : ∀ (s : Shared) (Q : Value → Shared → Prop) (E : Value → Shared → Prop), Here X c env l L ρ s → Sp X RelV [] (env :: l) s Q E (ev C e₂ ρ) → wpAny (model X.prog X.w) A (eval v env) Q E s)
    (sp : Sp X Rel S (env :: l) s Q E ((ev C e₁ ρ).bind fun x => (ev C e₂ ρ).bind fun y => F x y))
    (kk : ∀ d₁ v₁ d₂ v₂ s₂, Here X c env l L ρ s₂ → Rd s₂.heap v₁ d₁ → Rd s₂.heap v₂ d₂ → Sp X Rel S (env :: l) s₂ Q E (F d₁ d₂) → wpAny (model X.prog X.w) A (call (.type n) [v₁, v₂]) K E s₂) :
    wpAny (model X.prog X.w) A (eval (.Call (.Name f fp) [u, v] [] cp) env) K E s :=
  Call_ (load_bt T h.w hf (PyProof.Rows.callWith_type1 (args_cons (i1 _ _ _ h (Sp.bind0 sp hS fun d₁ v₁ s₁ o₁ r₁ sp₁ => args_cons (i2 _ _ _ (h.step o₁) (Sp.bind0 sp₁ hS fun d₂ v₂ s₂ o₂ r₂ sp₂ => args_nil (kk d₁ v₁ d₂ v₂ s₂ ((h.step o₁).step o₂) (r₁.xt o₂.1) r₂ sp₂))) (star_plain pv))) (star_plain pu)) (star_plain pu) (by rw [star_plain pv]; rfl)))

theorem asg_tup {is : List Nat} {ts : List Expr} {k : Nat} {p : Pos} {v : Value} {xs : List PyData} {ρ' : Env'} {Q' : Unit → Shared → Prop} {E' : Value → Shared → Prop} (T : Sit X c Fa C A env l L) (nd : c.ns.Nodup) (ok1 : okNames c is ts = true) (r : Rd s.heap v (.tuple xs)) (h : Here X c env l L ρ s) (e1 : putAll is xs ρ = some ρ')
    (kq : ∀ s', Ok X [L] s s' → Here X c env l L ρ' s' → Q' () s') : wpAny (model X.prog X.w) A (assign (.Tuple ts k p) env v) Q' E' s := by
  cases r with
  | tuple ho hc hd z ra =>
    rename_i a o vs n
    have ht : IsTup s.heap a vs := ⟨_, ho, hc, _, hd⟩
    have hlen : (assignEach ts env).length = vs.size := by
      have l1 := putAll_length e1
      have l2 := okNames_length ok1
      have l3 := ra.length
      rw [Array.length_toList] at l3
      rw [(assignEach_names ok1).1]; lia
    refine assign_Tuple_tuple T.hh ht hlen (assignEach_names ok1).2 fun h' he => ?_
    have o' : Ok X [] s { s with heap := h' } := Ok.keeps h.w (Nat.le_refl _) fun b o e => he b o (Nat.ne_of_lt (Heap.lt_size e)) e
    exact stores_fwd T nd is ok1 e1 (h.step o') (ra.xt o'.1) fun s₂ o₂ h₂ => kq _ (o'.weak.trans o₂) h₂

theorem loop_soundT {target : Expr} {body : List Stmt} {b : List PS} {set : PyData → Env' → Option Env'} {I : Addr} {wr : List Addr} {St : Nat → Heap → Prop} {Mid PV : Nat → Value → Heap → Prop} {ds : List PyData} {s₀ s₂ : Shared} {Q : Flow → Shared → Prop} {R' : Result → Shared → Prop}
    (item : ∀ (i : Nat) (s : Shared) (Q : Option Value → Shared → Prop) (E : Value → Shared → Prop), i < ds.length → St i s.heap → (∀ v h' tk, Mid i v h' → (∀ b o, b ∉ wr → s.heap.get? b = some o → h'.get? b = some o) → Q (some v) { s with heap := h', toks := tk }) → wpAny (model X.prog X.w) A (pyNext (.ref I)) Q E s)
    (go : ∀ (i : Nat) (v : Value) (s : Shared) (Q : Unit → Shared → Prop) (E : Value → Shared → Prop), Mid i v s.heap → (∀ h', St (i + 1) h' → PV i v h' → (∀ b o, b ∉ wr → s.heap.get? b = some o → h'.get? b = some o) → Q () { s with heap := h' }) → wpAny (model X.prog X.w) A (letOwnedTupleGo target (.ref I) v) Q E s)
    (done : ∀ (s : Shared) (Q : Option Value → Shared → Prop) (E : Value → Shared → Prop), St ds.length s.heap → (∀ h' tk, (∀ b o, b ∉ wr → s.heap.get? b = some o → h'.get? b = some o) → Q none { s with heap := h', toks := tk }) → wpAny (model X.prog X.w) A (pyNext (.ref I)) Q E s)
    (hit : ∀ (i : Nat) h, St i h → ItAt X wr s₀ h) (hitM : ∀ (i : Nat) v h, Mid i v h → ItAt X wr s₀ h)
    (frame : ∀ (i : Nat) h h', St i h → Xt [L] h h' → St i h')
    (asg : ∀ (i : Nat) (d : PyData) (v : Value) (ρ ρ' : Env') (s₁ : Shared) (Q' : Unit → Shared → Prop) (E' : Value → Shared → Prop), PV i v s₁.heap → ds[i]? = some d → Ok X [L] s₀ s₁ → St (i + 1) s₁.heap → Here X c env l L ρ s₁ → set d ρ = some ρ' →
      (∀ s', Ok X [L] s₁ s' → Here X c env l L ρ' s' → Q' () s') → wpAny (model X.prog X.w) A (assign target env v) Q' E' s₁)
    (ib : ∀ (ρ : Env') (s : Shared) (Q : Flow → Shared → Prop) (E : Value → Shared → Prop), Here X c env l L ρ s → Sp X (RelF X c env l L) [L] (env :: l) s Q E (Mine.execs C N b ρ) → wpAny (model X.prog X.w) A (PySem.execs body env) Q E s)
    (hR : ∀ f s', Q f s' → R' (.ok f) s')
    (o₂ : Ok X [L] s₀ s₂) (h₂ : Here X c env l L ρ s₂) (st₀ : St 0 s₂.heap)
    (sp : ∀ (E : Value → Shared → Prop), Sp X (RelF X c env l L) [L] (env :: l) s₀ Q E (noExc (loopF set (fun ρ => Mine.execs C N b ρ) ds ρ))) :
    codeAny (model X.prog X.w) A (.forLoop target (.ref I) body [] env) R' s₂ := by
  refine codeAny_forLoop_any (fun k s' => ∃ i ρ₁, i + k = ds.length + 1 ∧ i ≤ ds.length ∧ Ok X [L] s₀ s' ∧ Here X c env l L ρ₁ s' ∧ St i s'.heap ∧ ∀ (E : Value → Shared → Prop), Sp X (RelF X c env l L) [L] (env :: l) s₀ Q E (noExc (loopF set (fun ρ => Mine.execs C N b ρ) (ds.drop i) ρ₁)))
    ?_ (ds.length + 1) ⟨0, ρ, Nat.zero_add _, Nat.zero_le _, o₂, h₂, st₀, sp⟩
  rintro k s₁ ⟨i, ρ₁, hk, hi, o₁, h₁, st, sp₁⟩
  have tkpos : ∀ {tk : Nat}, s₁.toks ≤ tk → 0 < tk := fun h => Nat.lt_of_lt_of_le h₁.w.toks h
  by_cases hlt : i < ds.length
  · refine wpAny_tk (item i s₁ _ _ hlt st fun v h' tk hm kk => fun htk => ?_)
    have e : ds.drop i = ds[i] :: ds.drop (i + 1) := List.drop_eq_getElem_cons hlt
    rw [e] at sp₁
    rw [loopFE] at sp₁
    cases hset : set ds[i] ρ₁ with
    | none => exact (sp₁ (fun _ _ => True) |> fun z => by rw [hset] at z; exact z.elim)
    | some ρ' =>
      have itA := hit i _ st
      have o₃ := o₁.moved kk (tkpos htk) itA
      have h₃ := h₁.moved kk (tkpos htk) itA
      refine go i v _ _ _ hm fun h'' st' pv kk' => ?_
      have itM := hitM i v _ hm
      have o₄ := o₃.moved (h' := h'') kk' (tkpos htk) itM
      have h₄ := h₃.moved (h' := h'') kk' (tkpos htk) itM
      refine asg i ds[i] v ρ₁ ρ' _ _ _ pv (List.getElem?_eq_getElem hlt) o₄ st' h₄ hset fun s₅ o₅ h₅ => ?_
      refine ib ρ' s₅ _ _ h₅ ?_
      have sp₂ := fun E => sp₁ E
      rw [hset] at sp₂
      simp only [R.ofOpt_some, R.bind_ok] at sp₂
      revert sp₂
      cases Mine.execs C N b ρ' with
      | ok f =>
        intro sp₂ fl s₆ o₆ r₆
        have o₇ := (o₄.trans o₅).trans o₆
        cases f with
        | next ρ'' =>
          obtain ⟨rfl, h₆⟩ := r₆
          exact ⟨k - 1, by lia, i + 1, ρ'', by lia, hlt, o₇, h₆, frame _ _ _ st' (o₅.1.trans o₆.1), sp₂⟩
        | ret d =>
          obtain ⟨u, rfl, r₇⟩ := r₆
          exact hR _ _ (sp₂ (fun _ _ => True) _ _ o₇ ⟨u, rfl, r₇⟩)
      | exc b => exact fun sp₂ => (sp₂ (fun _ _ => True)).elim
      | stuck => exact fun sp₂ => (sp₂ (fun _ _ => True)).elim
  · have hin : i = ds.length := Nat.le_antisymm hi (Nat.le_of_not_lt hlt)
    subst hin
    refine wpAny_tk (done s₁ _ _ st fun h' tk kk => fun htk => wpAny_execs_nil (hR _ _ ?_))
    rw [List.drop_length] at sp₁
    have itA := hit _ _ st
    exact sp₁ (fun _ _ => True) _ _ (o₁.moved kk (tkpos htk) itA) ⟨rfl, h₁.moved kk (tkpos htk) itA⟩
end
end Mine

namespace Mine
open PySem PySem.Calls PySem.Spec PyProof.Rows PySem.W

section
variable {X : Cfg} {c : Cx} {env : Env} {l : List Env} {L : Addr} {ρ : Env'} {Fa : Nat → Addr} {C : Calls} {A : Around} {N : Nat} {s : Shared}

theorem RdAll.at {h : Heap} {vs : Array Value} {ds : List PyData} {i : Nat} {d : PyData} {v : Value} (ra : RdAll h vs.toList ds) (hd : ds[i]? = some d) (hv : vs[i]? = some v) : Rd h v d := by
  obtain ⟨u, hu, r⟩ := ra.get i d hd
  have h1 : vs.toList[i]? = some v := by rw [Array.getElem?_toList]; exact hv
  rw [h1] at hu
  rw [Option.some.inj hu]; exact r

theorem for_tup_sound {xs : List Nat} {ts es : List Expr} {k ke : Nat} {tp ep pos : Pos} {e : PE} {body : List Stmt} {b : List PS} {Q : Flow → Shared → Prop} {E : Value → Shared → Prop} (T : Sit X c Fa C A env l L) (nd : c.ns.Nodup) (h : Here X c env l L ρ s) (ok1 : okNames c xs ts = true)
    (ie : ∀ (s : Shared) (Q : Value → Shared → Prop) (E : Value → Shared → Prop), Here X c env l L ρ s → Sp X RelV [] (env :: l) s Q E (ev C e ρ) → wpAny (model X.prog X.w) A (eval (.Tuple es ke ep) env) Q E s)
    (ib : ∀ (ρ : Env') (s : Shared) (Q : Flow → Shared → Prop) (E : Value → Shared → Prop), Here X c env l L ρ s → Sp X (RelF X c env l L) [L] (env :: l) s Q E (Mine.execs C N b ρ) → wpAny (model X.prog X.w) A (PySem.execs body env) Q E s)
    (sp : Sp X (RelF X c env l L) [L] (env :: l) s Q E (Mine.exec C N (.forTup xs e b) ρ)) :
    wpAny (model X.prog X.w) A (PySem.exec (.For (.Tuple ts k tp) (.Tuple es ke ep) body [] pos) env) Q E s := by
  rw [execE_forTup] at sp
  refine wpAny_For (ie _ _ _ h (Sp.bind0 sp (frS T) fun d v s₁ o₁ r₁ sp₁ => ?_))
  have h₁ := h.step o₁
  cases r₁ with
  | tuple ho hc hd z ra =>
    rename_i a o vs n ds
    replace sp₁ : Sp X (RelF X c env l L) [L] (env :: l) s₁ Q E (noExc (loopF (tset xs) (fun ρ => Mine.execs C N b ρ) ds ρ)) := sp₁
    have ht : s₁.heap.IsTuple a vs := ⟨_, ho, hc, _, hd⟩
    have hl := ra.length
    rw [Array.length_toList] at hl
    have hne : a ≠ s₁.heap.objs.size := Nat.ne_of_lt (Heap.lt_size ho)
    obtain ⟨m, n₁, _⟩ := h₁.fm
    have hnone : s₁.heap.get? s₁.heap.objs.size = none := size_none _ (Nat.le_refl _)
    have hXn := T.none h₁.w.h hnone
    have hLI : s₁.heap.objs.size ∉ [L] := fun z => by
      obtain ⟨o', es', ep', e', _⟩ := n₁
      rw [← List.mem_singleton.mp z, hnone] at e'; cases e'
    have hLa : a ∉ [L] := fun z => by
      obtain ⟨o', es', ep', e', d', _⟩ := n₁
      rw [← List.mem_singleton.mp z, ho] at e'; cases e'; rw [hd] at d'; cases d'
    have it : ∀ {i : Nat} {h' : Heap}, h'.IsTupleIter s₁.heap.objs.size a i → ItAt X [s₁.heap.objs.size] s₁ h' := fun {i h'} st b hb => by
      rw [List.mem_singleton.mp hb]
      obtain ⟨o', e', c', d'⟩ := st
      exact ⟨hXn, hnone, fun o e => by
        rw [e'] at e; cases e
        exact ⟨⟨_, d'⟩, (fun z => by rw [c'] at z; cases z), fun z => by rw [c'] at z; injection z with z; exact absurd z (by decide)⟩⟩
    have W := Walks.tuple (prog := X.prog) (w := X.w) T.hh s₁.heap.objs.size a hne vs
    have o₂ : Ok X [L] s₁ { s₁ with heap := s₁.heap.push { cls := .type "tuple_iterator", data := .fields #[.ref a, .int 0 0] } } := Ok.keeps h₁.w (Nat.le_refl _) fun b o e => Heap.get?_push_of_some _ e
    have o₂' : Ok X [] s₁ { s₁ with heap := s₁.heap.push { cls := .type "tuple_iterator", data := .fields #[.ref a, .int 0 0] } } := Ok.keeps h₁.w (Nat.le_refl _) fun b o e => Heap.get?_push_of_some _ e
    refine wpAny_pyIter_tuple ht (loop_soundT (N := N) (b := b) (set := tset xs) (ds := ds) (s₀ := s₁) (Q := Q) (wr := [s₁.heap.objs.size])
      (St := fun i h => h.IsTupleIter s₁.heap.objs.size a i ∧ h.IsTuple a vs) (Mid := fun i v h => vs[i]? = some v ∧ h.IsTupleIter s₁.heap.objs.size a (i + 1) ∧ h.IsTuple a vs) (PV := fun i v _ => vs[i]? = some v)
      (fun i s Q E hi st hQ => W.item i s Q E (hl ▸ hi) st fun v h' tk hp st' kk => hQ v h' tk ⟨hp, st'⟩ kk)
      (fun i v s Q E hm hQ => letGo_tupleiter hm.2.1 (hQ s.heap hm.2 hm.1 fun _ _ _ e => e))
      (fun s Q E st hQ => W.done s Q E (hl ▸ st) hQ) (fun i h' st => it st.1) (fun i v h' st => it st.2.1)
      (fun i h' h'' st xt => ⟨?_, tuple_xtL st.2 hLa xt⟩) (fun i d v ρ₁ ρ' s₃ Q' E' hp hdi o₃ _ hh hset kq => ?_) ib (fun f s' q => q) o₂ (h₁.step o₂') ⟨⟨_, Heap.get?_push_size _ rfl, rfl, rfl⟩, let ⟨o', e', r'⟩ := ht; ⟨o', Heap.get?_push_of_some _ e', r'⟩⟩ (fun E' => spNo sp₁))
    · obtain ⟨o', e', c', d'⟩ := st.1
      exact ⟨o', fields_xtL e' (fun z => by rw [c'] at z; cases z) d' hLI xt, c', d'⟩
    · have r := (ra.at hdi hp).xtL n₁ o₃.1
      cases d with
      | tuple q => exact asg_tup T nd ok1 r hh hset kq
      | _ => cases hset
  | _ => exact sp₁.elim
end
end Mine

namespace Mine
open PySem PySem.Calls PySem.Spec PyProof.Rows PySem.W

section
variable {X : Cfg} {c : Cx} {env : Env} {l : List Env} {L : Addr} {ρ : Env'} {Fa : Nat → Addr} {C : Calls} {A : Around} {N : Nat} {s s₀ : Shared}

noncomputable def ItZ (X : Cfg) (wr : List Addr) (s₀ : Shared) (h : Heap) : Prop := ∀ b ∈ wr, X.H.get? b = none ∧ s₀.heap.get? b = none ∧ ∀ o, h.get? b = some o → o.cls ≠ .none ∧ o.cls ≠ .type "code"
theorem Ok.movedZ {wr : List Addr} {S : List Addr} {h' : Heap} {tk : Nat} (x : Ok X S s₀ s) (k : ∀ b o, b ∉ wr → s.heap.get? b = some o → h'.get? b = some o) (htk : 0 < tk) (it : ItZ X wr s₀ s.heap) : Ok X S s₀ { s with heap := h', toks := tk } := by
  refine ⟨fun b o nb e ko => ?_, ⟨⟨fun b o e q => k b o (fun z => ?_) (x.2.h.old b o e q), X.tab s.heap h' (fun b o vs e hd hc => k b o (fun z => ?_) e) x.2.h.tab⟩, x.2.gens, x.2.os, htk⟩⟩
  · obtain ⟨sl, e2, q⟩ := x.1 b o nb e ko
    exact ⟨sl, k b _ (fun z => by rw [(it b z).2.1] at e; cases e) e2, q⟩
  · rw [(it b z).1] at e; cases e
  · obtain ⟨n1, n2⟩ := (it b z).2.2 o e
    exact hc.elim n1 n2

structure Inv (X : Cfg) (c : Cx) (L : Addr) (s₀ : Shared) (ρ : Env') (s : Shared) : Prop where
  ok : Ok X [L] s₀ s
  fm : ∃ m, s.heap.Ns L m ∧ ∀ (i : Nat) (d : PyData), ρ[i]? = some (some d) → ∃ x v, c.ns[i]? = some x ∧ m x = some v ∧ (Rd s₀.heap v d ∨ ∀ h, Rd h v d)
theorem Inv.here {ρ₀ : Env'} (x : Inv X c L s₀ ρ s) (h₀ : Here X c env l L ρ₀ s₀) : Here X c env l L ρ s := by
  obtain ⟨m, n, k⟩ := x.fm
  obtain ⟨m₀, n₀, _⟩ := h₀.fm
  refine ⟨x.ok.2, funFrames_xt x.ok.1 h₀.ff (fun a ha => ⟨m, by rw [List.mem_singleton.mp ha]; exact n⟩), m, n, fun i d e => ?_⟩
  obtain ⟨y, v, e1, e2, r⟩ := k i d e
  exact ⟨y, v, e1, e2, r.elim (fun r => r.xtL n₀ x.ok.1) fun r => r _⟩
theorem Inv.moved {wr : List Addr} {h' : Heap} {tk : Nat} (x : Inv X c L s₀ ρ s) (k : ∀ b o, b ∉ wr → s.heap.get? b = some o → h'.get? b = some o) (htk : 0 < tk) (it : ItZ X wr s₀ s.heap) (hL : L ∉ wr) : Inv X c L s₀ ρ { s with heap := h', toks := tk } := by
  obtain ⟨m, ⟨o, es, ep, ho, r⟩, km⟩ := x.fm
  exact ⟨x.ok.movedZ k htk it, m, ⟨o, es, ep, k _ _ hL ho, r⟩, km⟩
theorem Inv.step {s' : Shared} (x : Inv X c L s₀ ρ s) (o : Ok X [] s s') : Inv X c L s₀ ρ s' := by
  obtain ⟨m, n, km⟩ := x.fm
  exact ⟨x.ok.trans o.weak, m, o.1.ns n (fun q => by cases q), km⟩
theorem Inv.store {A' : Around} {i : Nat} {x : Str} {v : Value} {d : PyData} {Q : Unit → Shared → Prop} {E : Value → Shared → Prop} (T : Sit X c Fa C A env l L) (nd : c.ns.Nodup) (h : Inv X c L s₀ ρ s) (hx : c.ns[i]? = some x) (hk : kindIs c x .local = true) (r : Rd s₀.heap v d ∨ ∀ h, Rd h v d)
    (k : ∀ h', Heap.SameBut L s.heap h' → Inv X c L s₀ (ρ.set i (some d)) { s with heap := h', toks := s.toks + 1 } → Q () { s with heap := h', toks := s.toks + 1 }) : wpAny (model X.prog X.w) A' (storeName env x v) Q E s := by
  obtain ⟨m, n, km⟩ := h.fm
  have T' := T
  obtain ⟨q, a, cd, rfl⟩ := T.ev
  obtain ⟨k1, _⟩ := kindIs_eq hk
  refine wpAny_storeName_local (env := envOf q c.sc L a cd) k1 n (fun h' hn' hs' => ?_) ?_
  · have xt : Xt [L] s.heap h' := fun b o nb e _ => ⟨o.slots, (hs'.2 b (fun z => nb (by rw [z]; exact List.mem_cons_self))).trans e, fun _ => rfl⟩
    have w' : W X { s with heap := h', toks := s.toks + 1 } := ⟨h.ok.2.h.store n T'.new hs', h.ok.2.gens, h.ok.2.os, Nat.lt_succ_of_lt h.ok.2.toks⟩
    refine k _ hs' ⟨h.ok.trans ⟨xt, w'⟩, _, hn', fun j e ej => ?_⟩
    by_cases hij : i = j
    · subst hij
      rw [List.getElem?_set] at ej
      simp only [if_true] at ej
      split at ej
      · cases ej
        exact ⟨x, v, hx, by simp, r⟩
      · cases ej
    · rw [List.getElem?_set_ne hij] at ej
      obtain ⟨y, u, e1, e2, e3⟩ := km j e ej
      refine ⟨y, u, e1, ?_, e3⟩
      have : y ≠ x := fun z => hij (by
        subst z
        exact nodup_get nd hx e1)
      simp [this, e2]
  · show (c.sc.kind == .class || (c.sc.kind == .module && _)) = false
    rw [T'.kind]; rfl

theorem zipD_get {x : Str} {q : List PyData} {i : Nat} {d : PyData} (h : (zipD x q)[i]? = some d) : ∃ ch y, x.cps[i]? = some ch ∧ q[i]? = some y ∧ d = .tuple [dS [ch], y] := by
  unfold zipD at h
  rw [List.getElem?_map] at h
  cases e : (((sl x).map fun c => dS [c]).zip q)[i]? with
  | none => rw [e] at h; cases h
  | some p =>
    rw [e] at h
    obtain ⟨a, b⟩ := p
    obtain ⟨e1, e2⟩ := List.getElem?_zip_eq_some.mp e
    rw [List.getElem?_map] at e1
    cases e3 : (sl x)[i]? with
    | none => rw [e3] at e1; cases e1
    | some ch =>
      rw [e3] at e1
      cases e1
      exact ⟨ch, b, by rw [← Array.getElem?_toList]; exact e3, e2, (Option.some.inj h).symm⟩
theorem zipD_length (x : Str) (q : List PyData) : (zipD x q).length = min x.cps.size q.length := by
  unfold zipD; rw [List.length_map, List.length_zip, List.length_map]; rfl

theorem zst_same {z TI TO i1 i2 : Addr} {v1 v2 : Value} {o1 o2 : Obj} {f1 f2 : List Addr} {n1 n2 : Nat} {P1 P2 : Nat → Value → Prop} {S1 S2 : Addr → Nat → Heap → Prop} {h₀ h h' : Heap} {i : Nat} (R1 : Src X.prog X.w h₀ v1 o1 f1 n1 P1 S1) (R2 : Src X.prog X.w h₀ v2 o2 f2 n2 P2 S2)
    (st : ZSt z TI TO i1 i2 (S1 i1) (S2 i2) i h) (k : ∀ b ∈ z :: TI :: TO :: ((i1 :: f1) ++ (i2 :: f2)), ∀ o, h.get? b = some o → o.cls ≠ .none → ∃ sl, h'.get? b = some { o with slots := sl } ∧ ((∃ vs, o.data = .fields vs) → sl = o.slots)) : ZSt z TI TO i1 i2 (S1 i1) (S2 i2) i h' := by
  obtain ⟨hz, ⟨oI, hI, cI, rI⟩, ⟨a, b, oO, hO, cO, rO⟩, h1, h2⟩ := st
  obtain ⟨sl, e1, q1⟩ := k z List.mem_cons_self _ hz (fun z => by cases z)
  rw [q1 ⟨_, rfl⟩] at e1
  obtain ⟨sl2, e2, _⟩ := k TI (List.mem_cons_of_mem _ List.mem_cons_self) _ hI (fun z => by rw [cI] at z; cases z)
  obtain ⟨sl3, e3, _⟩ := k TO (List.mem_cons_of_mem _ (List.mem_cons_of_mem _ List.mem_cons_self)) _ hO (fun z => by rw [cO] at z; cases z)
  exact ⟨e1, ⟨_, e2, cI, rI⟩, ⟨a, b, _, e3, cO, rO⟩, R1.same _ _ _ _ h1 fun b hb => k b (List.mem_cons_of_mem _ (List.mem_cons_of_mem _ (List.mem_cons_of_mem _ (List.mem_append_left _ hb)))), R2.same _ _ _ _ h2 fun b hb => k b (List.mem_cons_of_mem _ (List.mem_cons_of_mem _ (List.mem_cons_of_mem _ (List.mem_append_right _ hb))))⟩
end
end Mine

namespace Mine
open PySem PySem.Calls PySem.Spec PyProof.Rows PySem.W

section
variable {X : Cfg} {c : Cx} {env : Env} {l : List Env} {L : Addr} {ρ : Env'} {Fa : Nat → Addr} {C : Calls} {A : Around} {N : Nat} {s : Shared}

theorem zip_asg {x y : Nat} {nx ny : Str} {px py tp : Pos} {kt : Nat} {s₀ : Shared} {Z : Heap → Prop} {fp : List Addr} {Tt : Addr} {va vb : Value} {da db : PyData} {K : Unit → Shared → Prop} {E : Value → Shared → Prop} (T : Sit X c Fa C A env l L) (nd : c.ns.Nodup)
    (hx : c.ns[x]? = some nx) (hkx : kindIs c nx .local = true) (hy : c.ns[y]? = some ny) (hky : kindIs c ny .local = true) (frame : ∀ h h', Z h → (∀ b ∈ fp, ∀ o, h.get? b = some o → h'.get? b = some o) → Z h') (hLf : L ∉ fp)
    (inv : Inv X c L s₀ ρ s) (st : Z s.heap) (hT : s.heap.IsTuple Tt #[va, vb]) (ra : Rd s₀.heap va da ∨ ∀ h, Rd h va da) (rb : Rd s₀.heap vb db ∨ ∀ h, Rd h vb db)
    (kk : ∀ s', Inv X c L s₀ ((ρ.set x (some da)).set y (some db)) s' → Z s'.heap → K () s') : wpAny (model X.prog X.w) A (assign (.Tuple [.Name nx px, .Name ny py] kt tp) env (.ref Tt)) K E s := by
  refine assign_Tuple_tuple T.hh hT rfl rfl fun h₃ he => ?_
  have old₃ : ∀ b o, s.heap.get? b = some o → h₃.get? b = some o := fun b o e => he b o (Nat.ne_of_lt (Heap.lt_size e)) e
  have inv₄ := inv.step (Ok.keeps (h' := h₃) inv.ok.2 (Nat.le_refl _) old₃)
  have st₃ := frame _ _ st fun b _ o e => old₃ b o e
  show wpAny _ _ (assignInOrder [assign (.Name nx px) env, assign (.Name ny py) env] [va, vb]) _ _ _
  exact assignInOrder_cons (assign_Name (Inv.store T nd inv₄ hx hkx ra fun h₄ hs₄ inv₅ => assignInOrder_cons (assign_Name (Inv.store T nd inv₅ hy hky rb fun h₅ hs₅ inv₆ => assignInOrder_nil (kk _ inv₆
    (frame _ _ (frame _ _ st₃ fun b hb o e => (hs₄.2 b fun z => hLf (z ▸ hb)).trans e) fun b hb o e => (hs₅.2 b fun z => hLf (z ▸ hb)).trans e))))))
theorem zip_body {k : Nat} {zn : Str} {zp ap : Pos} {w : Expr} {e : PE} {s₀ : Shared} {ρ₀ : Env'} {Z : Heap → Prop} {fp : List Addr} {t : Str} {K : Flow → Shared → Prop} {E : Value → Shared → Prop} (T : Sit X c Fa C A env l L) (nd : c.ns.Nodup) (h₀ : Here X c env l L ρ₀ s₀)
    (hz : c.ns[k]? = some zn) (hk : kindIs c zn .local = true) (hc : noComp w = true) (frame : ∀ h h', Z h → (∀ b ∈ fp, ∀ o, h.get? b = some o → h'.get? b = some o) → Z h') (hLf : L ∉ fp) (same : ∀ h h', Z h → Xt [] h h' → Z h')
    (ie : ∀ (ρ : Env') (s : Shared) (Q : Value → Shared → Prop) (E : Value → Shared → Prop), Here X c env l L ρ s → Sp X RelV [] (env :: l) s Q E (ev C e ρ) → wpAny (model X.prog X.w) A (eval w env) Q E s)
    (inv : Inv X c L s₀ ρ s) (st : Z s.heap) (he : ev C e ρ = .ok (.str t)) (kk : ∀ s', Inv X c L s₀ (ρ.set k (some (.str t))) s' → Z s'.heap → K .next s') :
    wpAny (model X.prog X.w) A (PySem.execs [.Assign [.Name zn zp] w ap] env) K E s := by
  refine wpAny_execs_cons (wpAny_Assign_Name (ie _ _ _ _ (inv.here h₀) ?_) (noSwap hc))
  rw [he]
  intro v s₇ o₇ r₇
  cases r₇ with
  | str _ tk₇ z₇ => exact Inv.store T nd (inv.step o₇) hz hk (.inr fun h => .str _ _ z₇) fun h₈ hs₈ inv₈ => wpAny_execs_nil (kk _ inv₈ (frame _ _ (same _ _ st o₇.1) fun b hb o e => (hs₈.2 b fun z => hLf (z ▸ hb)).trans e))

theorem zip_loop {x y k : Nat} {nx ny zn : Str} {px py zp ap : Pos} {kt : Nat} {tp : Pos} {w : Expr} {e : PE} {z TI TO i1 i2 : Addr} {o1 o2 : Obj} {xs : Str} {t1 : Tok} {a : Addr} {vs : Array Value} {q : List PyData} {S1 S2 : Addr → Nat → Heap → Prop} {s₀ s₂ : Shared} {Q : Flow → Shared → Prop} {R' : Result → Shared → Prop}
    (T : Sit X c Fa C A env l L) (nd : c.ns.Nodup) (h₀ : Here X c env l L ρ s₀) (hx : c.ns[x]? = some nx) (hkx : kindIs c nx .local = true) (hy : c.ns[y]? = some ny) (hky : kindIs c ny .local = true) (hz : c.ns[k]? = some zn) (hk : kindIs c zn .local = true) (hc : noComp w = true)
    (ie : ∀ (ρ : Env') (s : Shared) (Q : Value → Shared → Prop) (E : Value → Shared → Prop), Here X c env l L ρ s → Sp X RelV [] (env :: l) s Q E (ev C e ρ) → wpAny (model X.prog X.w) A (eval w env) Q E s)
    (R1 : Src X.prog X.w s₀.heap (.str xs t1) o1 [] xs.cps.size (fun i v => ∃ c u, xs.cps[i]? = some c ∧ v = .str ⟨#[c]⟩ u) S1) (R2 : Src X.prog X.w s₀.heap (.ref a) o2 [a] vs.size (fun i v => vs[i]? = some v) S2)
    (ra : RdAll s₀.heap vs.toList q) (hLa : a ≠ L)
    (W : WalksU X.prog X.w A z (z :: TI :: TO :: ((i1 :: []) ++ (i2 :: [a]))) [z, TO, i1, i2] (min xs.cps.size vs.size) (fun i vals => ∃ x y, (∃ c u, xs.cps[i]? = some c ∧ x = .str ⟨#[c]⟩ u) ∧ vs[i]? = some y ∧ vals = #[x, y]) (ZSt z TI TO i1 i2 (S1 i1) (S2 i2)) (ZMid z TI TO i1 i2 (S1 i1) (S2 i2)))
    (new : ∀ b ∈ [z, TI, TO, i1, i2], s₀.heap.objs.size ≤ b)
    (inv : Inv X c L s₀ ρ s₂) (st₀ : ZSt z TI TO i1 i2 (S1 i1) (S2 i2) 0 s₂.heap) (hR : ∀ f s', Q f s' → R' (.ok f) s')
    (sp : ∀ (E : Value → Shared → Prop), Sp X (RelF X c env l L) [L] (env :: l) s₀ Q E (noExc (loopF (zset x y) (zbody C e k) (zipD xs q) ρ))) :
    codeAny (model X.prog X.w) A (.forLoop (.Tuple [.Name nx px, .Name ny py] kt tp) (.ref z) [.Assign [.Name zn zp] w ap] [] env) R' s₂ := by
  have hlen : (zipD xs q).length = min xs.cps.size vs.size := by rw [zipD_length, ← ra.length, Array.length_toList]
  obtain ⟨m₀, n₀, _⟩ := h₀.fm
  have hLlt : L < s₀.heap.objs.size := n₀.lt
  have hLf : L ∉ z :: TI :: TO :: ((i1 :: []) ++ (i2 :: [a])) := fun hm => by
    simp only [List.cons_append, List.nil_append, List.mem_cons, List.mem_nil_iff, or_false] at hm
    rcases hm with r | r | r | r | r | r
    · exact Nat.not_le_of_lt hLlt (r ▸ new z (by simp))
    · exact Nat.not_le_of_lt hLlt (r ▸ new TI (by simp))
    · exact Nat.not_le_of_lt hLlt (r ▸ new TO (by simp))
    · exact Nat.not_le_of_lt hLlt (r ▸ new i1 (by simp))
    · exact Nat.not_le_of_lt hLlt (r ▸ new i2 (by simp))
    · exact hLa r.symm
  have hLw : L ∉ [z, TO, i1, i2] := fun hm => hLf (W.sub _ hm)
  have gone : ∀ {b : Addr}, b ∈ [z, TO, i1, i2] → X.H.get? b = none ∧ s₀.heap.get? b = none := fun {b} hb => by
    have : s₀.heap.objs.size ≤ b := new b (by
      simp only [List.mem_cons, List.mem_nil_iff, or_false] at hb ⊢
      rcases hb with r | r | r | r
      · exact .inl r
      · exact .inr (.inr (.inl r))
      · exact .inr (.inr (.inr (.inl r)))
      · exact .inr (.inr (.inr (.inr r))))
    have hn := size_none _ this
    exact ⟨T.none h₀.w.h hn, hn⟩
  have itz : ∀ {i : Nat} {f0 : Value} {h : Heap}, IsZip h z TI TO f0 → (∃ a b, h.IsTuple TO #[a, b]) → S1 i1 i h → S2 i2 i h → ItZ X [z, TO, i1, i2] s₀ h := fun {i f0 h} hz hTO h1 h2 b hb => by
    refine ⟨(gone hb).1, (gone hb).2, fun o e => ?_⟩
    simp only [List.mem_cons, List.mem_nil_iff, or_false] at hb
    rcases hb with rfl | rfl | rfl | rfl
    · rw [hz] at e; cases e
      exact ⟨(fun z => by cases z), fun z => by injection z with z; exact absurd z (by decide)⟩
    · obtain ⟨_, _, o', e', c', _⟩ := hTO
      rw [e] at e'; cases e'
      exact ⟨(fun z => by rw [c'] at z; cases z), fun z => by rw [c'] at z; injection z with z; exact absurd z (by decide)⟩
    · exact (R1.cls _ _ _ _ h1 e).2
    · exact (R2.cls _ _ _ _ h2 e).2
  refine codeAny_forLoop_any (fun n' s' => ∃ i ρ₁, i + n' = (zipD xs q).length + 1 ∧ i ≤ (zipD xs q).length ∧ Inv X c L s₀ ρ₁ s' ∧ ZSt z TI TO i1 i2 (S1 i1) (S2 i2) i s'.heap ∧ ∀ (E : Value → Shared → Prop), Sp X (RelF X c env l L) [L] (env :: l) s₀ Q E (noExc (loopF (zset x y) (zbody C e k) ((zipD xs q).drop i) ρ₁)))
    ?_ ((zipD xs q).length + 1) ⟨0, ρ, Nat.zero_add _, Nat.zero_le _, inv, st₀, sp⟩
  rintro n' s₁ ⟨i, ρ₁, hn, hi, inv₁, st, sp₁⟩
  have tkpos : ∀ {tk : Nat}, s₁.toks ≤ tk → 0 < tk := fun h => Nat.lt_of_lt_of_le inv₁.ok.2.toks h
  by_cases hlt : i < (zipD xs q).length
  · refine wpAny_tk (W.item i s₁ _ _ (hlen ▸ hlt) st fun Tt vals h₁ tk hP hT hm kk => fun htk => ?_)
    obtain ⟨va, vb, ⟨ch, tu, hch, rfl⟩, hvb, rfl⟩ := hP
    have inv₂ := inv₁.moved kk (tkpos htk) (itz st.1 st.2.2.1 st.2.2.2.1 st.2.2.2.2) hLw
    refine W.go _ _ _ i Tt _ _ _ hm fun h₂ st₂ kk' => ?_
    have inv₃ := inv₂.moved (h' := h₂) kk' (tkpos htk) (itz hm.1 hm.2.2.1 hm.2.2.2.1 hm.2.2.2.2.1) hLw
    have hT₂ : h₂.IsTuple Tt #[.str ⟨#[ch]⟩ tu, vb] := let ⟨o, e, r⟩ := hT; ⟨o, kk' _ o (W.apart i Tt _ hm) e, r⟩
    have ed := List.drop_eq_getElem_cons hlt
    rw [ed, loopFE] at sp₁
    obtain ⟨ch', yd, e1, e2, e3⟩ := zipD_get (List.getElem?_eq_getElem hlt)
    rw [hch] at e1; cases e1
    rw [e3] at sp₁
    have hev : ∃ t, ev C e ((ρ₁.set x (some (dS [ch]))).set y (some yd)) = .ok (.str t) := by
      have z := sp₁ fun _ _ => True
      replace z : Sp X (RelF X c env l L) [L] (env :: l) s₀ Q (fun _ _ => True) (noExc ((zbody C e k ((ρ₁.set x (some (dS [ch]))).set y (some yd))).bind _)) := z
      unfold zbody at z
      revert z
      cases ev C e ((ρ₁.set x (some (dS [ch]))).set y (some yd)) with
      | ok d =>
        cases d with
        | str t => exact fun _ => ⟨t, rfl⟩
        | _ => exact fun z => z.elim
      | exc b => exact fun z => z.elim
      | stuck => exact fun z => z.elim
    obtain ⟨t, hev⟩ := hev
    have sp₂ : ∀ (E : Value → Shared → Prop), Sp X (RelF X c env l L) [L] (env :: l) s₀ Q E (noExc (loopF (zset x y) (zbody C e k) ((zipD xs q).drop (i + 1)) (((ρ₁.set x (some (dS [ch]))).set y (some yd)).set k (some (.str t))))) := fun E => by
      have z := sp₁ E
      replace z : Sp X (RelF X c env l L) [L] (env :: l) s₀ Q E (noExc ((zbody C e k ((ρ₁.set x (some (dS [ch]))).set y (some yd))).bind _)) := z
      unfold zbody at z
      rw [hev] at z
      exact z
    clear sp₁
    have fr' := fun (i : Nat) (h h' : Heap) => W.frame i h h'
    refine zip_asg (x := x) (y := y) (Z := ZSt z TI TO i1 i2 (S1 i1) (S2 i2) (i + 1)) T nd hx hkx hy hky (fr' (i + 1)) hLf inv₃ st₂ hT₂ (.inr fun h => .str _ _ (by show (#[ch] : Array Nat).size ≤ limit; unfold limit; simp)) (.inl (ra.at e2 hvb)) fun s₆ inv₆ st₆ => ?_
    exact zip_body (Z := ZSt z TI TO i1 i2 (S1 i1) (S2 i2) (i + 1)) T nd h₀ hz hk hc (fr' (i + 1)) hLf (fun h h' st xt => zst_same R1 R2 st fun b _ o e kc => xt b o (fun z => by cases z) e (.inl kc)) ie inv₆ st₆ hev fun s₇ inv₇ st₇ => ⟨n' - 1, by lia, i + 1, _, by lia, hlt, inv₇, st₇, sp₂⟩
  · have hin : i = (zipD xs q).length := Nat.le_antisymm hi (Nat.le_of_not_lt hlt)
    subst hin
    refine wpAny_tk (W.done s₁ _ _ (hlen ▸ st) fun h' tk kk => fun htk => wpAny_execs_nil (hR _ _ ?_))
    rw [List.drop_length] at sp₁
    have inv₂ := inv₁.moved kk (tkpos htk) (itz st.1 st.2.2.1 st.2.2.2.1 st.2.2.2.2) hLw
    exact sp₁ (fun _ _ => True) _ _ inv₂.ok ⟨rfl, inv₂.here h₀⟩
end
end Mine

namespace Mine
open PySem PySem.Calls PySem.Spec PyProof.Rows PySem.W

section
variable {X : Cfg} {c : Cx} {env : Env} {l : List Env} {L : Addr} {ρ : Env'} {Fa : Nat → Addr} {C : Calls} {A : Around} {N : Nat} {s : Shared}

theorem for_zip_sound {x y k : Nat} {nx ny zn f : Str} {px py zp ap fp cp tp pos : Pos} {kt : Nat} {u v w : Expr} {e₁ e₂ e : PE} {Q : Flow → Shared → Prop} {E : Value → Shared → Prop} (T : Sit X c Fa C A env l L) (nd : c.ns.Nodup) (h : Here X c env l L ρ s)
    (hx : c.ns[x]? = some nx) (hkx : kindIs c nx .local = true) (hy : c.ns[y]? = some ny) (hky : kindIs c ny .local = true) (hz : c.ns[k]? = some zn) (hk : kindIs c zn .local = true) (hc : noComp w = true) (hf : isBt c f (.type "zip") = true) (pu : plainArg u = true) (pv : plainArg v = true)
    (i1 : ∀ (s : Shared) (Q : Value → Shared → Prop) (E : Value → Shared → Prop), Here X c env l L ρ s → Sp X RelV [] (env :: l) s Q E (ev C e₁ ρ) → wpAny (model X.prog X.w) A (eval u env) Q E s)
    (i2 : ∀ (s : Shared) (Q : Value → Shared → Prop) (E : Value → Shared → Prop), Here X c env l L ρ s → Sp X RelV [] (env :: l) s Q E (ev C e₂ ρ) → wpAny (model X.prog X.w) A (eval v env) Q E s)
    (ie : ∀ (ρ : Env') (s : Shared) (Q : Value → Shared → Prop) (E : Value → Shared → Prop), Here X c env l L ρ s → Sp X RelV [] (env :: l) s Q E (ev C e ρ) → wpAny (model X.prog X.w) A (eval w env) Q E s)
    (sp : Sp X (RelF X c env l L) [L] (env :: l) s Q E (Mine.exec C N (.forZip x y k e₁ e₂ e) ρ)) :
    wpAny (model X.prog X.w) A (PySem.exec (.For (.Tuple [.Name nx px, .Name ny py] kt tp) (.Call (.Name f fp) [u, v] [] cp) [.Assign [.Name zn zp] w ap] [] pos) env) Q E s := by
  rw [execE_forZip] at sp
  refine wpAny_For (two_args T h (frS T) hf pu pv i1 i2 sp fun d₁ v₁ d₂ v₂ s₂ h₂ r₁' r₂ sp₂ => ?_)
  cases r₁' with
  | str xs t1 z1 =>
    cases r₂ with
    | tuple ho hcl hd z ra =>
      rename_i a o vs n q
      have ht : s₂.heap.IsTuple a vs := ⟨_, ho, hcl, _, hd⟩
      have R1 := srcStr (prog := X.prog) (w := X.w) (h := s₂.heap) xs t1
      have R2 := srcTuple (prog := X.prog) (w := X.w) ht
      refine call_zipS R1 R2 fun h' hsz keep hW st₀ => wpAny_pyIter_zip st₀.1 ?_
      obtain ⟨m, n₂, km⟩ := h₂.fm
      have hLa : a ≠ L := fun q => by
        obtain ⟨o', es', ep', e', d', _⟩ := n₂
        rw [← q, ho] at e'; cases e'; rw [hd] at d'; cases d'
      have inv : Inv X c L s₂ ρ { s₂ with heap := h' } := ⟨Ok.keeps h₂.w (Nat.le_refl _) keep, m, (let ⟨o', es', ep', e', r'⟩ := n₂; ⟨o', es', ep', keep _ _ e', r'⟩), fun i d e => let ⟨y, v, e1, e2, r⟩ := km i d e; ⟨y, v, e1, e2, .inl r⟩⟩
      refine zip_loop (Q := Q) T nd h₂ hx hkx hy hky hz hk hc ie R1 R2 ra hLa (hW A T.hh) (fun b hb => ?_) inv st₀ (fun f s' q => q) (fun E' => spNo sp₂)
      simp only [List.mem_cons, List.mem_nil_iff, or_false] at hb
      rcases hb with rfl | rfl | rfl | rfl | rfl <;> first | exact Nat.le_add_right _ _ | exact Nat.le_refl _
    | _ => exact sp₂.elim
  | _ => cases r₂ <;> exact sp₂.elim
end
end Mine

namespace Mine
open PySem PySem.Calls PySem.Spec PyProof.Rows PySem.W

section
variable {X : Cfg} {c : Cx} {env : Env} {l : List Env} {L : Addr} {ρ : Env'} {Fa : Nat → Addr} {C : Calls} {A : Around} {N : Nat} {s : Shared}

noncomputable def StOk (X : Cfg) (c : Cx) (C : Calls) (N : Nat) (A : Around) (env : Env) (l : List Env) (L : Addr) (p : PS) : Prop :=
  ∀ (st : Stmt) (ρ : Env') (s : Shared) (Q : Flow → Shared → Prop) (E : Value → Shared → Prop), okS c p st = true → Here X c env l L ρ s → Sp X (RelF X c env l L) [L] (env :: l) s Q E (Mine.exec C N p ρ) → wpAny (model X.prog X.w) A (PySem.exec st env) Q E s
noncomputable def StsOk (X : Cfg) (c : Cx) (C : Calls) (N : Nat) (A : Around) (env : Env) (l : List Env) (L : Addr) (ps : List PS) : Prop :=
  ∀ (sts : List Stmt) (ρ : Env') (s : Shared) (Q : Flow → Shared → Prop) (E : Value → Shared → Prop), okSs c ps sts = true → Here X c env l L ρ s → Sp X (RelF X c env l L) [L] (env :: l) s Q E (Mine.execs C N ps ρ) → wpAny (model X.prog X.w) A (PySem.execs sts env) Q E s

theorem swap_env {q : Str} {a : Addr} {cd : Value} {T : List Expr} {v : Expr} : swappedStores T v (envOf q c.sc L a cd) = swappedStores T v (env0 c) := rfl

theorem funMem {h base : Heap} : ∀ {l : List Env} {b : Addr}, h.FunFrames base l → b ∈ fr l → ∃ o, h.get? b = some o ∧ ∀ vs, o.data ≠ .fields vs
  | env :: r, b, ⟨_, ⟨L, o, hf, _, ho, hd⟩, hr⟩, hm => by
    obtain ⟨e, he, hb⟩ := List.mem_filterMap.mp hm
    rcases List.mem_cons.mp he with rfl | he
    · rw [hf] at hb; cases hb; exact ⟨o, ho, hd⟩
    · exact funMem hr (List.mem_filterMap.mpr ⟨e, he, hb⟩)
  | [], b, _, hm => by cases hm

theorem land {s' : Shared} {a : Addr} {B h₆ : Heap} {l : List Env} {cls t : Value} (ff : s.heap.FunFrames X.H l) (k1 : Xt (fr l) s.heap B) (wB : Wh X B) (fl : Heap.FlyingW B l a cls t h₆)
    (k2 : ∀ b o, s.heap.get? b = some o → KeepMe o → b ∈ fr l → b ∉ ([] : List Addr) → ∃ sl, s'.heap.get? b = some { o with slots := sl }) (up : s'.heap.UpToSlots h₆) (g : AllBare s'.gens) (os : s'.os = X.O) (tk : 0 < s'.toks) : Ok X [] s { s' with heap := h₆ } := by
  refine ⟨fun b o _ e ko => ?_, ⟨wB.keeps fl.1, g, os, tk⟩⟩
  by_cases hm : b ∈ fr l
  · obtain ⟨sl, e2⟩ := k2 b o e ko hm (fun q => by cases q)
    obtain ⟨o', e', hd⟩ := funMem ff hm
    rw [e] at e'; cases e'
    obtain ⟨sl', e3⟩ := up b _ e2 hd
    exact ⟨sl', e3, fun ⟨vs, z⟩ => absurd z (hd vs)⟩
  · obtain ⟨sl, e2, q2⟩ := k1 b o hm e ko
    exact ⟨sl, fl.1 _ _ e2, q2⟩

theorem handler_sound {A' : Around} {j : Nat} {z : Str} {zp p : Pos} {u : Expr} {d : PE} {v : PyData} {Q : Flow → Shared → Prop} {E : Value → Shared → Prop} (T : Sit X c Fa C A env l L) (nd : c.ns.Nodup) (h : Here X c env l L ρ s) (hz : c.ns[j]? = some z) (hk : kindIs c z .local = true) (hc : noComp u = true)
    (hd : handOk d u = true) (hv : handV d = some v)
    (k : ∀ s', Ok X [L] s s' → Here X c env l L (ρ.set j (some v)) s' → Q .next s') : wpAny (model X.prog X.w) A' (PySem.execs [.Assign [.Name z zp] u p] env) Q E s := by
  have fin : ∀ (w : Value) (s₁ : Shared), Ok X [] s s₁ → Rd s₁.heap w v → wpAny (model X.prog X.w) A' (storeName env z w) (fun _ s₂ => match (Flow.next : Flow) with | .next => wpAny (model X.prog X.w) A' (PySem.execs [] env) Q E s₂ | f => Q f s₂) E s₁ := fun w s₁ o₁ r₁ =>
    store_sound T nd (h.step o₁) hz hk r₁ fun s₂ o₂ h₂ _ => wpAny_execs_nil (k s₂ (o₁.weak.trans o₂) h₂)
  refine wpAny_execs_cons (wpAny_Assign_Name ?_ (noSwap hc))
  obtain ⟨v', e', k⟩ := onSome_inv hd
  rw [hv] at e'
  cases e'
  rcases either k with q | q
  · obtain ⟨x, n, p, rfl, k0⟩ := onConst_inv q
    exact const_sound (E := E) (l := l) (env := env) h.w k0 fun w s₁ o₁ r₁ => fin w s₁ o₁ r₁
  · obtain ⟨q1, q2⟩ := both q
    obtain ⟨x, rfl, k0⟩ := onT_inv q1
    obtain rfl := on0_inv k0
    obtain ⟨ts, n, p, rfl, k1⟩ := onTup_inv q2
    obtain rfl := on0_inv k1
    refine wpAny_Tuple (args_nil ⟨Nat.zero_le _, ?_⟩)
    exact tuple_new (l := env :: l) (S := []) (E := E) h.w (Nat.zero_le _) .nil fun w s₁ o₁ r₁ => fin w s₁ o₁ r₁

theorem load_bt_any {A' : Around} {x : Str} {p : Pos} {v : Value} {Q : Value → Shared → Prop} {E : Value → Shared → Prop} (T : Sit X c Fa C A env l L) (w : W X s) (h1 : isBt c x v = true) (h : Q v s) :
    wpAny (model X.prog X.w) A' (eval (.Name x p) env) Q E s := by
  unfold isBt at h1
  simp only [Bool.and_eq_true, beq_iff_eq] at h1
  obtain ⟨mg, mb, g, b, fn, gd, bt⟩ := T.G.names
  obtain ⟨e1, e2⟩ := bt x v h1.2
  obtain ⟨q, a, cd, rfl⟩ := T.ev
  obtain ⟨k1, k2⟩ := kindIs_eq h1.1
  exact Name_function_global T.kind k1 (loadGlobal_builtin (env := envOf q c.sc L a cd) (w.h.ns g) e1 (w.h.ns b) e2 h) k2
theorem try_d {Rel : Shared → Flow → Fl → Prop} {S : List Addr} {l : List Env} {Q : Flow → Shared → Prop} {E : Value → Shared → Prop} {d : PE} {j : Nat} (sp : Sp X Rel S l s Q E (match d with | .cst v => .ok (.next (ρ.set j (some v))) | .tup [] => .ok (.next (ρ.set j (some (.tuple [])))) | _ => .stuck)) :
    ∃ v, handV d = some v ∧ Sp X Rel S l s Q E (.ok (.next (ρ.set j (some v)))) := by
  split at sp
  · exact ⟨_, rfl, sp⟩
  · exact ⟨_, rfl, sp⟩
  · exact sp.elim

@[elab_as_elim] theorem invS_ret {P : Stmt → Prop} {s : Stmt} {e : PE} (ok : okS c (.ret e) s = true) (kk : ∀ x p, okE c e x = true → P (.Return (some x) p)) : P s := by
  obtain ⟨x, p, rfl, k0⟩ := onReturn_inv ok
  obtain ⟨y, rfl, ok1⟩ := onSome_inv k0
  exact kk _ _ ok1
@[elab_as_elim] theorem invS_asg {P : Stmt → Prop} {s : Stmt} {i : Nat} {e : PE} (ok : okS c (.asg i e) s = true) (kk : ∀ x xp v p, c.ns[i]? = some x → kindIs c x .local = true → noComp v = true → okE c e v = true → P (.Assign [.Name x xp] v p)) : P s := by
  obtain ⟨x, xp, v, p, rfl, ok1, ok2, ok3, ok4⟩ := okAsg_inv ok
  exact kk _ _ _ _ ok1 ok2 ok3 ok4
@[elab_as_elim] theorem invS_asgT {P : Stmt → Prop} {s : Stmt} {is : List Nat} {e : PE} (ok : okS c (.asgT is e) s = true) (kk : ∀ ts k p v pos, okNames c is ts = true → is.Nodup → noComp v = true → okSwap c ts k p v = true → okE c e v = true → P (.Assign [.Tuple ts k p] v pos)) : P s := by
  obtain ⟨tt, v, pos, rfl, k0⟩ := onAssign_inv ok
  obtain ⟨t, rfl, k1⟩ := on1_inv k0
  obtain ⟨ts, k, p, rfl, k2⟩ := onTup_inv k1
  obtain ⟨k3, ok5⟩ := both k2
  obtain ⟨k4, ok4⟩ := both k3
  obtain ⟨k5, ok3⟩ := both k4
  obtain ⟨ok1, k6⟩ := both k5
  have ok2 := of_decide_eq_true k6
  exact kk _ _ _ _ _ ok1 ok2 ok3 ok4 ok5
@[elab_as_elim] theorem invS_ite {P : Stmt → Prop} {s : Stmt} {t : PE} {b o : List PS} (ok : okS c (.ite t b o) s = true) (kk : ∀ x y z p, okE c t x = true → okSs c b y = true → okSs c o z = true → P (.If x y z p)) : P s := by
  obtain ⟨x, y, z, p, rfl, k0⟩ := onIfS_inv ok
  obtain ⟨k1, ok3⟩ := both k0
  obtain ⟨ok1, ok2⟩ := both k1
  exact kk _ _ _ _ ok1 ok2 ok3
@[elab_as_elim] theorem invS_whl {P : Stmt → Prop} {s : Stmt} {t : PE} {b : List PS} (ok : okS c (.whl t b) s = true) (kk : ∀ x y pos, okE c t x = true → okSs c b y = true → P (.While x y [] pos)) : P s := by
  obtain ⟨x, y, z, pos, rfl, k0⟩ := onWhile_inv ok
  obtain ⟨k1, ok2⟩ := both k0
  obtain ⟨k2, ok1⟩ := both k1
  obtain rfl := on0_inv k2
  exact kk _ _ _ ok1 ok2
@[elab_as_elim] theorem invS_raise {P : Stmt → Prop} {s : Stmt}  (ok : okS c .raise s = true) (kk : ∀ x xp z n zp q p, isBt c x (.type "ValueError") = true → P (.Raise (some (.Call (.Name x xp) [.Constant (.str z) n zp] [] q)) none p)) : P s := by
  obtain ⟨x, y, p, rfl, k0⟩ := onRaise_inv ok
  obtain ⟨k1, k2⟩ := both k0
  rw [onNone_inv k1]
  obtain ⟨x0, rfl, k3⟩ := onSome_inv k2
  obtain ⟨x, xp, z, n, zp, q, rfl, ok1⟩ := isVE_inv k3
  exact kk _ _ _ _ _ _ _ ok1
@[elab_as_elim] theorem invS_tryAsg {P : Stmt → Prop} {s : Stmt} {i j : Nat} {e d : PE} (ok : okS c (.tryAsg i e j d) s = true) (kk : ∀ x xp v vp y yp z zp u up hp tp, c.ns[i]? = some x → kindIs c x .local = true → noComp v = true → okE c e v = true → isBt c y (.type "ValueError") = true → c.ns[j]? = some z → kindIs c z .local = true → noComp u = true → handOk d u = true → P (.Try [.Assign [.Name x xp] v vp] [.ExceptHandler (some (.Name y yp)) none [.Assign [.Name z zp] u up] hp] [] [] tp)) : P s := by
  obtain ⟨tb, hs, o, f, tp, rfl, k0⟩ := onTry_inv ok
  obtain ⟨k1, k2⟩ := both k0
  obtain ⟨k3, k4⟩ := both k1
  obtain ⟨k5, k6⟩ := both k3
  rw [on0_inv k5, on0_inv k6]
  obtain ⟨a1, rfl, k7⟩ := on1_inv k4
  obtain ⟨hd, rfl, k8⟩ := on1_inv k2
  obtain ⟨x, xp, v, vp, rfl, ok1, ok2, ok3, ok4⟩ := okAsg_inv k7
  obtain ⟨y, yp, st, hp, rfl, ok5, k9⟩ := okHand_inv k8
  obtain ⟨z, zp, u, up, rfl, ok6, ok7, ok8, ok9⟩ := okAsg_inv k9
  exact kk _ _ _ _ _ _ _ _ _ _ _ _ ok1 ok2 ok3 ok4 ok5 ok6 ok7 ok8 ok9
@[elab_as_elim] theorem invS_forTup {P : Stmt → Prop} {s : Stmt} {xs : List Nat} {e : PE} {b : List PS} (ok : okS c (.forTup xs e b) s = true)
    (kk : ∀ ts k tp es ke ep y pos, okNames c xs ts = true → okE c e (.Tuple es ke ep) = true → okSs c b y = true → P (.For (.Tuple ts k tp) (.Tuple es ke ep) y [] pos)) : P s := by
  obtain ⟨t, x, y, z, pos, rfl, k0⟩ := onFor_inv ok
  obtain ⟨k1, ok3⟩ := both k0
  obtain ⟨k2, ok2⟩ := both k1
  obtain ⟨k3, k4⟩ := both k2
  obtain ⟨k5, k6⟩ := both k3
  rw [on0_inv k5]
  obtain ⟨ts, k, tp, rfl, ok1⟩ := onTup_inv k6
  obtain ⟨es, ke, ep, rfl, _⟩ := onTup_inv k4
  exact kk _ _ _ _ _ _ _ _ ok1 ok2 ok3
@[elab_as_elim] theorem invS_forZip {P : Stmt → Prop} {s : Stmt} {x y k : Nat} {e₁ e₂ e : PE} (ok : okS c (.forZip x y k e₁ e₂ e) s = true)
    (kk : ∀ nx px ny py kt tp f fp u v cp zn zp w ap pos, c.ns[x]? = some nx → kindIs c nx .local = true → c.ns[y]? = some ny → kindIs c ny .local = true → c.ns[k]? = some zn → kindIs c zn .local = true → noComp w = true → isBt c f (.type "zip") = true → plainArg u = true → plainArg v = true → okE c e₁ u = true → okE c e₂ v = true → okE c e w = true →
      P (.For (.Tuple [.Name nx px, .Name ny py] kt tp) (.Call (.Name f fp) [u, v] [] cp) [.Assign [.Name zn zp] w ap] [] pos)) : P s := by
  obtain ⟨t, i, b, z, pos, rfl, k0⟩ := onFor_inv ok
  obtain ⟨k1, k2⟩ := both k0
  obtain ⟨k3, k4⟩ := both k1
  obtain ⟨k5, k6⟩ := both k3
  rw [on0_inv k5]
  obtain ⟨ts, kt, tp, rfl, k7⟩ := onTup_inv k6
  obtain ⟨nx, px, ts', rfl, o1, o2, k8⟩ := okNames_cons k7
  obtain ⟨ny, py, ts'', rfl, o3, o4, k9⟩ := okNames_cons k8
  obtain rfl := okNames_nil k9
  obtain ⟨f, fp, u, v, cp, rfl, o5, k10⟩ := isRangeC_inv k4
  obtain ⟨k11, o9⟩ := both k10
  obtain ⟨k12, o8⟩ := both k11
  obtain ⟨o6, o7⟩ := both k12
  obtain ⟨a, rfl, k13⟩ := on1_inv k2
  obtain ⟨zn, zp, w, ap, rfl, p1, p2, p3, p4⟩ := okAsg_inv k13
  exact kk _ _ _ _ _ _ _ _ _ _ _ _ _ _ _ _ o1 o2 o3 o4 p1 p2 p3 o5 o6 o7 o8 o9 p4
set_option maxHeartbeats 4000000 in
mutual
theorem soundS (T : Sit X c Fa C A env l L) (nd : c.ns.Nodup) : ∀ p : PS, StOk X c C N A env l L p
  | .ret e => fun st ρ s Q E ok h sp => by
    have ie := (sound (ρ := ρ) T e).1
    refine invS_ret ok fun x p ok1 => ?_
    simp only [execE_ret, execE_asg, execE_asgT, execE_ite, execE_whl, execE_forRange, execE_forTup, execE_forZip, execE_raise, execE_tryAsg] at sp
    exact wpAny_Return_some (ie _ _ _ _ ok1 h (Sp.bind0 sp (frS T) fun d v s₁ o₁ r₁ sp₁ => sp₁ _ _ (Ok.refl o₁.2) ⟨v, rfl, r₁⟩))
  | .asg i e => fun st ρ s Q E ok h sp => by
    have ie := (sound (ρ := ρ) T e).1
    refine invS_asg ok fun x xp v p ok1 ok2 ok3 ok4 => ?_
    simp only [execE_ret, execE_asg, execE_asgT, execE_ite, execE_whl, execE_forRange, execE_forTup, execE_forZip, execE_raise, execE_tryAsg] at sp
    exact wpAny_Assign_Name (ie _ _ _ _ ok4 h (Sp.bind0 sp (frS T) fun d v s₁ o₁ r₁ sp₁ => store_sound T nd (h.step o₁) ok1 ok2 r₁ fun s₂ o₂ h₂ _ => sp₁ _ _ o₂ ⟨rfl, h₂⟩)) (noSwap ok3)
  | .asgT is e => fun st ρ s Q E ok h sp => by
    have ie := (sound (ρ := ρ) T e).1
    refine invS_asgT ok fun ts k p v pos ok1 ok2 ok3 ok4 ok5 => ?_
    simp only [execE_ret, execE_asg, execE_asgT, execE_ite, execE_whl, execE_forRange, execE_forTup, execE_forZip, execE_raise, execE_tryAsg] at sp
    obtain ⟨sw, e0, k7⟩ := onSome_inv ok4
    cases sw with
    | none =>
      have hw : swappedStores [.Tuple ts k p] v env = pure none := by
        obtain ⟨q, a, cd, rfl⟩ := T.ev
        rw [swap_env]; exact semPure_eq e0
      refine Assign_Tuple (ie _ _ _ _ ok5 h (Sp.bind0 sp (frS T) fun d v s₁ o₁ r₁ sp₁ => ?_)) (noSwap (t := some (.Tuple ts k p)) (n := pos.line) (env := env) ok3) hw
      cases r₁ with
      | tuple ho hc hd z ra =>
        rename_i a o vs n xs
        simp only at sp₁
        cases e1 : putAll is xs ρ with
        | none => rw [e1] at sp₁; exact sp₁.elim
        | some ρ' =>
          rw [e1] at sp₁
          have ht : IsTup s₁.heap a vs := ⟨_, ho, hc, _, hd⟩
          have hlen : (assignEach ts env).length = vs.size := by
            have l1 := putAll_length e1
            have l2 := okNames_length ok1
            have l3 := ra.length
            rw [Array.length_toList] at l3
            rw [(assignEach_names ok1).1]; lia
          refine assign_Tuple_tuple T.hh ht hlen (assignEach_names ok1).2 fun h' he => ?_
          have o' : Ok X [] s₁ { s₁ with heap := h' } := Ok.keeps o₁.2 (Nat.le_refl _) fun b o e => he b o (Nat.ne_of_lt (Heap.lt_size e)) e
          exact stores_fwd T nd is ok1 e1 ((h.step o₁).step o') (ra.xt o'.1) fun s₂ o₂ h₂ => sp₁ _ _ (o'.weak.trans o₂) ⟨rfl, h₂⟩
      | _ => exact sp₁.elim
    | some names =>
      obtain rfl := beq_iff_eq.mp (show (names == namesOf ts) = true from k7)
      have hw : swappedStores [.Tuple ts k p] v env = pure (some (namesOf ts)) := by
        obtain ⟨q, a, cd, rfl⟩ := T.ev
        rw [swap_env]; exact semPure_eq e0
      refine Assign_Tuple_swapped (ie _ _ _ _ ok5 h (Sp.bind0 sp (frS T) fun d v s₁ o₁ r₁ sp₁ => ?_)) (noSwap (t := some (.Tuple ts k p)) (n := pos.line) (env := env) ok3) hw
      cases r₁ with
      | tuple ho hc hd z ra =>
        rename_i a o vs n xs
        simp only at sp₁
        cases e1 : putAll is xs ρ with
        | none => rw [e1] at sp₁; exact sp₁.elim
        | some ρ' =>
          rw [e1] at sp₁
          have ht : IsTup s₁.heap a vs := ⟨_, ho, hc, _, hd⟩
          have hlen : (namesOf ts).length = vs.size := by
            have l1 := putAll_length e1
            have l2 := okNames_length ok1
            have l3 := ra.length
            rw [Array.length_toList] at l3
            rw [namesOf_length ok1]; lia
          rw [hlen]
          refine unpackItems_tuple T.hh ht fun h' he => ?_
          have o' : Ok X [] s₁ { s₁ with heap := h' } := Ok.keeps o₁.2 (Nat.le_refl _) fun b o e => he b o (Nat.ne_of_lt (Heap.lt_size e)) e
          have := stores_bwd (E := E) (rn := []) (rv := []) (Q := fun _ => Q .next) T nd is ok2 ok1 e1 ((h.step o₁).step o') (ra.xt o'.1) fun s₂ o₂ h₂ _ => assignInOrder_nil (sp₁ _ _ (o'.weak.trans o₂) ⟨rfl, h₂⟩)
          rw [List.append_nil, List.append_nil] at this
          exact this
      | _ => exact sp₁.elim
  | .ite t b o => fun st ρ s Q E ok h sp => by
    have tt := (sound (ρ := ρ) T t).2
    have ib := soundSs T nd b
    have io := soundSs T nd o
    refine invS_ite ok fun x y z p ok1 ok2 ok3 => ?_
    simp only [execE_ret, execE_asg, execE_asgT, execE_ite, execE_whl, execE_forRange, execE_forTup, execE_forZip, execE_raise, execE_tryAsg] at sp
    rw [← assocR] at sp
    refine wpAny_If (tt _ _ _ _ ok1 h (Sp.bind0 sp (frS T) fun x v s₁ o₁ r₁ sp₁ => ?_))
    cases r₁
    cases x with
    | true => simp only [if_true]; exact ib _ _ _ _ _ ok2 (h.step o₁) sp₁
    | false => simp only [Bool.false_eq_true, if_false]; exact io _ _ _ _ _ ok3 (h.step o₁) sp₁
  | .whl t b => fun st ρ s Q E ok h sp => by
    have ib := soundSs T nd b
    refine invS_whl ok fun x y pos ok1 ok2 => ?_
    simp only [execE_ret, execE_asg, execE_asgT, execE_ite, execE_whl, execE_forRange, execE_forTup, execE_forZip, execE_raise, execE_tryAsg] at sp
    refine wpAny_While (codeAny_whileLoop (I := fun n s₁ => ∃ ρ₁, Here X c env l L ρ₁ s₁ ∧ Sp X (RelF X c env l L) [L] (env :: l) s₁ Q E (noExc (loopW (fun ρ => ev C t ρ) (fun ρ => Mine.execs C N b ρ) n ρ₁))) (fun n s₁ hI => ?_) N ⟨ρ, h, sp⟩)
    obtain ⟨ρ₁, h₁, sp₁⟩ := hI
    have tt := (sound (ρ := ρ₁) T t).2
    cases n with
    | zero => exact sp₁.elim
    | succ n =>
      rw [loopWE] at sp₁
      refine tt _ _ _ _ ok1 h₁ ?_
      revert sp₁
      cases ev C t ρ₁ with
      | ok d =>
        dsimp only [R.bind_ok]
        cases truthy d with
        | ok tv =>
          simp only [R.bind_ok]
          intro sp₁ v s₂ o₂ r₂
          cases r₂
          cases tv with
          | false =>
            simp only [Bool.false_eq_true, if_false]
            exact wpAny_execs_nil (sp₁ _ _ o₂.weak ⟨rfl, h₁.step o₂⟩)
          | true =>
            simp only [if_true]
            refine ib _ _ _ _ _ ok2 (h₁.step o₂) ?_
            revert sp₁
            cases Mine.execs C N b ρ₁ with
            | ok f =>
              simp only [R.bind_ok]
              intro sp₁ fl s₃ o₃ r₃
              have sp₃ := Sp.pre (Sp.pre sp₁ o₂.weak (frS T)) o₃ (frS T)
              cases f with
              | next ρ' =>
                obtain ⟨rfl, h₃⟩ := r₃
                exact ⟨n, Nat.lt_succ_self _, ρ', h₃, sp₃⟩
              | ret d =>
                obtain ⟨v, rfl, r₄⟩ := r₃
                exact sp₃ _ _ (Ok.refl o₃.2) ⟨v, rfl, r₄⟩
            | exc b => exact fun sp₁ => sp₁.elim
            | stuck => exact fun sp₁ => sp₁.elim
        | exc b => exact fun sp₁ => sp₁.elim
        | stuck => exact fun sp₁ => sp₁.elim
      | exc b => exact fun sp₁ => sp₁.elim
      | stuck => exact fun sp₁ => sp₁.elim
  | .raise => fun st ρ s Q E ok h sp => by
    refine invS_raise ok fun x xp z n zp q p ok1 => ?_
    refine Raise_madeB PySem.F.excCall_ValueError PySem.F.excRaise_ValueError T.hh (load_bt T h.w ok1 ⟨rfl, args_cons (wpAny_Constant_str (args_nil ⟨by rw [sizeLine_limit]; unfold limit; simp, fun h' e he => ?_⟩))⟩)
    have o' : Ok X [L] s { s with toks := s.toks + 1 } := Ok.tk h.w (Nat.le_succ _)
    exact sp _ _ ⟨e, _, _, rfl, o', (h.step (Ok.tk h.w (Nat.le_succ _))).ff, Heap.MadeExc.of he, rfl, rfl, rfl⟩
  | .tryAsg i e j d => fun st ρ s Q E ok h sp => by
    have ie := (sound (ρ := ρ) T e).1
    refine invS_tryAsg ok fun x xp v vp y yp z zp u up hp tp ok1 ok2 ok3 ok4 ok5 ok6 ok7 ok8 ok9 => ?_
    dsimp only [execE_ret, execE_asg, execE_asgT, execE_ite, execE_whl, execE_forRange, execE_forTup, execE_forZip, execE_raise, execE_tryAsg] at sp
    refine wpAny_Try_except (wpAny_execs_cons (wpAny_Assign_Name (ie _ _ _ _ ok4 h ?_) (noSwap ok3)))
    revert sp
    cases ev C e ρ with
    | ok dv =>
      intro sp v s₁ o₁ r₁
      exact store_sound T nd (h.step o₁) ok1 ok2 r₁ fun s₂ o₂ h₂ _ => wpAny_execs_nil (wpAny_execs_nil (sp _ _ (o₁.weak.trans o₂) ⟨rfl, h₂⟩))
    | exc b =>
      cases b with
      | true => exact fun sp => sp.elim
      | false =>
        intro sp ex s' fly
        obtain ⟨a, B, t, rfl, k1, wB, fl, k2, g, os, tk⟩ := fly
        have hL : ∃ o, env.frame = some L := ⟨(), by obtain ⟨q, a, cd, rfl⟩ := T.ev; rfl⟩
        obtain ⟨_, hf⟩ := hL
        refine wpAny_looks_onW T.fr hf fl fun h₄ held₄ up₄ => ?_
        refine wpAny_landsW held₄ fun h₅ fl₅ up₅ => ?_
        have o₅ := land (s := s) (s' := s') h.ff k1 wB fl₅ k2 (up₄.trans up₅) g os tk
        obtain ⟨ob, hob, hobc⟩ := fl₅.there
        obtain ⟨dv, hv, spv⟩ := try_d sp
        refine wpAny_handleBy_builtin (X := "ValueError") (T := "ValueError") (b := true) PySem.F.isExc_ValueError PySem.F.notTuple_ValueError (by rw [isSubtype_type]; kernel_rfl) (load_bt_any T o₅.2 ok5 ⟨rfl, ⟨ob, hob, hobc⟩, ?_⟩)
        dsimp only [if_true]
        refine lands_againW fl₅ fun h₆ fl₆ up₆ => ?_
        have o₆ := land (s := s) (s' := s') h.ff k1 wB fl₆ k2 ((up₄.trans up₅).trans up₆) g os tk
        refine handler_sound T nd (h.step o₆) ok6 ok7 ok8 ok9 hv fun s₇ o₇ h₇ => ?_
        exact spv _ _ (o₆.weak.trans o₇) ⟨rfl, h₇⟩
    | stuck => exact fun sp => sp.elim
  | .forRange x lo hi b => fun st ρ s Q E ok h sp => by cases ok
  | .forTup xs e b => fun st ρ s Q E ok h sp => by
    have ie := (sound (ρ := ρ) T e).1
    have ib := soundSs T nd b
    refine invS_forTup ok fun ts k tp es ke ep y pos ok1 ok2 ok3 => ?_
    exact for_tup_sound T nd h ok1 (fun s Q E h sp => ie _ s Q E ok2 h sp) (fun ρ s Q E h sp => ib _ ρ s Q E ok3 h sp) sp
  | .forZip x y k e₁ e₂ e => fun st ρ s Q E ok h sp => by
    have i1 := (sound (ρ := ρ) T e₁).1
    have i2 := (sound (ρ := ρ) T e₂).1
    refine invS_forZip ok fun nx px ny py kt tp f fp u v cp zn zp w ap pos o1 o2 o3 o4 p1 p2 p3 o5 o6 o7 o8 o9 p4 => ?_
    exact for_zip_sound T nd h o1 o2 o3 o4 p1 p2 p3 o5 o6 o7 (fun s Q E h sp => i1 _ s Q E o8 h sp) (fun s Q E h sp => i2 _ s Q E o9 h sp) (fun ρ s Q E h sp => (sound (ρ := ρ) T e).1 _ s Q E p4 h sp) sp
theorem soundSs (T : Sit X c Fa C A env l L) (nd : c.ns.Nodup) : ∀ ps : List PS, StsOk X c C N A env l L ps
  | [] => fun sts ρ s Q E ok h sp => by
    cases sts with
    | nil => exact wpAny_execs_nil (sp _ _ (Ok.refl h.w) ⟨rfl, h⟩)
    | cons a b => cases ok
  | p :: ps => fun sts ρ s Q E ok h sp => by
    have ip := soundS T nd p
    have ips := soundSs T nd ps
    cases sts with
    | nil => cases ok
    | cons st sts =>
      have ok := both (show (okS c p st && okSs c ps sts) = true from ok)
      simp only [execsE_nil, execsE_cons] at sp
      refine wpAny_execs_cons (ip _ _ _ _ _ ok.1 h (Sp.bind sp (frS T) fun f fl s₁ o₁ r₁ sp₁ => ?_))
      cases f with
      | next ρ' =>
        obtain ⟨rfl, h₁⟩ := r₁
        exact ips _ _ _ _ _ ok.2 h₁ sp₁
      | ret d =>
        obtain ⟨v, rfl, r⟩ := r₁
        exact sp₁ _ _ (Ok.refl o₁.2) ⟨v, rfl, r⟩
end
end
end Mine

namespace Mine
open PySem PySem.Calls PySem.Spec PyProof.Rows

theorem lookup_app {β : Type} (n : Str) : ∀ (p q : List (Str × β)), p.lookup n = none → (p ++ q).lookup n = q.lookup n
  | [], q, _ => rfl
  | (m, b) :: p, q, h => by
    dsimp only [List.cons_append, List.lookup] at h ⊢
    split at h
    · cases h
    · exact lookup_app n p q h
theorem zip_look {β : Type} : ∀ (ns : List Str) (vs : List β), ns.Nodup → vs.length = ns.length → ∀ pre : List (Str × β), (∀ n ∈ ns, pre.lookup n = none) →
    ns.filterMap (fun n => ((pre ++ ns.zip vs).lookup n).map (n, ·)) = ns.zip vs ∧ ns.filter (fun n => ((pre ++ ns.zip vs).lookup n).isNone) = []
  | [], _, _, _, _, _ => ⟨rfl, rfl⟩
  | n :: ns, [], _, h, _, _ => by simp at h
  | n :: ns, v :: vs, nd, hl, pre, hp => by
    have h1 : (pre ++ (n :: ns).zip (v :: vs)).lookup n = some v := by
      rw [lookup_app n _ _ (hp n List.mem_cons_self)]
      simp [List.lookup]
    have e : pre ++ (n :: ns).zip (v :: vs) = (pre ++ [(n, v)]) ++ ns.zip vs := by simp
    have ih := zip_look ns vs (List.nodup_cons.mp nd).2 (by simpa using hl) (pre ++ [(n, v)]) (fun m hm => by
      rw [lookup_app m _ _ (hp m (List.mem_cons_of_mem _ hm))]
      have : m ≠ n := fun q => (List.nodup_cons.mp nd).1 (q ▸ hm)
      have : (m == n) = false := by simpa using this
      simp [List.lookup, this])
    rw [← e] at ih
    refine ⟨?_, ?_⟩
    · rw [List.filterMap_cons, h1]
      simp only [Option.map_some]
      rw [ih.1]; rfl
    · rw [List.filter_cons, h1]
      dsimp only [Option.isNone_some, Bool.false_eq_true, if_false]
      exact ih.2

theorem bind_plain {fd : FuncData} {as : List Arg} {vals : List Value} (hp : fd.params = ⟨[], as, none, [], [], none, []⟩) (hd : fd.defaults = .none) (nd : (as.map (·.arg)).Nodup) (hl : vals.length = as.length) :
    bindArgs fd ⟨vals, []⟩ = pure ((as.map (·.arg)).zip vals) := by
  have z := zip_look (as.map (·.arg)) vals nd (by simpa using hl) [] (fun _ _ => rfl)
  simp only [List.nil_append] at z
  unfold bindArgs
  rw [hp, hd]
  have hs : seqItems? .none = pure none := rfl
  have g : ¬ (vals.length > as.length) := by lia
  have dn : ∀ k, List.drop k ((none : Option (Array Value)).getD #[]).toList = [] := fun k => List.drop_nil
  simp only [hs, List.forIn_nil, pure_bind]
  rw [if_neg (by rw [List.map_nil, List.nil_append, List.length_map, decide_eq_false g]; decide)]
  rw [if_neg (by rw [dn, List.map_nil, List.nil_append, List.length_nil, Nat.sub_zero, List.take_length, z.2]; decide)]
  rw [dn, List.zip_nil_right, List.forIn_nil, pure_bind, List.map_nil, List.forIn_nil, pure_bind, if_neg (by exact Bool.false_ne_true), List.nil_append, List.append_nil, z.1]
end Mine

namespace Mine
open PySem PySem.Calls PySem.Spec PyProof.Rows PySem.W

structure FnIs (X : Cfg) (c : Cx) (a : Addr) (f : Fn) (q : Str) (cd : Value) : Prop where
  fn : ∃ (o : Obj) (fd : FuncData) (body : List Stmt) (as : List Arg), X.H.get? a = some o ∧ o.data = .func fd ∧ fd.globals = mainGlobals ∧ fd.closure = [] ∧ fd.builtins = builtinsNs ∧ fd.defaults = .none ∧ fd.qualname = q ∧ fd.code = cd ∧
    fd.params = ⟨[], as, none, [], [], none, []⟩ ∧ as.map (·.arg) = c.ns.take f.np ∧ fd.scope = c.sc ∧ fd.body = .stmts body ∧ okSs c f.body body = true
  code : ∃ ca co cv ct, cd = .ref ca ∧ X.H.get? ca = some co ∧ co.cls ≠ .none ∧ co.data = .fields cv ∧ cv[1]? = some (.str q ct)
  np : f.np ≤ c.ns.length
  nd : c.ns.Nodup
  kind : c.sc.kind = .function
  gen : c.sc.isGenerator = false
  co : c.sc.isCoroutine = false
  cell : ∀ x ∈ c.sc.names, x.2 ≠ .cell
  loc : ∀ x ∈ c.ns.take f.np, c.sc.names.lookup x = some .local

section
variable {X : Cfg}
theorem zip_lookup_rev {β : Type} : ∀ {ns : List Str} {vs : List β} {i : Nat} {x : Str} {v : β}, ns.Nodup → ns[i]? = some x → vs[i]? = some v → (ns.zip vs).reverse.lookup x = some v
  | [], _, _, _, _, _, h, _ => by simp at h
  | _ :: _, [], _, _, _, _, _, h => by simp at h
  | n :: ns, w :: vs, 0, x, v, nd, h1, h2 => by
    simp only [List.getElem?_cons_zero, Option.some.injEq] at h1 h2
    subst h1 h2
    rw [List.zip_cons_cons, List.reverse_cons]
    have : ((ns.zip vs).reverse).lookup n = none := by
      rw [List.lookup_eq_none_iff]
      intro p hp
      have hp' := List.mem_reverse.mp hp
      have := (List.of_mem_zip hp').1
      simp only [bne_iff_ne, ne_eq, beq_eq_false_iff_ne]
      intro e
      exact (List.nodup_cons.mp nd).1 (e ▸ this)
    rw [lookup_app n _ _ this]
    simp [List.lookup]
  | n :: ns, w :: vs, i + 1, x, v, nd, h1, h2 => by
    rw [List.getElem?_cons_succ] at h1 h2
    rw [List.zip_cons_cons, List.reverse_cons]
    have ih := zip_lookup_rev (List.nodup_cons.mp nd).2 h1 h2
    have go : ∀ (p q : List (Str × β)), p.lookup x = some v → (p ++ q).lookup x = some v := by
      intro p q
      induction p with
      | nil => intro h; cases h
      | cons a p ih =>
        obtain ⟨k, b⟩ := a
        dsimp only [List.cons_append, List.lookup]
        cases x == k with
        | true => exact fun h => h
        | false => exact fun h => ih h
    exact go _ _ ih

theorem funNone {h base : Heap} : ∀ {l : List Env} {b : Addr}, h.FunFrames base l → b ∈ fr l → base.get? b = none
  | env :: r, b, ⟨_, ⟨L, o, hf, hn, _, _⟩, hr⟩, hm => by
    obtain ⟨e, he, hb⟩ := List.mem_filterMap.mp hm
    rcases List.mem_cons.mp he with rfl | he
    · rw [hf] at hb; cases hb; exact hn
    · exact funNone hr (List.mem_filterMap.mpr ⟨e, he, hb⟩)
  | [], b, _, hm => by cases hm
theorem hideFrames {base h : Heap} {as : List Addr} {l : List Env} (x : h.FunFrames base l) (m : ∀ env ∈ l, ∀ a, env.frame = some a → a ∈ as) : h.FunFrames (hideAll h as) l := by
  induction l with
  | nil => exact x
  | cons e r ih =>
    refine ⟨x.1, ?_, ih x.2.2 fun env me => m env (List.mem_cons_of_mem _ me)⟩
    exact x.2.1.imp fun L y => y.imp fun _ z => ⟨z.1, hideAll_none _ (m e List.mem_cons_self L z.1), z.2.2⟩
theorem start_get {f : Fn} {ds : List PyData} {i : Nat} {d : PyData} (h : (start f ds)[i]? = some (some d)) : ds[i]? = some d := by
  unfold start at h
  rw [List.getElem?_append] at h
  split at h
  · rw [List.getElem?_map] at h
    cases e : ds[i]? with
    | none => rw [e] at h; cases h
    | some d' => rw [e] at h; simp at h; rw [h]
  · rw [List.getElem?_replicate] at h
    split at h <;> cases h

variable {c : Cx} {Fa : Nat → Addr} {C : Calls} {A : Around} {l : List Env} {N : Nat} {s : Shared} {a : Addr} {f : Fn} {q : Str} {cd : Value} {Q : Value → Shared → Prop} {E : Value → Shared → Prop} {vs : List Value} {ds : List PyData}

theorem call_step (F : FnIs X c a f q cd) (there : ∀ h, X.Tab h → ∀ b o, X.H.get? b = some o → ¬ KeepMe o → ∃ o', h.get? b = some o') (hlim : X.H.NoLimit) (hfr : A.frames = some l) (hroom : A.depth < recursionLimit)
    (hsit : ∀ L, X.H.get? L = none → Sit X c Fa C (A.deeper (envOf q c.sc L a cd)) (envOf q c.sc L a cd) l L) (ff : s.heap.FunFrames X.H l) (wh : Wh X s.heap) (wg : AllBare s.gens) (wo : s.os = X.O) (wt : 0 < s.toks + vs.length)
    (rs : RdAll s.heap vs ds) (hn : ds.length = f.np) (sp : Sp X RelV [] l s Q E (fin (Mine.execs C N f.body (start f ds)))) : wpAny (model X.prog X.w) A (call (.ref a) vs) Q E s := by
  obtain ⟨o, fd, body, as, ho, hd, h1, h2, h3, h4, h5, h6, h7, h8, h9, h10, h11⟩ := F.fn
  have hvs := rs.length
  have hal : as.length = f.np := by
    have := congrArg List.length h8
    rw [List.length_map, List.length_take] at this
    have := F.np
    lia
  have ndt : (c.ns.take f.np).Nodup := F.nd.sublist (List.take_sublist _ _)
  have hLn : X.H.get? s.heap.objs.size = none := by
    cases e : X.H.get? s.heap.objs.size with
    | none => rfl
    | some ob =>
      exfalso
      by_cases k : KeepMe ob
      · exact absurd (Heap.lt_size (wh.old _ _ e k)) (Nat.lt_irrefl _)
      · obtain ⟨o', e'⟩ := there _ wh.tab _ _ e k
        exact absurd (Heap.lt_size e') (Nat.lt_irrefl _)
  have hob : s.heap.get? a = some o := wh.get ho (fun vs q => by rw [hd] at q; cases q)
  have hlim' : s.heap.NoLimit := by
    obtain ⟨mc, n1, n2⟩ := hlim
    exact ⟨mc, wh.ns n1, n2⟩
  have hcr : s.heap.CodeRec fd.code fd.qualname := by
    rw [h5, h6]
    obtain ⟨ca, co, cv, ct, e1, e2, e3, e4, e5⟩ := F.code
    exact ⟨ca, co, cv, ct, e1, wh.old _ _ e2 (.inl e3), e4, e5⟩
  have hlocs : ∀ x ∈ (c.ns.take f.np).zip vs, fd.scope.names.lookup x.1 = some .local := fun x hx => by rw [h9]; exact F.loc x.1 (List.of_mem_zip hx).1
  have hbind : BindsTo s fd ⟨vs, []⟩ ((c.ns.take f.np).zip vs) := BindsTo.of_eq (by rw [← h8]; exact bind_plain h7 h4 (by rw [h8]; exact ndt) (by first | assumption | exact Nat.le_add_left _ _ | decide | lia))
  have henv : callEnv fd s.heap.objs.size a = envOf q c.sc s.heap.objs.size a cd := by
    unfold callEnv envOf newEnv
    rw [h1, h2, h3, h5, h6, h9]
  refine wpAny_call (codeAny_call_def hroom hob hd hlim' hcr h10 hbind (by rw [h9]; exact F.cell) hlocs (fun h₀ hns hk => ?_) (by rw [h9]; exact F.co) (by rw [h9]; exact F.gen) (by rw [h9]; exact F.kind))
  rw [henv]
  have T := hsit _ hLn
  have hbl : ((c.ns.take f.np).zip vs).length = vs.length := by
    rw [List.length_zip, List.length_take]
    have := F.np
    lia
  have hneL : ∀ b o, s.heap.get? b = some o → b ≠ s.heap.objs.size := fun b o e => Nat.ne_of_lt (Heap.lt_size e)
  have w₀ : W X { s with heap := h₀, toks := s.toks + ((c.ns.take f.np).zip vs).length } := ⟨wh.keeps hk, wg, wo, by rw [hbl]; exact wt⟩
  have ff₀ : h₀.FunFrames X.H (envOf q c.sc s.heap.objs.size a cd :: l) := by
    refine ⟨?_, ?_, ff.of_keeps fun b o e _ => ⟨o, hk b o e, rfl⟩⟩
    · show c.sc.kind ≠ .module
      rw [F.kind]; intro z; cases z
    · obtain ⟨ob, es, ep, e1, e2, _⟩ := hns
      exact ⟨_, ob, rfl, hLn, e1, fun vs z => by rw [e2] at z; cases z⟩
  have here : Here X c (envOf q c.sc s.heap.objs.size a cd) l s.heap.objs.size (start f ds) { s with heap := h₀, toks := s.toks + ((c.ns.take f.np).zip vs).length } := by
    refine ⟨w₀, ff₀, _, hns, fun i d e => ?_⟩
    have e1 := start_get e
    obtain ⟨v, e2, r⟩ := rs.get i d e1
    have hi : i < f.np := by
      have := (List.getElem?_eq_some_iff.mp e1).1
      lia
    have hin : i < c.ns.length := Nat.lt_of_lt_of_le hi F.np
    refine ⟨c.ns[i], v, List.getElem?_eq_getElem hin, ?_, r.move fun b o vs n e _ _ => ⟨o.slots, hk b o e⟩⟩
    refine zip_lookup_rev (i := i) ndt ?_ e2
    rw [List.getElem?_take]
    rw [if_pos hi]
    exact List.getElem?_eq_getElem hin
  have back : ∀ s', Ok X [s.heap.objs.size] { s with heap := h₀, toks := s.toks + ((c.ns.take f.np).zip vs).length } s' → Ok X [] s s' := fun s' o => by
    refine ⟨fun b ob _ e k => ?_, o.2⟩
    refine o.1 b ob (fun z => ?_) (hk b ob e) k
    rcases List.mem_cons.mp z with z | z
    · exact hneL b ob e z
    · cases z
  have hfr' : (A.deeper (envOf q c.sc s.heap.objs.size a cd)).frames = some (envOf q c.sc s.heap.objs.size a cd :: l) := Around.frames_deeper hfr
  have inFr : ∀ {b : Addr}, b ∈ fr (envOf q c.sc s.heap.objs.size a cd :: l) → b = s.heap.objs.size ∨ b ∈ fr l := fun {b} hm => by
    obtain ⟨e, he, hb⟩ := List.mem_filterMap.mp hm
    rcases List.mem_cons.mp he with rfl | he
    · exact .inl (Option.some.inj hb).symm
    · exact .inr (List.mem_filterMap.mpr ⟨e, he, hb⟩)
  refine soundSs (N := N) T F.nd f.body body (start f ds) _ _ _ h11 here ?_
  revert sp
  cases Mine.execs C N f.body (start f ds) with
  | ok fl =>
    cases fl with
    | next ρ' =>
      intro sp v s' o r
      obtain ⟨rfl, _⟩ := r
      exact sp _ _ (back s' o) .none
    | ret d =>
      intro sp v s' o r
      obtain ⟨u, rfl, r⟩ := r
      exact sp _ _ (back s' o) r
  | exc b =>
    intro sp
    cases b with
    | true =>
      intro e s' fresh
      obtain ⟨ea, s₁, evs, rfl, o₁, ff₁, made, hg, ho', ht⟩ := fresh
      have hin : ∀ env ∈ (envOf q c.sc s.heap.objs.size a cd :: l), ∀ b, env.frame = some b → b ∈ fr (envOf q c.sc s.heap.objs.size a cd :: l) := fun env he b hb => List.mem_filterMap.mpr ⟨env, he, hb⟩
      refine wpAny_leaves_madeW (base := hideAll s₁.heap (fr (envOf q c.sc s.heap.objs.size a cd :: l))) hfr' rfl (fun b o z => of_hideAll _ z) (hideFrames ff₁ hin) made fun h' t fl tup new up => ?_
      have bk := back s₁ o₁
      refine sp _ _ ⟨ea, _, t, rfl, fun b ob nb eb kb => ?_, ⟨fun b ob eb kb => ?_, ?_⟩, fl, fun b ob eb kb mb _ => ?_, hg ▸ o₁.2.gens, ho'.trans o₁.2.os, by show 0 < s'.toks; rw [ht]; exact o₁.2.toks⟩
      · obtain ⟨sl, e1, q1⟩ := bk.1 b ob (fun z => by cases z) eb kb
        exact ⟨sl, hideAll_get _ e1 fun hm => (inFr hm).elim (fun z => hneL b ob eb z) nb, q1⟩
      · refine hideAll_get _ (o₁.2.h.old b ob eb kb) fun hm => ?_
        have := funNone ff₁ hm
        rw [eb] at this; cases this
      · refine X.tab _ _ (fun b ob vs' eb hd' _ => hideAll_get _ eb fun hm => ?_) o₁.2.h.tab
        obtain ⟨o', e', hd''⟩ := funMem ff₁ hm
        rw [eb] at e'; cases e'
        exact hd'' _ hd'
      · obtain ⟨sl, e1, _⟩ := bk.1 b ob (fun z => by cases z) eb kb
        obtain ⟨o', e', hd''⟩ := funMem ff mb
        rw [eb] at e'; cases e'
        obtain ⟨sl', e2⟩ := up b _ (made.keeps _ _ e1) hd''
        exact ⟨sl', e2⟩
    | false =>
      intro e s' fly
      obtain ⟨ea, B, t, rfl, k1, wB, fl, k2, hg, ho', ht⟩ := fly
      refine wpAny_leaves_onW hfr' rfl fl fun h' fl' up => ?_
      refine sp _ _ ⟨ea, B, t, rfl, fun b ob nb eb kb => ?_, wB, fl', fun b ob eb kb mb _ => ?_, hg, ho', ht⟩
      · exact k1 b ob (fun hm => (inFr hm).elim (fun z => hneL b ob eb z) nb) (hk b ob eb) kb
      · obtain ⟨sl, e1⟩ := k2 b ob (hk b ob eb) kb (List.mem_filterMap.mpr (by
          obtain ⟨e, he, hb⟩ := List.mem_filterMap.mp mb
          exact ⟨e, List.mem_cons_of_mem _ he, hb⟩)) (fun z => by
            rcases List.mem_cons.mp z with z | z
            · exact hneL b ob eb z
            · cases z)
        obtain ⟨o', e', hd''⟩ := funMem ff mb
        rw [eb] at e'; cases e'
        obtain ⟨sl', e2⟩ := up b _ e1 hd''
        exact ⟨sl', e2⟩
  | stuck => exact fun sp => sp.elim
end
end Mine

namespace Mine
open PySem PySem.Calls PySem.Spec PyProof.Rows PySem.W

noncomputable def ExtOk (X : Cfg) (c : Cx) (C : Calls) (A : Around) (env : Env) (l : List Env) (L : Addr) : Prop :=
  ∀ (p : PE) (e : Expr) (ρ : Env') (s : Shared) (Q : Value → Shared → Prop) (E : Value → Shared → Prop), c.ext p e = true → Here X c env l L ρ s → Sp X RelV [] (env :: l) s Q E (ev C p ρ) → wpAny (model X.prog X.w) A (eval e env) Q E s

noncomputable def CallsOk (X : Cfg) (Fa : Nat → Addr) (C : Calls) (n : Nat) : Prop :=
  ∀ (A : Around) (l : List Env) (k : Nat) (vs : List Value) (ds : List PyData) (s : Shared) (Q : Value → Shared → Prop) (E : Value → Shared → Prop), A.frames = some l → A.handled = none → A.depth + n ≤ 900 → A.units + 3 * n + 100 ≤ cLine →
    s.heap.FunFrames X.H l → W X s → RdAll s.heap vs ds → Sp X RelV [] l s Q E (C k ds) → wpAny (model X.prog X.w) A (call (.ref (Fa k)) vs) Q E s

structure TabIs (X : Cfg) (T : List Fn) (cx : Nat → Cx) (Fa : Nat → Addr) (qs : Nat → Str) (cds : Nat → Value) : Prop where
  there : ∀ h, X.Tab h → ∀ b o, X.H.get? b = some o → ¬ KeepMe o → ∃ o', h.get? b = some o'
  lim : X.H.NoLimit
  nb : NoneBooked X.H
  G : ∀ k, Gx X (cx k) Fa
  fn : ∀ k f, T[k]? = some f → FnIs X (cx k) (Fa k) f (qs k) (cds k)

noncomputable def ExtsOk (X : Cfg) (T : List Fn) (N : Nat) (cx : Nat → Cx) (Fa : Nat → Addr) (qs : Nat → Str) (cds : Nat → Value) : Prop :=
  ∀ (k n : Nat) (A : Around) (l : List Env) (L : Addr), A.frames = some (envOf (qs k) (cx k).sc L (Fa k) (cds k) :: l) → A.handled = none → A.depth + n ≤ 900 → A.units + 3 * n + 100 ≤ cLine → X.H.get? L = none →
    CallsOk X Fa (run T N n) n → ExtOk X (cx k) (run T N n) A (envOf (qs k) (cx k).sc L (Fa k) (cds k)) l L

section
variable {X : Cfg} {T : List Fn} {N : Nat} {cx : Nat → Cx} {Fa : Nat → Addr} {qs : Nat → Str} {cds : Nat → Value}

theorem sit_of (I : TabIs X T cx Fa qs cds) (ex : ExtsOk X T N cx Fa qs cds) {k n : Nat} {f : Fn} (hk : T[k]? = some f) {A : Around} {l : List Env} (hfr : A.frames = some l) (hh : A.handled = none) (hd : A.depth + (n + 1) ≤ 900) (hu : A.units + 3 * (n + 1) + 100 ≤ cLine)
    (ih : CallsOk X Fa (run T N n) n) (L : Addr) (hL : X.H.get? L = none) :
    Sit X (cx k) Fa (run T N n) (A.deeper (envOf (qs k) (cx k).sc L (Fa k) (cds k))) (envOf (qs k) (cx k).sc L (Fa k) (cds k)) l L := by
  have F := I.fn k f hk
  have hfr' := Around.frames_deeper (env := envOf (qs k) (cx k).sc L (Fa k) (cds k)) hfr
  have hd' : (A.deeper (envOf (qs k) (cx k).sc L (Fa k) (cds k))).depth = A.depth + 1 := rfl
  have hu' : (A.deeper (envOf (qs k) (cx k).sc L (Fa k) (cds k))).units = A.units + 3 := rfl
  refine ⟨I.G k, ⟨_, _, _, rfl⟩, F.kind, hL, I.lim, I.nb, I.there, hfr', hh, by rw [hu']; lia, fun g vs ds s Q E ff w rs sp => ?_, ?_⟩
  · exact ih _ _ g vs ds s Q E hfr' hh (by rw [hd']; lia) (by rw [hu']; lia) ff w rs sp
  · exact ex k n _ l L hfr' hh (by rw [hd']; lia) (by rw [hu']; lia) hL ih

theorem callsOk (I : TabIs X T cx Fa qs cds) (ex : ExtsOk X T N cx Fa qs cds) : ∀ n, CallsOk X Fa (run T N n) n
  | 0 => fun A l k vs ds s Q E _ _ _ _ _ _ _ sp => sp.elim
  | n + 1 => fun A l k vs ds s Q E hfr hh hd hu ff w rs sp => by
    rw [runE] at sp
    cases hk : T[k]? with
    | none => rw [hk] at sp; exact sp.elim
    | some f =>
      rw [hk] at sp
      simp only at sp
      cases hn : ds.length == f.np with
      | false => rw [hn] at sp; exact sp.elim
      | true =>
        rw [hn] at sp
        have : recursionLimit = 1000 := rfl
        exact call_step (I.fn k f hk) I.there I.lim hfr (by first | assumption | exact Nat.le_add_left _ _ | decide | lia) (fun L hL => sit_of I ex hk hfr hh hd hu (callsOk I ex n) L hL) ff w.h w.gens w.os (by have := w.toks; lia) rs (beq_iff_eq.mp hn) sp

theorem top_call (I : TabIs X T cx Fa qs cds) (ex : ExtsOk X T N cx Fa qs cds) {n k : Nat} {A : Around} {v : Value} {d : PyData} {s : Shared} {Q : Value → Shared → Prop} {E : Value → Shared → Prop} (hfr : A.frames = some []) (hh : A.handled = none) (hd : A.depth + (n + 1) ≤ 900) (hu : A.units + 3 * (n + 1) + 100 ≤ cLine)
    (wh : Wh X s.heap) (wg : AllBare s.gens) (wo : s.os = X.O) (r : Rd s.heap v d) (h : run T N (n + 1) k [d] = .ok (.bool true)) (hQ : ∀ s', Ok X [] s s' → Q (.bool true) s') : wpAny (model X.prog X.w) A (call (.ref (Fa k)) [v]) Q E s := by
  rw [runE] at h
  cases hk : T[k]? with
  | none => rw [hk] at h; cases h
  | some f =>
    rw [hk] at h
    simp only at h
    cases hn : [d].length == f.np with
    | false => rw [hn] at h; cases h
    | true =>
      rw [hn] at h
      have : recursionLimit = 1000 := rfl
      refine call_step (l := []) (N := N) (I.fn k f hk) I.there I.lim hfr (by first | assumption | exact Nat.le_add_left _ _ | decide | lia) (fun L hL => sit_of I ex hk hfr hh hd hu (callsOk I ex n) L hL) trivial wh wg wo (by simp) (.cons r .nil) (beq_iff_eq.mp hn) ?_
      rw [cond_true] at h
      rw [h]
      intro u s' o ru
      cases ru
      exact hQ s' o
end
end Mine

namespace Mine
open PySem PySem.Calls PySem.Spec PyProof.Rows PySem.W

noncomputable def vRef (k : Addr → Bool) (e : Value) : Bool := pick e.ctorIdx 10 fun q => Value.ref.elim (motive := fun _ => Bool) e q fun a => k a
theorem vRef_inv {k : Addr → Bool} {e : Value} (h : vRef k e = true) : ∃ a, e = .ref a ∧ k a = true :=
  Value.ref.elim (motive := fun e => vRef k e = true → ∃ a, e = .ref a ∧ k a = true) e (pick_inv h) (fun a h => ⟨a, rfl, h⟩) h
noncomputable def vBool (k : Bool → Bool) (e : Value) : Bool := pick e.ctorIdx 3 fun q => Value.bool.elim (motive := fun _ => Bool) e q fun a => k a
theorem vBool_inv {k : Bool → Bool} {e : Value} (h : vBool k e = true) : ∃ a, e = .bool a ∧ k a = true :=
  Value.bool.elim (motive := fun e => vBool k e = true → ∃ a, e = .bool a ∧ k a = true) e (pick_inv h) (fun a h => ⟨a, rfl, h⟩) h
noncomputable def vInt (k : Int → Bool) (e : Value) : Bool := pick e.ctorIdx 4 fun q => Value.int.elim (motive := fun _ => Bool) e q fun a _ => k a
theorem vInt_inv {k : Int → Bool} {e : Value} (h : vInt k e = true) : ∃ a t, e = .int a t ∧ k a = true :=
  Value.int.elim (motive := fun e => vInt k e = true → ∃ a t, e = .int a t ∧ k a = true) e (pick_inv h) (fun a t h => ⟨a, t, rfl, h⟩) h
noncomputable def vStr (k : Str → Bool) (e : Value) : Bool := pick e.ctorIdx 6 fun q => Value.str.elim (motive := fun _ => Bool) e q fun a _ => k a
theorem vStr_inv {k : Str → Bool} {e : Value} (h : vStr k e = true) : ∃ a t, e = .str a t ∧ k a = true :=
  Value.str.elim (motive := fun e => vStr k e = true → ∃ a t, e = .str a t ∧ k a = true) e (pick_inv h) (fun a t h => ⟨a, t, rfl, h⟩) h
noncomputable def vType (k : String → Bool) (e : Value) : Bool := pick e.ctorIdx 8 fun q => Value.type.elim (motive := fun _ => Bool) e q fun a => k a
theorem vType_inv {k : String → Bool} {e : Value} (h : vType k e = true) : ∃ a, e = .type a ∧ k a = true :=
  Value.type.elim (motive := fun e => vType k e = true → ∃ a, e = .type a ∧ k a = true) e (pick_inv h) (fun a h => ⟨a, rfl, h⟩) h
noncomputable def dFields (k : Array Value → Bool) (e : Data) : Bool := pick e.ctorIdx 9 fun q => Data.fields.elim (motive := fun _ => Bool) e q fun vs => k vs
theorem dFields_inv {k : Array Value → Bool} {e : Data} (h : dFields k e = true) : ∃ vs, e = .fields vs ∧ k vs = true :=
  Data.fields.elim (motive := fun e => dFields k e = true → ∃ vs, e = .fields vs ∧ k vs = true) e (pick_inv h) (fun vs h => ⟨vs, rfl, h⟩) h
noncomputable def dSeq (k : Array Value → Bool) (e : Data) : Bool := pick e.ctorIdx 2 fun q => Data.seq.elim (motive := fun _ => Bool) e q fun vs _ => k vs
theorem dSeq_inv {k : Array Value → Bool} {e : Data} (h : dSeq k e = true) : ∃ vs n, e = .seq vs n ∧ k vs = true :=
  Data.seq.elim (motive := fun e => dSeq k e = true → ∃ vs n, e = .seq vs n ∧ k vs = true) e (pick_inv h) (fun vs n h => ⟨vs, n, rfl, h⟩) h
noncomputable def onStmts (k : List Stmt → Bool) (e : FuncBody) : Bool := pick e.ctorIdx 0 fun q => FuncBody.stmts.elim (motive := fun _ => Bool) e q fun b => k b
theorem onStmts_inv {k : List Stmt → Bool} {e : FuncBody} (h : onStmts k e = true) : ∃ b, e = .stmts b ∧ k b = true :=
  FuncBody.stmts.elim (motive := fun e => onStmts k e = true → ∃ b, e = .stmts b ∧ k b = true) e (pick_inv h) (fun b h => ⟨b, rfl, h⟩) h
noncomputable def isNoneV (v : Value) : Bool := pick v.ctorIdx 0 fun _ => true
theorem isNoneV_inv {v : Value} (h : isNoneV v = true) : v = .none := Value.none.elim (motive := fun v => v = .none) v (pick_inv h) rfl
noncomputable def refOf (v : Value) : Option Addr := if h : v.ctorIdx = 10 then some (Value.ref.elim (motive := fun _ => Addr) v h fun a => a) else none
theorem refOf_inv {v : Value} {a : Addr} (h : refOf v = some a) : v = .ref a := by
  by_cases q : v.ctorIdx = 10
  · exact Value.ref.elim (motive := fun v => refOf v = some a → v = .ref a) v q (fun b h => by cases h; rfl) h
  · rw [refOf, dif_neg q] at h; cases h
noncomputable def funcOf (v : Data) : Option FuncData := if h : v.ctorIdx = 7 then some (Data.func.elim (motive := fun _ => FuncData) v h fun a => a) else none
theorem funcOf_inv {v : Data} {a : FuncData} (h : funcOf v = some a) : v = .func a := by
  by_cases q : v.ctorIdx = 7
  · exact Data.func.elim (motive := fun v => funcOf v = some a → v = .func a) v q (fun b h => by cases h; rfl) h
  · rw [funcOf, dif_neg q] at h; cases h
noncomputable def fnAt (K : Frag) (x : Str) : Option (Addr × FuncData) := (nsIn K mainGlobals x).bind fun o => o.bind fun v => (refOf v).bind fun a => (K.lookup a).bind fun o => (funcOf o.data).bind fun fd => some (a, fd)
noncomputable def codeOkIn (K : Frag) (cd : Value) (q : Str) : Bool := vRef (fun c => onSome (fun o => vType (fun _ => true) o.cls && dFields (fun vs => onCons (fun _ r => onCons (fun u _ => vStr (fun n => n == q) u) r) vs.toList) o.data) (K.lookup c)) cd
noncomputable def plainP (a : Arguments) : Bool := on0 a.posonlyargs && onNone a.vararg && on0 a.kwonlyargs && on0 a.kw_defaults && onNone a.kwarg && on0 a.defaults
theorem plainP_inv {a : Arguments} (h : plainP a = true) : a = ⟨[], a.args, none, [], [], none, []⟩ := by
  obtain ⟨p1, p2, p3, p4, p5, p6, p7⟩ := a
  obtain ⟨h, h6⟩ := both h
  obtain ⟨h, h5⟩ := both h
  obtain ⟨h, h4⟩ := both h
  obtain ⟨h, h3⟩ := both h
  obtain ⟨h1, h2⟩ := both h
  obtain rfl := on0_inv h1
  obtain rfl := onNone_inv h2
  obtain rfl := on0_inv h3
  obtain rfl := on0_inv h4
  obtain rfl := onNone_inv h5
  obtain rfl := on0_inv h6
  rfl
noncomputable def fdOk (K : Frag) (fns : List Str) (gl : List (Str × PyData)) (ns : List Str) (ext : Scope → List Str → PE → Expr → Bool) (f : Fn) (fd : FuncData) : Bool :=
  fd.globals == mainGlobals && fd.closure.isEmpty && fd.builtins == builtinsNs && isNoneV fd.defaults && codeOkIn K fd.code fd.qualname &&
      (plainP fd.params && fd.params.args.map (·.arg) == ns.take f.np) && decide (f.np ≤ ns.length) && decide ns.Nodup && fd.scope.kind == .function && !fd.scope.isGenerator && !fd.scope.isCoroutine &&
      fd.scope.names.all (fun x => !(x.2 == .cell)) && (ns.take f.np).all (fun x => fd.scope.names.lookup x == some .local) &&
      onStmts (fun b => okSs ⟨fns, gl, ns, fd.scope, ext fd.scope ns⟩ f.body b) fd.body
noncomputable def fnOk (K : Frag) (fns : List Str) (gl : List (Str × PyData)) (ns : List Str) (ext : Scope → List Str → PE → Expr → Bool) (x : Str) (f : Fn) : Bool := onSome (fun p => fdOk K fns gl ns ext f p.2) (fnAt K x)

noncomputable def seqIn (K : Frag) (ty : String) (k : List Value → Bool) (v : Value) : Bool := vRef (fun a => onSome (fun o => vType (fun t => t == ty) o.cls && dSeq (fun vs => decide (vs.size ≤ 1048576) && k vs.toList) o.data) (K.lookup a)) v
theorem seqIn_inv {K : Frag} {h : Heap} {ty : String} {k : List Value → Bool} {v : Value} (X : K.In h) (e : seqIn K ty k v = true) : ∃ a o vs n, v = .ref a ∧ h.get? a = some o ∧ o.cls = .type ty ∧ o.data = .seq vs n ∧ vs.size ≤ 1048576 ∧ k vs.toList = true := by
  obtain ⟨a, rfl, e1⟩ := vRef_inv e
  obtain ⟨o, e2, e3⟩ := onSome_inv e1
  obtain ⟨e4, e5⟩ := both e3
  obtain ⟨t, e6, e7⟩ := vType_inv e4
  obtain ⟨vs, n, e8, e9⟩ := dSeq_inv e5
  obtain ⟨e10, e11⟩ := both e9
  exact ⟨a, o, vs, n, rfl, X _ _ e2, by rw [e6, beq_iff_eq.mp e7], e8, of_decide_eq_true e10, e11⟩
mutual
noncomputable def rdIn (K : Frag) : PyData → Value → Bool
  | .none, v => isNoneV v
  | .bool a, v => vBool (fun b => a == b) v
  | .int a, v => vInt (fun b => a == b) v
  | .str a, v => vStr (fun b => a == b && decide (b.length ≤ limit)) v
  | .list ds, v => seqIn K "list" (fun l => rdsIn K ds l) v
  | .tuple ds, v => seqIn K "tuple" (fun l => rdsIn K ds l) v
  | .dict _, _ => false
noncomputable def rdsIn (K : Frag) : List PyData → List Value → Bool
  | [], l => on0 l
  | d :: ds, l => onCons (fun v vs => rdIn K d v && rdsIn K ds vs) l
end
mutual
theorem rdIn_ok {K : Frag} {h : Heap} (X : K.In h) : ∀ {d : PyData} {v : Value}, rdIn K d v = true → Rd h v d
  | .none, v, e => by rw [isNoneV_inv e]; exact .none
  | .bool a, v, e => by obtain ⟨b, rfl, k⟩ := vBool_inv e; rw [← beq_iff_eq.mp k]; exact .bool _
  | .int a, v, e => by obtain ⟨b, t, rfl, k⟩ := vInt_inv e; rw [← beq_iff_eq.mp k]; exact .int _ _
  | .str a, v, e => by
    obtain ⟨b, t, rfl, k⟩ := vStr_inv e
    have := of_decide_eq_true (both k).2
    rw [← beq_iff_eq.mp (both k).1] at this ⊢; exact .str _ _ this
  | .list ds, v, e => by
    obtain ⟨a, o, vs, n, rfl, e1, e2, e3, e4, e5⟩ := seqIn_inv X e
    exact .list e1 e2 e3 e4 (rdsIn_ok X e5)
  | .tuple ds, v, e => by
    obtain ⟨a, o, vs, n, rfl, e1, e2, e3, e4, e5⟩ := seqIn_inv X e
    exact .tuple e1 e2 e3 e4 (rdsIn_ok X e5)
theorem rdsIn_ok {K : Frag} {h : Heap} (X : K.In h) : ∀ {ds : List PyData} {vs : List Value}, rdsIn K ds vs = true → RdAll h vs ds
  | [], vs, e => by rw [on0_inv e]; exact .nil
  | d :: ds, vs, e => by
    obtain ⟨v, r, rfl, k⟩ := onCons_inv e
    exact .cons (rdIn_ok X (both k).1) (rdsIn_ok X (both k).2)
end

noncomputable def glOk (K : Frag) (gl : List (Str × PyData)) : Bool := gl.all fun p => onSome (onSome fun v => rdIn K p.2 v) (nsIn K mainGlobals p.1)
noncomputable def btOk (K : Frag) : Bool := bts.all fun p => onSome onNone (nsIn K mainGlobals p.1)
noncomputable def fnsOk (K : Frag) (fns : List Str) : Bool := fns.all fun x => (fnAt K x).isSome
noncomputable def tabOk (K : Frag) (fns : List Str) (gl : List (Str × PyData)) (exts : Nat → Scope → List Str → PE → Expr → Bool) : Nat → List Str → List (List Str) → List Fn → Bool
  | _, xs, nss, [] => on0 xs && on0 nss
  | k, xs, nss, f :: T => onCons (fun x xs => onCons (fun ns nss => fnOk K fns gl ns (exts k) x f && tabOk K fns gl exts (k + 1) xs nss T) nss) xs

noncomputable def dDict (k : Array DictEntry → Bool) (e : Data) : Bool := pick e.ctorIdx 3 fun q => Data.dict.elim (motive := fun _ => Bool) e q fun es _ => k es
theorem dDict_inv {k : Array DictEntry → Bool} {e : Data} (h : dDict k e = true) : ∃ es ep, e = .dict es ep ∧ k es = true :=
  Data.dict.elim (motive := fun e => dDict k e = true → ∃ es ep, e = .dict es ep ∧ k es = true) e (pick_inv h) (fun es ep h => ⟨es, ep, rfl, h⟩) h
noncomputable def nbOk (K : Frag) : Bool := onSome (fun o => dDict (fun es => es.toList.all fun e => !(e.key.isStr sharingNotToldKey)) o.data) (K.lookup cStatics)
theorem nbOk_ok {K : Frag} {h : Heap} (KX : K.In h) (lim : h.NoLimit) (ok : nbOk K = true) : NoneBooked h := by
  obtain ⟨mc, ⟨o, es, ep, ho, hd, sk, hf⟩, _⟩ := lim
  obtain ⟨o', e1, k1⟩ := onSome_inv ok
  have e2 := KX _ _ e1
  rw [ho] at e2
  cases e2
  obtain ⟨es', ep', e3, k2⟩ := dDict_inv k1
  rw [hd] at e3
  cases e3
  refine ⟨mc, ⟨o, es, ep, ho, hd, sk, hf⟩, ?_⟩
  rw [← hf]
  have hn : ∀ e ∈ es, e.key.isStr sharingNotToldKey = false := fun e he => notT (List.all_eq_true.mp k2 e (Array.mem_toList_iff.mpr he))
  show ((es.find? fun e => e.key.isStr sharingNotToldKey).map (·.val)) = none
  rw [Array.find?_eq_none.mpr fun e he => by rw [hn e he]; exact Bool.false_ne_true]
  rfl

theorem bts_boot : ∀ p ∈ bts, bootBuiltins p.1 = some p.2 ∧ p.1 ≠ "__name__" := by
  intro p hp
  simp only [bts, List.mem_cons, List.mem_nil_iff, or_false] at hp
  rcases hp with rfl | rfl | rfl | rfl | rfl | rfl | rfl | rfl | rfl | rfl | rfl | rfl | rfl | rfl | rfl
  · exact ⟨Boot.«len», by decide⟩
  · exact ⟨Boot.«str», by decide⟩
  · exact ⟨Boot.«int», by decide⟩
  · exact ⟨Boot.«abs», by decide⟩
  · exact ⟨Boot.«ord», by decide⟩
  · exact ⟨Boot.«min», by decide⟩
  · exact ⟨Boot.«max», by decide⟩
  · exact ⟨Boot.«type», by decide⟩
  · exact ⟨Boot.«tuple», by decide⟩
  · exact ⟨Boot.«bool», by decide⟩
  · exact ⟨Boot.«all», by decide⟩
  · exact ⟨Boot.«any», by decide⟩
  · exact ⟨Boot.«zip», by decide⟩
  · exact ⟨Boot.«range», by decide⟩
  · exact ⟨Boot.«ValueError», by decide⟩

section
variable {X : Cfg} {K : Frag} {fns : List Str} {gl : List (Str × PyData)} {nss : List (List Str)} {exts : Nat → Scope → List Str → PE → Expr → Bool} {T : List Fn}
noncomputable def fdOf (K : Frag) (fns : List Str) (k : Nat) : Addr × FuncData := match fns[k]? with
  | some x => (fnAt K x).getD (0, default)
  | none => (0, default)
noncomputable def cxOf (K : Frag) (fns : List Str) (gl : List (Str × PyData)) (nss : List (List Str)) (exts : Nat → Scope → List Str → PE → Expr → Bool) (k : Nat) : Cx := ⟨fns, gl, (nss[k]?).getD [], (fdOf K fns k).2.scope, exts k (fdOf K fns k).2.scope ((nss[k]?).getD [])⟩

theorem tabOk_at : ∀ {T : List Fn} {j : Nat} {xs : List Str} {nss : List (List Str)}, tabOk K fns gl exts j xs nss T = true → ∀ k f, T[k]? = some f → ∃ x ns, xs[k]? = some x ∧ nss[k]? = some ns ∧ fnOk K fns gl ns (exts (j + k)) x f = true
  | [], _, _, _, _, k, f, e => by cases e
  | f :: T, j, xs, nss, h, k, g, e => by
    obtain ⟨x, xs, rfl, h1⟩ := onCons_inv h
    obtain ⟨ns, nss, rfl, h2⟩ := onCons_inv h1
    obtain ⟨h3, h4⟩ := both h2
    cases k with
    | zero => cases e; exact ⟨x, ns, rfl, rfl, h3⟩
    | succ k =>
      obtain ⟨y, ms, e1, e2, e3⟩ := tabOk_at h4 k g e
      exact ⟨y, ms, e1, e2, by rw [Nat.add_assoc, Nat.add_comm 1 k] at e3; exact e3⟩

theorem fnAt_ok {h : Heap} {x : Str} {a : Addr} {fd : FuncData} {mg : Str → Option Value} (KX : K.In h) (g : h.Ns mainGlobals mg) (e : fnAt K x = some (a, fd)) : mg x = some (.ref a) ∧ ∃ o, h.get? a = some o ∧ o.data = .func fd := by
  obtain ⟨o1, q1, k1⟩ := Option.bind_eq_some_iff.mp e
  obtain ⟨v, q2, k2⟩ := Option.bind_eq_some_iff.mp k1
  obtain ⟨b, q3, k3⟩ := Option.bind_eq_some_iff.mp k2
  obtain ⟨o, q4, k4⟩ := Option.bind_eq_some_iff.mp k3
  obtain ⟨fd', q5, k5⟩ := Option.bind_eq_some_iff.mp k4
  cases k5
  rw [q2, refOf_inv q3] at q1
  exact ⟨mg_of KX g q1, o, KX _ _ q4, funcOf_inv q5⟩

theorem tab_is {mg mb : Str → Option Value} (KX : K.In X.H) (g : X.H.Ns mainGlobals mg) (b : X.H.Ns builtinsNs mb) (bb : ∀ x : Str, x ≠ "__name__" → mb x = bootBuiltins x) (lim : X.H.NoLimit) (nb : NoneBooked X.H)
    (there : ∀ h, X.Tab h → ∀ b o, X.H.get? b = some o → ¬ KeepMe o → ∃ o', h.get? b = some o')
    (h1 : glOk K gl = true) (h2 : btOk K = true) (h3 : fnsOk K fns = true) (h4 : tabOk K fns gl exts 0 fns nss T = true) :
    TabIs X T (cxOf K fns gl nss exts) (fun k => (fdOf K fns k).1) (fun k => (fdOf K fns k).2.qualname) (fun k => (fdOf K fns k).2.code) := by
  have fdAt : ∀ k x, fns[k]? = some x → ∃ a fd, fnAt K x = some (a, fd) ∧ fdOf K fns k = (a, fd) := fun k x e => by
    have := List.all_eq_true.mp h3 x (List.mem_of_getElem? e)
    obtain ⟨⟨a, fd⟩, q⟩ := Option.isSome_iff_exists.mp this
    exact ⟨a, fd, q, by unfold fdOf; rw [e]; simp only; rw [q]; rfl⟩
  refine ⟨there, lim, nb, fun k => ⟨mg, mb, g, b, fun f x e => ?_, fun x d e => ?_, fun x v e => ?_⟩, fun k f e => ?_⟩
  · obtain ⟨a, fd, e1, e2⟩ := fdAt f x e
    obtain ⟨e3, o, e4, e5⟩ := fnAt_ok KX g e1
    rw [e2]
    exact ⟨e3, o, fd, e4, e5⟩
  · obtain ⟨o, q, k⟩ := onSome_inv (List.all_eq_true.mp h1 _ (PySem.W.mem_lookup e))
    obtain ⟨v, rfl, k⟩ := onSome_inv k
    exact ⟨v, mg_of KX g q, rdIn_ok KX k⟩
  · have hm := PySem.W.mem_lookup e
    obtain ⟨o, q, k⟩ := onSome_inv (List.all_eq_true.mp h2 _ hm)
    rw [onNone_inv k] at q
    obtain ⟨q1, q2⟩ := bts_boot _ hm
    exact ⟨mg_none_of KX g q, (bb x q2).trans q1⟩
  · obtain ⟨x, ns, e1, e2, ok⟩ := tabOk_at h4 k f e
    rw [Nat.zero_add] at ok
    obtain ⟨a, fd, e3, e4⟩ := fdAt k x e1
    obtain ⟨_, o, e5, e6⟩ := fnAt_ok KX g e3
    obtain ⟨p, e7, ok⟩ := onSome_inv ok
    rw [e3] at e7
    cases e7
    obtain ⟨ok, o14⟩ := both ok
    obtain ⟨ok, o13⟩ := both ok
    obtain ⟨ok, o12⟩ := both ok
    obtain ⟨ok, o11⟩ := both ok
    obtain ⟨ok, o10⟩ := both ok
    obtain ⟨ok, o9⟩ := both ok
    obtain ⟨ok, o8⟩ := both ok
    obtain ⟨ok, o7⟩ := both ok
    obtain ⟨ok, o6⟩ := both ok
    obtain ⟨ok, o5⟩ := both ok
    obtain ⟨ok, o4⟩ := both ok
    obtain ⟨ok, o3⟩ := both ok
    obtain ⟨o1, o2⟩ := both ok
    have ec : cxOf K fns gl nss exts k = ⟨fns, gl, ns, fd.scope, exts k fd.scope ns⟩ := by unfold cxOf; rw [e2, e4]; rfl
    rw [ec, e4]
    obtain ⟨body, q14, o14⟩ := onStmts_inv o14
    refine ⟨⟨o, fd, body, _, e5, e6, beq_iff_eq.mp o1, List.isEmpty_iff.mp o2, beq_iff_eq.mp o3, isNoneV_inv o4, rfl, rfl, plainP_inv (both o6).1, beq_iff_eq.mp (both o6).2, rfl, q14, o14⟩, ?_, of_decide_eq_true o7, of_decide_eq_true o8, beq_iff_eq.mp o9, notT o10, notT o11, fun x hx z => ?_, fun x hx => beq_iff_eq.mp (List.all_eq_true.mp o13 x hx)⟩
    · obtain ⟨ca, qc, k1⟩ := vRef_inv o5
      obtain ⟨o', q, k2⟩ := onSome_inv k1
      obtain ⟨k3, k4⟩ := both k2
      obtain ⟨tn, q2, _⟩ := vType_inv k3
      obtain ⟨vs, q3, k5⟩ := dFields_inv k4
      obtain ⟨u, r, q4, k6⟩ := onCons_inv k5
      obtain ⟨u2, r2, rfl, k7⟩ := onCons_inv k6
      obtain ⟨n, t, rfl, k8⟩ := vStr_inv k7
      refine ⟨ca, _, vs, t, qc, KX _ _ q, (by rw [q2]; intro z; cases z), q3, ?_⟩
      rw [← Array.getElem?_toList, q4, ← beq_iff_eq.mp k8]; rfl
    · have := notT (List.all_eq_true.mp o12 x hx)
      rw [z] at this
      exact absurd this (by decide)
end
end Mine

namespace Mine
open PySem PySem.Calls PySem.Spec PyProof.Rows PySem.W

noncomputable def GT (H : Heap) (cps : List (Addr × Addr)) (h : Heap) : Prop :=
  (∀ b o vs, H.get? b = some o → o.cls = .none → o.data = .fields vs → ∃ more, h.get? b = some { o with data := .fields (vs ++ more) } ∧ (more = #[] ∨ isCodeTable H b)) ∧
  ∀ p ∈ cps, isCodeTable H p.2 ∧ ∃ ps, h.IsCode p.1 p.2 ps ∧ h.TableAt p.1 p.2 ps
theorem code_mv {h h' : Heap} {c P : Addr} {ps ps' : Array Value} {op : Obj} (ic : h.IsCode c P ps) (k : ∀ o, h.get? c = some o → h'.get? c = some o) (kp : h'.get? P = some op) (kd : op.data = .fields ps') (tr : TriplesOk ps'.toList) : h'.IsCode c P ps' := by
  obtain ⟨o, vs, x1, x2, x3, x4, x5, x6, x7, _, at_, r⟩ := ic
  have rest := r.2.2.2
  exact ⟨o, vs, x1, x2, x3, x4, x5, x6, x7, op, k _ at_, r.1, r.2.1, r.2.2.1, rest.1, rest.2.1, rest.2.2.1, kp, kd, tr, rest.2.2.2.2.2.2⟩
theorem code_tr {h : Heap} {c P : Addr} {ps : Array Value} (ic : h.IsCode c P ps) : TriplesOk ps.toList ∧ c ≠ P := by
  obtain ⟨_, _, _, _, _, _, _, _, _, _, r⟩ := ic
  exact r.2.2.2.2.2.2.2.2.2
theorem table_mv {h h' : Heap} {c P : Addr} {ps ps' : Array Value} (ta : h.TableAt c P ps) (k : ∀ o, h.get? c = some o → h'.get? c = some o) (kp : h'.get? P = some { cls := .none, data := .fields ps' }) : h'.TableAt c P ps' := by
  obtain ⟨⟨o, vs, c1, r⟩, _⟩ := ta
  exact ⟨⟨o, vs, k o c1, r⟩, kp⟩
theorem GT.mono {H : Heap} {cps : List (Addr × Addr)} {h h' : Heap} (k : ∀ b o vs, h.get? b = some o → o.data = .fields vs → (o.cls = .none ∨ o.cls = .type "code") → h'.get? b = some o) (x : GT H cps h) : GT H cps h' := by
  refine ⟨fun b o vs e c d => ?_, fun p hp => ?_⟩
  · obtain ⟨more, e1, e2⟩ := x.1 b o vs e c d
    exact ⟨more, k _ _ _ e1 rfl (.inl c), e2⟩
  · obtain ⟨t, ps, ic, ta⟩ := x.2 p hp
    have kc : ∀ o, h.get? p.1 = some o → h'.get? p.1 = some o := fun o e => by
      obtain ⟨o', vs', c1, c2, c3, _⟩ := ta.1
      rw [Option.some.inj (e.symm.trans c1)]
      exact k _ _ _ c1 c3 (.inr c2)
    have kt := k _ _ _ ta.2 rfl (.inl rfl)
    exact ⟨t, ps, code_mv ic kc kt rfl (code_tr ic).1, table_mv ta kc kt⟩
noncomputable def mkX (prog : Program) (w : World) (H : Heap) (O : OsState) (cps : List (Addr × Addr)) : Cfg := ⟨prog, w, H, O, GT H cps, fun _ _ k x => x.mono k⟩

theorem notKeep {o : Obj} (h : ¬ KeepMe o) : o.cls = .none ∧ ∃ vs, o.data = .fields vs := by
  unfold KeepMe at h
  constructor
  · exact Classical.byContradiction fun q => h (.inl q)
  · exact Classical.byContradiction fun q => h (.inr fun vs e => q ⟨vs, e⟩)
theorem GT.there {H : Heap} {cps : List (Addr × Addr)} : ∀ h, GT H cps h → ∀ b o, H.get? b = some o → ¬ KeepMe o → ∃ o', h.get? b = some o' := fun h x b o e k => by
  obtain ⟨c, vs, d⟩ := notKeep k
  obtain ⟨more, e1, _⟩ := x.1 b o vs e c d
  exact ⟨_, e1⟩
theorem GT.start {H : Heap} {cps : List (Addr × Addr)} (x : ∀ p ∈ cps, Based H H p.1 p.2 #[]) : GT H cps H :=
  ⟨fun b o vs e _ d => ⟨#[], by rw [e]; cases o; cases d; (first | rfl | simp), .inl rfl⟩, fun p hp => ⟨(x p hp).tab.isCodeTable, #[], (x p hp).code, (x p hp).tab⟩⟩
theorem Wh.oldK {prog : Program} {w : World} {H : Heap} {O : OsState} {cps : List (Addr × Addr)} {h : Heap} (x : Wh (mkX prog w H O cps) h) : OldK H h := by
  have key : ∀ b o, H.get? b = some o → asItWas H h b o ∧ ∃ o', h.get? b = some o' := fun b o e => by
    by_cases k : KeepMe o
    · have := x.old b o e k
      exact ⟨.inl this, o, this⟩
    · obtain ⟨c, vs, d⟩ := notKeep k
      obtain ⟨more, e1, e2⟩ := x.tab.1 b o vs e c d
      refine ⟨?_, _, e1⟩
      rcases e2 with rfl | e2
      · refine .inl ?_
        rw [e1]; cases o; cases d; (first | rfl | simp)
      · exact .inr (.inl ⟨e2, c, vs, more, d, e1⟩)
  exact ⟨fun b o e => (key b o e).1, fun b o e => (key b o e).2⟩

noncomputable def onLoc (k : Nat → Bool) (p : PE) : Bool := pick p.ctorIdx 0 fun q => PE.loc.elim (motive_1 := fun _ => Bool) p q k
theorem onLoc_inv {k : Nat → Bool} {p : PE} (h : onLoc k p = true) : ∃ i, p = .loc i ∧ k i = true :=
  PE.loc.elim (motive_1 := fun p => onLoc k p = true → ∃ i, p = .loc i ∧ k i = true) p (pick_inv h) (fun i h => ⟨i, rfl, h⟩) h
noncomputable def isL0 : PE → Bool := onLoc fun i => i == 0
theorem isL0_inv {p : PE} (h : isL0 p = true) : p = .loc 0 := by
  obtain ⟨i, rfl, k⟩ := onLoc_inv h
  rw [beq_iff_eq.mp k]
noncomputable def onIsNone (k : PE → Bool) (p : PE) : Bool := pick p.ctorIdx 12 fun q => PE.isNone.elim (motive_1 := fun _ => Bool) p q k
theorem onIsNone_inv {k : PE → Bool} {p : PE} (h : onIsNone k p = true) : ∃ a, p = .isNone a ∧ k a = true :=
  PE.isNone.elim (motive_1 := fun p => onIsNone k p = true → ∃ a, p = .isNone a ∧ k a = true) p (pick_inv h) (fun a h => ⟨a, rfl, h⟩) h
noncomputable def onTypeIs (k : PE → Ty → Bool) (p : PE) : Bool := pick p.ctorIdx 14 fun q => PE.typeIs.elim (motive_1 := fun _ => Bool) p q k
theorem onTypeIs_inv {k : PE → Ty → Bool} {p : PE} (h : onTypeIs k p = true) : ∃ a t, p = .typeIs a t ∧ k a t = true :=
  PE.typeIs.elim (motive_1 := fun p => onTypeIs k p = true → ∃ a t, p = .typeIs a t ∧ k a t = true) p (pick_inv h) (fun a t h => ⟨a, t, rfl, h⟩) h
noncomputable def onOr (k : PE → PE → Bool) (p : PE) : Bool := pick p.ctorIdx 6 fun q => PE.or.elim (motive_1 := fun _ => Bool) p q k
theorem onOr_inv {k : PE → PE → Bool} {p : PE} (h : onOr k p = true) : ∃ a b, p = .or a b ∧ k a b = true :=
  PE.or.elim (motive_1 := fun p => onOr k p = true → ∃ a b, p = .or a b ∧ k a b = true) p (pick_inv h) (fun a b h => ⟨a, b, rfl, h⟩) h
noncomputable def isQn : Nat → PE → Bool
  | 0, _ => false
  | n + 1, p => onIsNone isL0 p || onTypeIs (fun a _ => isL0 a) p || onOr (fun a b => isQn n a && isQn n b) p
noncomputable def isQ (p : PE) : Bool := isQn 9 p
inductive Qe : PE → Prop where
  | none : Qe (.isNone (.loc 0))
  | ty (t : Ty) : Qe (.typeIs (.loc 0) t)
  | or {a b : PE} : Qe a → Qe b → Qe (.or a b)
theorem isQn_e : ∀ {n : Nat} {p : PE}, isQn n p = true → Qe p
  | 0, _, h => by cases h
  | n + 1, p, h => by
    rcases either h with h | h
    · rcases either h with h | h
      · obtain ⟨a, rfl, k⟩ := onIsNone_inv h; rw [isL0_inv k]; exact .none
      · obtain ⟨a, t, rfl, k⟩ := onTypeIs_inv h; rw [isL0_inv k]; exact .ty t
    · obtain ⟨a, b, rfl, k⟩ := onOr_inv h; exact .or (isQn_e (both k).1) (isQn_e (both k).2)
theorem isQ_e {p : PE} (h : isQ p = true) : Qe p := isQn_e h
noncomputable def qb : PE → PyData → Bool
  | .isNone _, d => (match d with | .none => true | _ => false)
  | .typeIs _ t, d => typeIs d t
  | .or a b, d => qb a d || qb b d
  | _, _ => false
theorem qb_ev {C : Calls} {d : PyData} {p : PE} (h : isQ p = true) : ev C p [some d] = .ok (.bool (qb p d)) := by
  have q := isQ_e h
  clear h
  induction q with
  | none => cases d <;> rfl
  | ty t => rfl
  | @or a b _ _ ia ib =>
    ((first | rewrite [evE_loc] | rewrite [evE_cst] | rewrite [evE_bin] | rewrite [evE_neg] | rewrite [evE_not] | rewrite [evE_and] | rewrite [evE_or] | rewrite [evE_ite] | rewrite [evE_tup] | rewrite [evE_lst] | rewrite [evE_cmp] | rewrite [evE_chain] | rewrite [evE_isNone] | rewrite [evE_isNotNone] | rewrite [evE_typeIs] | rewrite [evE_idx] | rewrite [evE_sliceTo] | rewrite [evE_sliceFrom] | rewrite [evE_slice] | rewrite [evE_call] | rewrite [evE_b1] | rewrite [evE_b2] | rewrite [evE_join] | rewrite [evE_rstrip] | rewrite [evE_replace] | rewrite [evE_dget] | rewrite [evE_all] | rewrite [evE_anyZip]); rw [ia, show qb (.or a b) d = (qb a d || qb b d) from rfl])
    cases qb a d
    · exact ib
    · rfl

noncomputable def gcx (x : Str) (sc : Scope) : Cx := ⟨[], [], [x], sc, fun _ _ => false⟩

section
variable {prog : Program} {w : World} {A : Around} {E : Value → Shared → Prop} {s : Shared} {mg mb m : Str → Option Value} {genv : Env} {sc : Scope} {x : Str} {v : Value} {d : PyData}
theorem quiet_sound (hs : genv.scope = sc) (hg : genv.globals = mainGlobals) (hbi : genv.builtins = builtinsNs) (hk : sc.kind = .function) (g : s.heap.Ns mainGlobals mg) (b : s.heap.Ns builtinsNs mb) (bt : ∀ x v, bts.lookup x = some v → mg x = none ∧ mb x = some v)
    (n : s.heap.Ns genv.locals m) (hx : m x = some v) (r : Rd s.heap v d) : ∀ {p : PE} {e : Expr} {Q : Value → Shared → Prop}, isQ p = true → okE (gcx x sc) p e = true → Q (.bool (qb p d)) s → wpAny (model prog w) A (eval e genv) Q E s := by
  have ld : ∀ {e : Expr} {Q : Value → Shared → Prop}, okE (gcx x sc) (.loc 0) e = true → Q v s → wpAny (model prog w) A (eval e genv) Q E s := fun {e Q} ok h => by
    obtain ⟨y, p, rfl, k0⟩ := onName_inv ok
    obtain rfl : x = y := Option.some.inj (beq_iff_eq.mp (both k0).1)
    obtain ⟨k1, k2⟩ := kindIs_eq (both k0).2
    exact wpAny_Name (wpAny_loadName_local (by rw [hs]; exact hk) (by show genv.scope.names.lookup x = _; rw [hs]; exact k1) n hx h) k2
  have lb : ∀ {y : Str} {u : Value} {pp : Pos} {Q : Value → Shared → Prop}, isBt (gcx x sc) y u = true → Q u s → wpAny (model prog w) A (eval (.Name y pp) genv) Q E s := fun {y u pp Q} h1 h => by
    unfold isBt at h1
    simp only [Bool.and_eq_true, beq_iff_eq] at h1
    obtain ⟨e1, e2⟩ := bt y u h1.2
    obtain ⟨k1, k2⟩ := kindIs_eq h1.1
    exact Name_function_global (by rw [hs]; exact hk) (by show genv.scope.names.lookup y = _; rw [hs]; exact k1) (loadGlobal_builtin (by rw [hg]; exact g) e1 (by rw [hbi]; exact b) e2 h) k2
  intro p e Q hq0
  have hq := isQ_e hq0
  clear hq0
  induction hq generalizing e Q with
  | none =>
    intro ok h
    obtain ⟨l', os, rs, p, rfl, k0⟩ := onCmp_inv ok
    obtain ⟨k1, ok2⟩ := both k0
    obtain ⟨k2, k3⟩ := both k1
    obtain ⟨o, rfl, k4⟩ := on1_inv k2
    obtain rfl := isIs_inv k4
    obtain ⟨r', rfl, k5⟩ := on1_inv k3
    obtain ⟨n, q, rfl⟩ := isNoneC_inv k5
    refine wpAny_Compare1 (ld ok2 (wpAny_Constant_none (is_none ?_))) rfl
    rw [ofNone r]; revert h; cases d <;> exact fun h => h
  | ty t =>
    intro ok h
    obtain ⟨l', os, rs, p, rfl, k0⟩ := onCmp_inv ok
    obtain ⟨k1, k2⟩ := both k0
    obtain ⟨k3, k4⟩ := both k1
    obtain ⟨o, rfl, k5⟩ := on1_inv k3
    obtain rfl := isIs_inv k5
    obtain ⟨r', rfl, k6⟩ := on1_inv k4
    obtain ⟨g, gp, rfl, ok4⟩ := onName_inv k6
    obtain ⟨f, fp, x', cp, rfl, ok1, ok2, ok3⟩ := isTyC_inv k2
    refine wpAny_Compare1 (Call_ (lb ok1 (PyProof.Rows.callWith_type1 (args_cons (ld ok3 (args_nil (typeCall_sound (X := mkX prog w s.heap s.os []) r (lb ok4 ?_)))) (star_plain ok2)) (star_plain ok2)))) rfl
    rw [typeIs_is]
    exact typeIs_sound (X := mkX prog w s.heap s.os []) r h
  | @or a b _ _ ia ib =>
    intro ok h
    obtain ⟨o, xs, p, rfl, k0⟩ := onBoolOp_inv ok
    obtain ⟨k1, k2⟩ := both k0
    obtain rfl := isOr_inv k1
    obtain ⟨y, z, q, rfl, k3⟩ := on2r_inv k2
    obtain ⟨ok1, ok2⟩ := both k3
    refine BoolOp_or (ia ok1 (wpAny_truthy_bool ?_))
    replace h : Q (.bool (qb a d || qb b d)) s := h
    revert h
    cases qb a d with
    | true => exact fun h => h
    | false =>
      intro h
      cases q with
      | nil => exact BoolOp_one (ib ok2 h)
      | cons q1 q2 => exact ib ok2 h
end
end Mine

namespace Mine
open PySem PySem.Calls PySem.Spec PyProof.Rows PySem.W

theorem GT.grow {H h h' : Heap} {cps : List (Addr × Addr)} {P : Addr} {ps more : Array Value} (x : GT H cps h) (hP : isCodeTable H P) (tp : h.get? P = some { cls := .none, data := .fields ps })
    (k : ∀ b o, h.get? b = some o → b ≠ P → h'.get? b = some o) (tp' : h'.get? P = some { cls := .none, data := .fields (ps ++ more) }) (tr : TriplesOk (ps ++ more).toList) : GT H cps h' := by
  refine ⟨fun b o vs e c d => ?_, fun p hp => ?_⟩
  · obtain ⟨m, e1, e2⟩ := x.1 b o vs e c d
    by_cases hb : b = P
    · subst hb
      have e3 := Option.some.inj (e1.symm.trans tp)
      have e4 : vs ++ m = ps := by
        have := congrArg Obj.data e3
        injection this
      refine ⟨m ++ more, ?_, .inr hP⟩
      rw [tp', ← e4, Array.append_assoc]
      exact congrArg some (congrArg (fun q : Obj => { q with data := .fields (vs ++ (m ++ more)) }) e3).symm
    · exact ⟨m, k _ _ e1 hb, e2⟩
  · obtain ⟨t, qs, ic, ta⟩ := x.2 p hp
    have np : p.1 ≠ P := fun q => by
      obtain ⟨o', vs', c1, c2, _⟩ := ta.1
      rw [q, tp] at c1; cases c1; cases c2
    have kc : ∀ o, h.get? p.1 = some o → h'.get? p.1 = some o := fun o e => k _ _ e np
    by_cases hq : p.2 = P
    · exact ⟨t, ps ++ more, code_mv ic kc (hq ▸ tp') rfl tr, table_mv ta kc (hq ▸ tp')⟩
    · exact ⟨t, qs, code_mv ic kc (k _ _ ta.2 hq) rfl (code_tr ic).1, table_mv ta kc (k _ _ ta.2 hq)⟩
theorem tab_ne {h : Heap} {P b : Addr} {ps : Array Value} {o : Obj} (tp : h.get? P = some { cls := .none, data := .fields ps }) (e : h.get? b = some o) (k : KeepMe o) : b ≠ P := fun z => by
  rw [z, tp] at e
  cases e
  exact k.elim (fun k => k rfl) (fun k => k _ rfl)
theorem ns_mv {h h' : Heap} {a : Addr} {m : Str → Option Value} (n : h.Ns a m) (k : ∀ b o, h.get? b = some o → KeepMe o → h'.get? b = some o) : h'.Ns a m := by
  obtain ⟨o, es, ep, e1, e2, r⟩ := n
  exact ⟨o, es, ep, k _ _ e1 (.inr fun vs q => by rw [e2] at q; cases q), e2, r⟩
theorem gen_end {prog : Program} {w : World} {H : Heap} {O : OsState} {cps : List (Addr × Addr)} {h₁ h₃ h₅ h' : Heap} {ca P : Addr} {wr : List Addr} {ps more : Array Value} (w₁ : Wh (mkX prog w H O cps) h₁) (hct : isCodeTable H P)
    (tp : h₁.get? P = some { cls := .none, data := .fields ps }) (ic₃ : h₃.IsCode ca P (ps ++ more)) (tp₃ : h₃.get? P = some { cls := .none, data := .fields (ps ++ more) }) (k3 : ∀ b o, h₁.get? b = some o → b ≠ P → h₃.get? b = some o)
    (hsz : h₁.objs.size ≤ h₃.objs.size) (hwr : ∀ b ∈ wr, h₁.objs.size ≤ b) (hk₅ : ∀ b o, h₃.get? b = some o → h₅.get? b = some o) (hm : ∀ b o, b ∉ h₃.objs.size :: wr → h₅.get? b = some o → h'.get? b = some o) :
    Xt [] h₁ h' ∧ Wh (mkX prog w H O cps) h' := by
  have lt : ∀ b, b < h₁.objs.size → b ∉ h₃.objs.size :: wr := fun b hb z =>
    (List.mem_cons.mp z).elim (fun z => Nat.lt_irrefl _ (Nat.lt_of_lt_of_le hb (Nat.le_trans hsz (Nat.le_of_eq (show h₃.objs.size = b from z.symm))))) (fun z => absurd (hwr b z) (Nat.not_le_of_lt hb))
  have kk : ∀ b o, h₁.get? b = some o → b ≠ P → h'.get? b = some o := fun b o e np => hm b o (lt b (Heap.lt_size e)) (hk₅ b o (k3 b o e np))
  have kp := hm P _ (lt P (Heap.lt_size tp)) (hk₅ _ _ tp₃)
  exact ⟨fun b o _ e k => ⟨o.slots, kk b o e (tab_ne tp e k), fun _ => rfl⟩, fun b o e k => kk b o (w₁.old b o e k) (tab_ne tp (w₁.old b o e k) k), GT.grow w₁.tab hct tp kk kp (code_tr ic₃).1⟩

section
variable {M : Model} {A : Around} {E : Value → Shared → Prop} {s : Shared}
theorem gcode {env : Env} {c P : Addr} {ps : Array Value} {pos : Pos} {qualname : Str} {scope : Scope} {Q : Value → Shared → Prop} (hc : env.code = .ref c) (hok : s.heap.IsCode c P ps) (htab : s.heap.TableAt c P ps)
    (hQ : ∀ code h' tk more, Heap.ExtBut P s.heap h' → s.heap.objs.size ≤ h'.objs.size → h'.IsCode c P (ps ++ more) → h'.get? P = some { cls := .none, data := .fields (ps ++ more) } → Q code { s with heap := h', toks := tk }) :
    wpAny M A (genexprCode env pos qualname scope) Q E s := by
  match hnf : codeAmong pos ps.toList with
  | none =>
    exact wpAny_genexprCodeX hc hok htab hnf fun c' h' tk x1 x2 x3 x4 _ x6 _ => hQ _ h' tk _ x1 (Nat.le_trans x2 (Nat.le_of_lt x3)) x4 x6.2
  | some cv =>
    obtain ⟨⟨co, cf, gc, _, dc, pl⟩, tp⟩ := id htab
    unfold genexprCode codeAt
    rw [hc]
    refine wpAny_bind (m := fieldsOf (.ref c)) (wpAny_fieldsOf gc dc ?_)
    rw [show cf.getD 11 .none = .ref P by rw [Array.getD_eq_getD_getElem?, pl]; rfl]
    refine wpAny_bind (m := fieldsOf (.ref P)) (wpAny_fieldsOf tp rfl ?_)
    rw [hnf]
    exact wpAny_pure (hQ cv s.heap s.toks #[] (Heap.ExtBut.refl _ _) (Nat.le_refl _) (by simpa using hok) (by simpa using htab.2))
end

theorem closure_none {scope : Scope} {env : Env} (h : scope.names.all (fun p => !(p.2 == .free)) = true) : closureFor scope env = pure [] := by
  unfold closureFor
  have go : ∀ (l : List (Str × NameKind)) (cs : List (Str × Addr)), l.all (fun p => !(p.2 == .free)) = true → (forIn l cs fun (x : Str × NameKind) r => match x with
      | (name, kind) => if (kind == .free) = true then do
          let a ← cellOf env name
          pure (ForInStep.yield ((name, a) :: r))
        else pure (ForInStep.yield r) : Sem (List (Str × Addr))) = pure cs := by
    intro l
    induction l with
    | nil => intro cs _; rfl
    | cons p l ih =>
      intro cs h
      simp only [List.all_cons, Bool.and_eq_true, Bool.not_eq_true'] at h
      obtain ⟨n, k⟩ := p
      rw [List.forIn_cons]
      simp only [h.1, Bool.false_eq_true, if_false]
      exact ih cs h.2
  have := go scope.names [] h
  first
    | (rw [this]; rfl)
    | (simp only [bind_pure]; exact this)
    | exact this

noncomputable def onAll (k : PE → PE → Bool) (p : PE) : Bool := pick p.ctorIdx 26 fun q => PE.all.elim (motive_1 := fun _ => Bool) p q k
theorem onAll_inv {k : PE → PE → Bool} {p : PE} (h : onAll k p = true) : ∃ a b, p = .all a b ∧ k a b = true :=
  PE.all.elim (motive_1 := fun p => onAll k p = true → ∃ a b, p = .all a b ∧ k a b = true) p (pick_inv h) (fun a b h => ⟨a, b, rfl, h⟩) h
noncomputable def onGen (k : Expr → List Comprehension → Scope → Bool) (e : Expr) : Bool := pick e.ctorIdx 11 fun q => Expr.GeneratorExp.elim (motive_1 := fun _ => Bool) e q fun x cs sc _ => k x cs sc
theorem onGen_inv {k : Expr → List Comprehension → Scope → Bool} {e : Expr} (h : onGen k e = true) : ∃ x cs sc p, e = .GeneratorExp x cs sc p ∧ k x cs sc = true :=
  Expr.GeneratorExp.elim (motive_1 := fun e => onGen k e = true → ∃ x cs sc p, e = .GeneratorExp x cs sc p ∧ k x cs sc = true) e (pick_inv h) (fun x cs sc p h => ⟨x, cs, sc, p, rfl, h⟩) h
noncomputable def genOk (ns : List Str) (sc : Scope) (elt : PE) (i : Nat) (ex : Expr) (gs : Scope) (x y : Str) : Bool :=
  ns[i]? == some y && kindIs ⟨[], [], ns, sc, fun _ _ => false⟩ y .local && isQ elt && okE (gcx x gs) elt ex && gs.kind == .function && !gs.isCoroutine &&
    gs.names.all (fun p => !(p.2 == .cell)) && gs.names.all (fun p => !(p.2 == .free)) && gs.names.lookup (".0" : Str) == some .local && gs.names.lookup x == some .local
noncomputable def genC (ns : List Str) (sc : Scope) (elt : PE) (i : Nat) (ex : Expr) (gs : Scope) (c : Comprehension) : Bool := on0 c.ifs && c.is_async == 0 && onName (fun x => onName (fun y => genOk ns sc elt i ex gs x y) c.iter) c.target
noncomputable def genE (ns : List Str) (sc : Scope) (elt : PE) (i : Nat) (e : Expr) : Bool := onGen (fun ex cs gs => on1 (genC ns sc elt i ex gs) cs) e
noncomputable def genB (ns : List Str) (sc : Scope) (f : Expr) : Bool := onName (fun f => isBt ⟨[], [], ns, sc, fun _ _ => false⟩ f (.builtin "all")) f
noncomputable def genA (ns : List Str) (sc : Scope) (elt : PE) (e : Expr) (i : Nat) : Bool := onCall (fun f xs ks _ => genB ns sc f && on0 ks && on1 (genE ns sc elt i) xs) e
noncomputable def allExt (sc : Scope) (ns : List Str) (p : PE) (e : Expr) : Bool := onAll (fun elt it => onLoc (genA ns sc elt e) it) p
theorem genC_inv {ns : List Str} {sc : Scope} {elt : PE} {i : Nat} {ex : Expr} {gs : Scope} {c : Comprehension} (h : genC ns sc elt i ex gs c = true) : ∃ x xp y yp, c = ⟨.Name x xp, .Name y yp, [], 0⟩ ∧ genOk ns sc elt i ex gs x y = true := by
  obtain ⟨k10, k11⟩ := both h
  obtain ⟨k12, k13⟩ := both k10
  obtain ⟨ct, ci, cf, ca'⟩ := c
  obtain rfl := on0_inv k12
  obtain rfl := beq_iff_eq.mp k13
  obtain ⟨x, xp, rfl, k14⟩ := onName_inv k11
  obtain ⟨y, yp, rfl, k15⟩ := onName_inv k14
  exact ⟨_, _, _, _, rfl, k15⟩
theorem genE_inv {ns : List Str} {sc : Scope} {elt : PE} {i : Nat} {e : Expr} (h : genE ns sc elt i e = true) : ∃ ex x xp y yp gs gp, e = .GeneratorExp ex [⟨.Name x xp, .Name y yp, [], 0⟩] gs gp ∧ genOk ns sc elt i ex gs x y = true := by
  obtain ⟨ex, cs, gs, gp, rfl, k8⟩ := onGen_inv h
  obtain ⟨cm, rfl, k9⟩ := on1_inv k8
  obtain ⟨x, xp, y, yp, rfl, k⟩ := genC_inv k9
  exact ⟨_, _, _, _, _, _, _, rfl, k⟩
theorem genA_inv {ns : List Str} {sc : Scope} {elt : PE} {i : Nat} {e : Expr} (h : genA ns sc elt e i = true) : ∃ f fp g pp, e = .Call (.Name f fp) [g] [] pp ∧ isBt ⟨[], [], ns, sc, fun _ _ => false⟩ f (.builtin "all") = true ∧ genE ns sc elt i g = true := by
  obtain ⟨f, xs, ks, pp, rfl, k2⟩ := onCall_inv h
  obtain ⟨k3, k4⟩ := both k2
  obtain ⟨k5, k6⟩ := both k3
  obtain ⟨f, fp, rfl, o1⟩ := onName_inv k5
  obtain rfl := on0_inv k6
  obtain ⟨g, rfl, k7⟩ := on1_inv k4
  exact ⟨_, _, _, _, rfl, o1, k7⟩

theorem allR_q {C : Calls} {elt : PE} (hq : isQ elt = true) : ∀ ds : List PyData, allR (ds.map fun d => ev C elt [some d]) = .ok (.bool (ds.all (qb elt)))
  | [] => rfl
  | d :: ds => by
    have ih := allR_q (C := C) hq ds
    rw [List.map_cons, qb_ev (d := d) hq, List.all_cons]
    cases qb elt d with
    | true => dsimp only [allRE_true, Bool.true_and]; exact ih
    | false => rfl
end Mine

namespace Mine
open PySem PySem.Calls PySem.Spec PyProof.Rows PySem.W

section
variable {prog : Program} {w : World} {H : Heap} {O : OsState} {cps : List (Addr × Addr)} {A : Around} {E : Value → Shared → Prop} {s₁ : Shared}

noncomputable def ItOk (prog : Program) (w : World) (s₁ : Shared) (P : Addr) (ds : List PyData) (I : Addr) (s₂ : Shared) : Prop :=
  ∃ (fp wr : List Addr) (Pi : Nat → Value → Prop) (St₀ : Nat → Heap → Prop), (∀ b o, s₁.heap.get? b = some o → s₂.heap.get? b = some o) ∧ s₂.gens = s₁.gens ∧ s₂.os = s₁.os ∧ s₁.heap.objs.size ≤ s₂.heap.objs.size ∧
    (∀ A' : Around, A'.handled = none → Walks prog w A' I fp wr ds.length Pi St₀) ∧ St₀ 0 s₂.heap ∧ (∀ b ∈ fp, b < s₂.heap.objs.size) ∧ P ∉ fp ∧ (∀ b ∈ wr, s₁.heap.objs.size ≤ b) ∧
    (∀ i v, Pi i v → ∃ d, ds[i]? = some d ∧ ∀ h' : Heap, (∀ b o, b < s₁.heap.objs.size → b ≠ P → s₂.heap.get? b = some o → h'.get? b = some o) → Rd h' v d)

theorem gen_core {env : Env} {elt : PE} {ex : Expr} {x y : Str} {px py : Pos} {gs : Scope} {gp : Pos} {ca P : Addr} {ds : List PyData} {Q : Value → Shared → Prop} {mg mb : Str → Option Value} {bm : Addr} {ob : Obj} {xv : Value}
    (hcp : (ca, P) ∈ cps) (BM : BMod H mainGlobals mg bm ob) (hb : H.Ns builtinsNs mb) (bt : ∀ x v, bts.lookup x = some v → mg x = none ∧ mb x = some v) (lim : H.NoLimit)
    (hcode : env.code = .ref ca) (hgl : env.globals = mainGlobals) (hh : A.handled = none) (hroom : A.depth < recursionLimit)
    (hq : isQ elt = true) (hex : okE (gcx x gs) elt ex = true) (hkind : gs.kind = .function) (hco : gs.isCoroutine = false) (hcell : ∀ y ∈ gs.names, y.2 ≠ .cell) (hclos : closureFor gs env = pure [])
    (h0 : gs.names.lookup (".0" : Str) = some NameKind.local) (hx : gs.names.lookup x = some .local) (hs : ∀ z, genFold (.Name y py) env z = pure z)
    (w₁ : W (mkX prog w H O cps) s₁) (hit : ∀ (Q' : Value → Shared → Prop), (∀ I s₂, ItOk prog w s₁ P ds I s₂ → Q' (.ref I) s₂) → wpAny (model prog w) A (pyIter xv) Q' E s₁)
    (hQ : ∀ s', Xt [] s₁.heap s'.heap → Wh (mkX prog w H O cps) s'.heap → AllBare s'.gens → s'.os = O → Q (.bool (ds.all (qb elt))) s') {s : Shared}
    (hev : ∀ Q', Q' xv s₁ → wpAny (model prog w) A (eval (.Name y py) env) Q' E s) :
    wpAny (model prog w) A (eval (.GeneratorExp ex [⟨.Name x px, .Name y py, [], 0⟩] gs gp) env) (fun v s' => wpAny (model prog w) A (call (.builtin "all") [v]) Q E s') E s := by
  refine wpAny_GeneratorExp_walksQD hh hco hclos hcell h0 hx hkind hroom (hev _ (hit _ fun I s₂ it => ?_)) hs
  obtain ⟨fp, wr, Pi, St₀, hk, hg2, ho2, hsz, hW, hst, hfp, hPf, hwr, hPi⟩ := it
  have lim₁ : s₁.heap.NoLimit := let ⟨mc, n1, n2⟩ := lim; ⟨mc, w₁.h.ns n1, n2⟩
  have lim₂ : s₂.heap.NoLimit := lim₁.keeps hk
  obtain ⟨hct, ps, ic, ta⟩ := w₁.h.tab.2 _ hcp
  have hPs : P < s₁.heap.objs.size := Heap.lt_size ta.2
  refine ⟨lim₂, gcode hcode (ic.keeps hk) (ta.keeps hk) fun code h₃ tk₃ more x₃ sz₃ ic₃ tp₃ => ?_⟩
  have k3 : ∀ b o, s₁.heap.get? b = some o → b ≠ P → h₃.get? b = some o := fun b o e np => x₃ b o np (hk b o e)
  have nP : ∀ {b : Addr} {o : Obj}, s₁.heap.get? b = some o → KeepMe o → b ≠ P := fun {b o} e k => tab_ne ta.2 e k
  have ns3 : ∀ {a : Addr} {m : Str → Option Value}, H.Ns a m → h₃.Ns a m := fun {a m} n => ns_mv (w₁.h.ns n) fun b o e k => k3 b o e (nP e k)
  have ob3 : h₃.get? bm = some ob := by
    have e1 := w₁.h.old _ _ BM.obj (.inr fun vs q => by rw [BM.data] at q; cases q)
    exact k3 _ _ e1 (nP e1 (.inr fun vs q => by rw [BM.data] at q; cases q))
  refine wpAny_builtinsFor (s := { s₂ with heap := h₃, toks := tk₃ }) (by rw [hgl]; exact ns3 BM.ns) BM.name BM.ne ob3 BM.cls BM.dict BM.data ?_
  have lim₃ : h₃.NoLimit := let ⟨mc, n1, n2⟩ := lim; ⟨mc, ns3 n1, n2⟩
  have hstat : cStatics < s₁.heap.objs.size := let ⟨_, hn, _⟩ := lim₁; hn.lt
  refine ⟨I, fp, wr, ds.length, Pi, St₀, fun _ => true, fun i y => ∃ d, ds[i]? = some d ∧ y = .bool (qb elt d), rfl, hW, (hW A hh).frame _ _ _ hst (fun b hb o e => x₃ b o (fun z => hPf ((show b = P from z) ▸ hb)) e), fun b hb => Nat.lt_of_lt_of_le (hfp b hb) sz₃, lim₃,
    fun hm => absurd (hwr _ hm) (Nat.not_le_of_lt hstat), fun href hhref => ?_, fun a h₅ tk gst hgb hag hsz₅ hk₅ W hat => ?_⟩
  · have inT : ∀ (t : Shared), (∀ b ∈ List.range h₃.objs.size, b ∉ wr → ∀ o, href.get? b = some o → t.heap.get? b = some o) → ∀ b o, h₃.get? b = some o → b < s₁.heap.objs.size → t.heap.get? b = some o := fun t kt b o e hb =>
      kt b (List.mem_range.mpr (Heap.lt_size e)) (fun hm => absurd (hwr b hm) (Nat.not_le_of_lt hb)) o (hhref b o e)
    refine ⟨fun A' E' i v t m₂ _ _ _ _ _ _ _ => wpAny_pure ⟨rfl, ⟨t.heap, t.toks, rfl, fun _ _ e => e⟩⟩, fun A' E' i v t m₂ hA _ _ hp _ hn hm kt => ?_⟩
    obtain ⟨d, e1, rd⟩ := hPi i v hp
    have nsT : ∀ {a : Addr} {m : Str → Option Value}, H.Ns a m → t.heap.Ns a m := fun {a m} n => ns_mv (w₁.h.ns n) fun b o e k => inT t kt b o (k3 b o e (nP e k)) (Heap.lt_size e)
    refine quiet_sound (genv := genEnv gs [] h₃.objs.size code builtinsNs env) (sc := gs) (d := d) rfl hgl rfl hkind (nsT BM.ns) (nsT hb) bt hn hm (rd _ fun b o hb np e => inT t kt b o (x₃ b o np e) hb) hq hex ?_
    exact ⟨⟨d, e1, rfl⟩, ⟨t.heap, t.toks, rfl, fun _ _ e => e⟩⟩
  · have W' := W.in4_1
    refine call_all_walkS (W'.self 0 _ _ _ hat ⟨a, _, _, _, _, _, _, fun j => match ds[j]? with | some d => qb elt d | none => true, rfl, W', hat, fun j v s Q E hv hQ => ?_, fun s' hm => ?_⟩)
    · obtain ⟨i, hi, d, hd, rfl⟩ := hv
      have : j = i := by
        unfold passing at hi
        rw [List.drop_zero, List.filter_eq_self.mpr (fun _ _ => rfl)] at hi
        rw [List.getElem?_range] at hi
        · cases hi; rfl
        · have := (List.getElem?_eq_some_iff.mp hi).1
          simpa using this
      subst this
      simp only [hd] at hQ
      exact wpAny_truthy_bool hQ
    · have hlen : (passing (fun _ => true) ds.length 0).length = ds.length := by
        unfold passing
        rw [List.drop_zero, List.filter_eq_self.mpr (fun _ _ => rfl), List.length_range]
      rw [hlen, show ((List.range ds.length).all fun j => match ds[j]? with | some d => qb elt d | none => true) = ds.all (qb elt) from by
        rw [← all_rangeD ds (qb elt)]
        congr 1
        funext j
        cases ds[j]? <;> rfl]
      obtain ⟨g1, g2⟩ := gen_end w₁.h hct ta.2 ic₃ tp₃ k3 (Nat.le_trans hsz sz₃) hwr hk₅ hm.heap
      refine hQ s' g1 g2 ?_ ?_
      · refine AllBare.movedS (s := { s₂ with gens := s₂.gens.push gst, toks := tk, heap := h₅ }) ?_ hm
        show AllBare (s₂.gens.push gst)
        rw [hg2]
        exact w₁.gens.push hgb
      · exact hm.os.trans (ho2.trans w₁.os)

theorem seq_iter {P : Addr} {v : Value} {d : PyData} {ds : List PyData} {Q' : Value → Shared → Prop} {oP : Obj} (hP : s₁.heap.get? P = some oP) (hc : oP.cls = .none) (r : Rd s₁.heap v d) (hd : seqOf d = some ds)
    (k : ∀ I s₂, ItOk prog w s₁ P ds I s₂ → Q' (.ref I) s₂) : wpAny (model prog w) A (pyIter v) Q' E s₁ := by
  have hPs : P ≠ s₁.heap.objs.size := Nat.ne_of_lt (Heap.lt_size hP)
  cases r with
  | tuple ho hcl hdt z ra =>
    rename_i a o vs n xs
    simp only [seqOf_1, Option.some.injEq] at hd
    subst hd
    have ht : s₁.heap.IsTuple a vs := ⟨_, ho, hcl, _, hdt⟩
    have ht' : ∀ ob, (s₁.heap.push ob).IsTuple a vs := fun ob => let ⟨o', e', r'⟩ := ht; ⟨o', Heap.get?_push_of_some _ e', r'⟩
    have hl := ra.length
    rw [Array.length_toList] at hl
    have hne : a ≠ s₁.heap.objs.size := Nat.ne_of_lt (Heap.lt_size ho)
    have haP : P ≠ a := fun q => by rw [← q, hP] at ho; cases ho; rw [hc] at hcl; cases hcl
    refine wpAny_pyIter_tuple ht (k _ _ ⟨[s₁.heap.objs.size, a], [s₁.heap.objs.size], _, _, fun b o e => Heap.get?_push_of_some _ e, rfl, rfl, by rw [Heap.size_push]; exact Nat.le_succ _, fun A' hA => hl ▸ Walks.tuple hA _ a hne vs, ⟨⟨_, Heap.get?_push_size _ rfl, rfl, rfl⟩, ht' _⟩, ?_, ?_, ?_, ?_⟩)
    · intro b hb
      rw [Heap.size_push]
      rcases List.mem_cons.mp hb with rfl | hb
      · exact Nat.lt_succ_self _
      · rw [List.mem_singleton.mp hb]; exact Nat.lt_succ_of_lt (Heap.lt_size ho)
    · intro hb
      rcases List.mem_cons.mp hb with hb | hb
      · exact hPs hb
      · exact haP (List.mem_singleton.mp hb)
    · intro b hb
      rw [List.mem_singleton.mp hb]; exact Nat.le_refl _
    · intro i u hu
      have hi : i < vs.size := (Array.getElem?_eq_some_iff.mp hu).1
      obtain ⟨e, he⟩ : ∃ e, xs[i]? = some e := ⟨xs[i]'(by first | assumption | exact Nat.le_add_left _ _ | decide | lia), List.getElem?_eq_getElem (by first | assumption | exact Nat.le_add_left _ _ | decide | lia)⟩
      obtain ⟨u', hu', ru⟩ := ra.get i e he
      have : u' = u := by
        have h1 : vs.toList[i]? = some u := by rw [Array.getElem?_toList]; exact hu
        rw [h1] at hu'; exact (Option.some.inj hu').symm
      subst this
      refine ⟨e, he, fun h' kk => ru.move fun b o vs n eb hdb hcb => ⟨o.slots, kk b o (Heap.lt_size eb) (fun q => ?_) (Heap.get?_push_of_some _ eb)⟩⟩
      rw [q, hP] at eb; cases eb; exact hcb hc
  | _ => cases hd

theorem genOk_inv {ns : List Str} {sc : Scope} {elt : PE} {i : Nat} {ex : Expr} {gs : Scope} {x y : Str} (h : genOk ns sc elt i ex gs x y = true) :
    ns[i]? = some y ∧ kindIs ⟨[], [], ns, sc, fun _ _ => false⟩ y .local = true ∧ isQ elt = true ∧ okE (gcx x gs) elt ex = true ∧ gs.kind = .function ∧ gs.isCoroutine = false ∧
      (∀ y ∈ gs.names, (y.2 == .cell) = false) ∧ gs.names.all (fun p => !(p.2 == .free)) = true ∧ gs.names.lookup (".0" : Str) = some .local ∧ gs.names.lookup x = some .local := by
  obtain ⟨k16, p12⟩ := both h
  obtain ⟨k17, p11⟩ := both k16
  obtain ⟨k18, p10⟩ := both k17
  obtain ⟨k19, p9⟩ := both k18
  obtain ⟨k20, p8⟩ := both k19
  obtain ⟨k21, p7⟩ := both k20
  obtain ⟨k22, o6⟩ := both k21
  obtain ⟨k23, o5⟩ := both k22
  obtain ⟨p2, o3⟩ := both k23
  exact ⟨beq_iff_eq.mp p2, o3, o5, o6, beq_iff_eq.mp p7, notT p8, fun y hy => notT (List.all_eq_true.mp p9 y hy), p10, beq_iff_eq.mp p11, beq_iff_eq.mp p12⟩
theorem allExt_el {P : PE → Expr → Prop} {sc : Scope} {ns : List Str} {p : PE} {e : Expr} (ok : allExt sc ns p e = true)
    (k : ∀ elt i f fp ex x xp y yp gs gp pp, isBt ⟨[], [], ns, sc, fun _ _ => false⟩ f (.builtin "all") = true → genOk ns sc elt i ex gs x y = true → P (.all elt (.loc i)) (.Call (.Name f fp) [.GeneratorExp ex [⟨.Name x xp, .Name y yp, [], 0⟩] gs gp] [] pp)) : P p e := by
  obtain ⟨elt, it, rfl, k0⟩ := onAll_inv ok
  obtain ⟨i, rfl, k1⟩ := onLoc_inv k0
  obtain ⟨f, fp, g, pp, rfl, o1, k2⟩ := genA_inv k1
  obtain ⟨ex, x, xp, y, yp, gs, gp, rfl, k3⟩ := genE_inv k2
  exact k _ _ _ _ _ _ _ _ _ _ _ _ o1 k3

theorem allExt_ok {c : Cx} {C : Calls} {Fa : Nat → Addr} {q : Str} {L a ca P : Addr} {l : List Env} {mg mb : Str → Option Value} {bm : Addr} {ob : Obj}
    (hext : c.ext = allExt c.sc c.ns) (hcp : (ca, P) ∈ cps) (BM : BMod H mainGlobals mg bm ob) (hb : H.Ns builtinsNs mb) (bt : ∀ x v, bts.lookup x = some v → mg x = none ∧ mb x = some v) (lim : H.NoLimit) (nb : NoneBooked H)
    (G : Gx (mkX prog w H O cps) c Fa) (kind : c.sc.kind = .function) (new : H.get? L = none) (hfr : A.frames = some (envOf q c.sc L a (.ref ca) :: l)) (hh : A.handled = none) (hroom : A.depth < recursionLimit) (hu : A.units + 80 < cLine) :
    ExtOk (mkX prog w H O cps) c C A (envOf q c.sc L a (.ref ca)) l L := by
  intro p e ρ s Q E ok
  rw [hext] at ok
  refine allExt_el (P := fun p e => Here (mkX prog w H O cps) c (envOf q c.sc L a (.ref ca)) l L ρ s → Sp (mkX prog w H O cps) RelV [] (envOf q c.sc L a (.ref ca) :: l) s Q E (ev C p ρ) → wpAny (model prog w) A (eval e (envOf q c.sc L a (.ref ca))) Q E s) ok fun elt i f fp ex x xp y yp gs gp pp o1 k15 h sp => ?_
  obtain ⟨o2, o3, o5, o6, o7, o8, o9, p10, o11, o12⟩ := genOk_inv k15
  have T : Sit (mkX prog w H O cps) ⟨c.fns, c.gl, c.ns, c.sc, fun _ _ => false⟩ Fa (fun _ _ => .stuck) A (envOf q c.sc L a (.ref ca)) l L :=
    ⟨⟨G.names⟩, ⟨_, _, _, rfl⟩, kind, new, lim, nb, GT.there, hfr, hh, hu, fun _ _ _ _ _ _ _ _ _ sp => sp.elim, fun _ _ _ _ _ _ z _ _ => by cases z⟩
  have h' : Here (mkX prog w H O cps) ⟨c.fns, c.gl, c.ns, c.sc, fun _ _ => false⟩ (envOf q c.sc L a (.ref ca)) l L ρ s := ⟨h.w, h.ff, h.fm⟩
  refine wpAny_tk (Call_ (load_bt T h.w o1 (callWith_builtin1 (id := "all") (args_cons ?_ rfl) rfl)))
  simp only [evE_loc, evE_cst, evE_bin, evE_neg, evE_not, evE_and, evE_or, evE_ite, evE_tup, evE_lst, evE_cmp, evE_chain, evE_isNone, evE_isNotNone, evE_typeIs, evE_idx, evE_sliceTo, evE_sliceFrom, evE_slice, evE_call, evE_b1, evE_b2, evE_join, evE_rstrip, evE_replace, evE_dget, evE_all, evE_anyZip] at sp
  cases hg : getL ρ i with
  | ok d =>
    rw [hg, R.bind_ok] at sp
    cases hs : seqOf d with
    | none => rw [hs] at sp; exact sp.elim
    | some ds =>
      rw [hs, R.ofOpt_some, R.bind_ok, allR_q o5] at sp
      have hev : ∃ v, Rd s.heap v d ∧ ∀ Q' : Value → Shared → Prop, Q' v s → wpAny (model prog w) A (eval (.Name y yp) (envOf q c.sc L a (.ref ca))) Q' (fun e s' => s.toks ≤ s'.toks → E e s') s := by
        obtain ⟨m, n, k⟩ := h.fm
        unfold getL at hg
        split at hg
        · rename_i d' e'
          cases hg
          obtain ⟨z, v, e1, e2, r⟩ := k i d e'
          rw [o2] at e1; cases e1
          obtain ⟨k1, k2⟩ := kindIs_eq o3
          exact ⟨v, r, fun Q' hq => wpAny_Name (wpAny_loadName_local (env := envOf q c.sc L a (.ref ca)) kind k1 n e2 hq) k2⟩
        · cases hg
      obtain ⟨v, r, hev⟩ := hev
      obtain ⟨_, ps, _, ta⟩ := h.w.h.tab.2 _ hcp
      refine wpAny_mono (gen_core (s₁ := s) hcp BM hb bt lim rfl rfl hh hroom o5 o6 o7 o8 (fun y hy z => by have := o9 y hy; rw [z] at this; exact absurd this (by decide)) (closure_none p10) o11 o12 (fun z => rfl) h.w (fun Q' k => seq_iter ta.2 rfl r hs k) (Q := fun v s' => s.toks ≤ s'.toks → Q v s') (fun s' xt wh g os ht => ?_) hev) (fun v s' hv => args_nil hv) fun _ _ z => z
      exact sp _ _ ⟨xt, ⟨wh, g, os, Nat.lt_of_lt_of_le h.w.toks ht⟩⟩ (.bool _)
  | exc b => unfold getL at hg; split at hg <;> cases hg
  | stuck => rw [hg] at sp; exact sp.elim
end
end Mine

namespace Mine
open PySem PySem.Calls PySem.Spec PyProof.Rows PySem.W

noncomputable def eltZ : PE := .or (.cmp .lt (.loc 0) (.idx (.loc 1) (.cst (.int 1)))) (.cmp .gt (.loc 0) (.idx (.loc 1) (.cst (.int 2))))
noncomputable def gcx2 (xa xb : Str) (sc : Scope) : Cx := ⟨[], [], [xa, xb], sc, fun _ _ => false⟩
noncomputable def onAnyZip (k : PE → PE → PE → Bool) (p : PE) : Bool := pick p.ctorIdx 27 fun q => PE.anyZip.elim (motive_1 := fun _ => Bool) p q k
theorem onAnyZip_inv {k : PE → PE → PE → Bool} {p : PE} (h : onAnyZip k p = true) : ∃ a b d, p = .anyZip a b d ∧ k a b d = true :=
  PE.anyZip.elim (motive_1 := fun p => onAnyZip k p = true → ∃ a b d, p = .anyZip a b d ∧ k a b d = true) p (pick_inv h) (fun a b d h => ⟨a, b, d, rfl, h⟩) h

noncomputable def anyOk (ex : Expr) (gs : Scope) (xa xb : Str) : Bool :=
  okE (gcx2 xa xb gs) eltZ ex && gs.kind == .function && !gs.isCoroutine && gs.names.all (fun p => !(p.2 == .cell)) && gs.names.all (fun p => !(p.2 == .free)) && gs.names.lookup (".0" : Str) == some .local && gs.names.lookup xa == some .local && gs.names.lookup xb == some .local && !(xa == xb)
noncomputable def anyT1 (ex : Expr) (gs : Scope) (t2 : Expr) (xa : Str) : Bool := onName (anyOk ex gs xa) t2
noncomputable def anyT2 (ex : Expr) (gs : Scope) (t1 t2 : Expr) : Bool := onName (anyT1 ex gs t2) t1
noncomputable def anyT (ex : Expr) (gs : Scope) (ts : List Expr) (_ : Nat) (_ : Pos) : Bool := on2 (anyT2 ex gs) ts
noncomputable def zipA (c0 : Cx) (a b : PE) (u v : Expr) : Bool := plainArg u && plainArg v && okE c0 a u && okE c0 b v
noncomputable def anyC (c0 : Cx) (a b : PE) (ex : Expr) (gs : Scope) (cm : Comprehension) : Bool := on0 cm.ifs && cm.is_async == 0 && onTup (anyT ex gs) cm.target && isRangeC c0 (.type "zip") (zipA c0 a b) cm.iter
noncomputable def anyG (c0 : Cx) (a b : PE) (ex : Expr) (cs : List Comprehension) (gs : Scope) : Bool := on1 (anyC c0 a b ex gs) cs
noncomputable def anyN (c0 : Cx) (f : Str) : Bool := isBt c0 f (.builtin "any")
noncomputable def anyK (c0 : Cx) (a b : PE) (f : Expr) (xs : List Expr) (ks : List Keyword) (_ : Pos) : Bool := onName (anyN c0) f && on0 ks && on1 (onGen (anyG c0 a b)) xs
noncomputable def anyE (c0 : Cx) (e : Expr) (_ a b : PE) : Bool := onCall (anyK c0 a b) e
noncomputable def anyX (c0 : Cx) (p : PE) (e : Expr) : Bool := onAnyZip (anyE c0 e) p
noncomputable def anyExt (fns : List Str) (gl : List (Str × PyData)) (sc : Scope) (ns : List Str) (p : PE) (e : Expr) : Bool := anyX ⟨fns, gl, ns, sc, fun _ _ => false⟩ p e

theorem anyOk_inv {ex : Expr} {gs : Scope} {xa xb : Str} (h : anyOk ex gs xa xb = true) :
    okE (gcx2 xa xb gs) eltZ ex = true ∧ gs.kind = .function ∧ gs.isCoroutine = false ∧ (∀ y ∈ gs.names, (y.2 == .cell) = false) ∧ gs.names.all (fun p => !(p.2 == .free)) = true ∧ gs.names.lookup (".0" : Str) = some .local ∧ gs.names.lookup xa = some .local ∧ gs.names.lookup xb = some .local ∧ xa ≠ xb := by
  obtain ⟨k1, p9⟩ := both h
  obtain ⟨k2, p8⟩ := both k1
  obtain ⟨k3, p7⟩ := both k2
  obtain ⟨k4, p6⟩ := both k3
  obtain ⟨k5, p5⟩ := both k4
  obtain ⟨k6, p4⟩ := both k5
  obtain ⟨k7, p3⟩ := both k6
  obtain ⟨p1, p2⟩ := both k7
  exact ⟨p1, beq_iff_eq.mp p2, notT p3, fun y hy => notT (List.all_eq_true.mp p4 y hy), p5, beq_iff_eq.mp p6, beq_iff_eq.mp p7, beq_iff_eq.mp p8, fun q => by rw [q, beq_self_eq_true] at p9; cases p9⟩
structure AnyP where
  elt : PE
  a : PE
  b : PE
  f : Str
  fp : Pos
  ex : Expr
  xa : Str
  pa : Pos
  xb : Str
  pb : Pos
  kt : Nat
  tp : Pos
  g : Str
  gq : Pos
  u : Expr
  v : Expr
  cp : Pos
  gs : Scope
  gp : Pos
  pp : Pos
noncomputable abbrev AnyP.it (q : AnyP) : Expr := .Call (.Name q.g q.gq) [q.u, q.v] [] q.cp
noncomputable abbrev AnyP.gen (q : AnyP) : Expr := .GeneratorExp q.ex [⟨.Tuple [.Name q.xa q.pa, .Name q.xb q.pb] q.kt q.tp, q.it, [], 0⟩] q.gs q.gp
structure AnyP.Ok (q : AnyP) (c0 : Cx) : Prop where
  o1 : isBt c0 q.f (.builtin "any") = true
  ok : anyOk q.ex q.gs q.xa q.xb = true
  o2 : isBt c0 q.g (.type "zip") = true
  o3 : plainArg q.u = true
  o4 : plainArg q.v = true
  o5 : okE c0 q.a q.u = true
  o6 : okE c0 q.b q.v = true
theorem anyT_inv {ex : Expr} {gs : Scope} {t : Expr} (h : onTup (anyT ex gs) t = true) : ∃ xa pa xb pb kt tp, t = .Tuple [.Name xa pa, .Name xb pb] kt tp ∧ anyOk ex gs xa xb = true := by
  obtain ⟨ts, kt, tp, rfl, k15⟩ := onTup_inv h
  obtain ⟨t1, t2, rfl, k16⟩ := on2_inv k15
  obtain ⟨xa, pa, rfl, k17⟩ := onName_inv k16
  obtain ⟨xb, pb, rfl, k18⟩ := onName_inv k17
  exact ⟨xa, pa, xb, pb, kt, tp, rfl, k18⟩
theorem anyX_inv {c0 : Cx} {p : PE} {e : Expr} (ok : anyX c0 p e = true) : ∃ q : AnyP, p = .anyZip q.elt q.a q.b ∧ e = .Call (.Name q.f q.fp) [q.gen] [] q.pp ∧ q.Ok c0 := by
  obtain ⟨elt, a, b, rfl, k0⟩ := onAnyZip_inv ok
  obtain ⟨f, xs, ks, pp, rfl, k1⟩ := onCall_inv k0
  clear ok k0
  obtain ⟨k2, k3⟩ := both k1
  obtain ⟨k4, k5⟩ := both k2
  obtain ⟨f, fp, rfl, o1⟩ := onName_inv k4
  obtain rfl := on0_inv k5
  obtain ⟨g0, rfl, k6⟩ := on1_inv k3
  clear k1 k2 k3 k4 k5
  obtain ⟨ex, cs, gs, gp, rfl, k7⟩ := onGen_inv k6
  obtain ⟨⟨ct, ci, cf, ca⟩, rfl, k8⟩ := on1_inv k7
  clear k6 k7
  obtain ⟨k9, k10⟩ := both k8
  obtain ⟨k11, k12⟩ := both k9
  obtain ⟨k13, k14⟩ := both k11
  obtain rfl : cf = [] := on0_inv k13
  obtain rfl : ca = 0 := beq_iff_eq.mp k14
  clear k8 k9 k11 k13 k14
  obtain ⟨xa, pa, xb, pb, kt, tp, e1, k⟩ := anyT_inv k12
  obtain rfl : ct = _ := e1
  obtain ⟨g, gq, u, v, cp, e2, o2, k3⟩ := isRangeC_inv k10
  obtain rfl : ci = _ := e2
  obtain ⟨k4, o6⟩ := both k3
  obtain ⟨k5, o5⟩ := both k4
  exact ⟨⟨elt, a, b, f, fp, ex, xa, pa, xb, pb, kt, tp, g, gq, u, v, cp, gs, gp, pp⟩, rfl, rfl, ⟨o1, k, o2, (both k5).1, (both k5).2, o5, o6⟩⟩

section
variable {prog : Program} {w : World} {A : Around} {E : Value → Shared → Prop} {s : Shared} {m : Str → Option Value} {genv : Env} {gs : Scope} {xa xb : Str} {va vb : Value} {d1 d2 : PyData}
theorem outD_inv {d1 d2 : PyData} {b : Bool} (h : outD (d1, d2) = some b) : ∃ x l lo hi, d1 = .int x ∧ d2 = .tuple l ∧ l[1]? = some (.int lo) ∧ l[2]? = some (.int hi) ∧ (decide (x < lo) || decide (hi < x)) = b := by
  obtain ⟨x, e1, h⟩ := Option.bind_eq_some_iff.mp h
  obtain ⟨l, e2, h⟩ := Option.bind_eq_some_iff.mp h
  obtain ⟨lo, e3, h⟩ := Option.bind_eq_some_iff.mp h
  obtain ⟨hi, e4, h⟩ := Option.bind_eq_some_iff.mp h
  obtain ⟨d3, e3, q3⟩ := Option.bind_eq_some_iff.mp e3
  obtain ⟨d4, e4, q4⟩ := Option.bind_eq_some_iff.mp e4
  rw [intOf_inv q3] at e3
  rw [intOf_inv q4] at e4
  exact ⟨x, l, lo, hi, intOf_inv e1, (by cases d2 <;> cases e2; rfl), e3, e4, Option.some.inj h⟩
theorem RdAll.intAt {h : Heap} {vs : Array Value} {l : List PyData} {j : Nat} {i : Int} (ra : RdAll h vs.toList l) (e : l[j]? = some (.int i)) : ∃ t, vs[j]? = some (.int i t) := by
  obtain ⟨v, hv, r⟩ := ra.get j _ e
  obtain ⟨t, rfl⟩ := r.intI
  exact ⟨t, by rw [← Array.getElem?_toList]; exact hv⟩
theorem seqIdx {j n : Nat} (h : j < n) : seqIndex? (j : Int) n = some j := by unfold seqIndex?; simp; lia
theorem quietZ (hs : genv.scope = gs) (hk : gs.kind = .function) (n : s.heap.Ns genv.locals m) (hxa : m xa = some va) (hxb : m xb = some vb) (r1 : Rd s.heap va d1) (r2 : Rd s.heap vb d2) {b : Bool} (ho : outD (d1, d2) = some b) {ex : Expr} {Q : Value → Shared → Prop} (ok : okE (gcx2 xa xb gs) eltZ ex = true)
    (h : ∀ tk, Q (.bool b) { s with toks := tk }) : wpAny (model prog w) A (eval ex genv) Q E s := by
  obtain ⟨x, l, lo, hi, rfl, rfl, q1, q2, hb⟩ := outD_inv ho
  obtain ⟨t0, rfl⟩ := r1.intI
  obtain ⟨a, o, vs, nn, rfl, hob, hc, hd, ra⟩ := r2.tupI
  obtain ⟨t1, g1⟩ := ra.intAt q1
  obtain ⟨t2, g2⟩ := ra.intAt q2
  clear ho r1 r2 ra q1 q2
  have ld : ∀ {i : Nat} {y : Str} {v : Value} {p : Pos} {t : Tok} {Q : Value → Shared → Prop}, kindIs (gcx2 xa xb gs) y .local = true → m y = some v → Q v { s with toks := t } → wpAny (model prog w) A (eval (.Name y p) genv) Q E { s with toks := t } := fun {i y v p t Q} hky hm hq => by
    obtain ⟨k1, k2⟩ := kindIs_eq hky
    exact wpAny_Name (wpAny_loadName_local (by rw [hs]; exact hk) (by show genv.scope.names.lookup y = _; rw [hs]; exact k1) n hm hq) k2
  have sub : ∀ {e : Expr} {j : Nat} {z : Int} {tz t : Tok} {Q : Value → Shared → Prop}, okE (gcx2 xa xb gs) (.idx (.loc 1) (.cst (.int (j : Int)))) e = true → j < 3 → vs[j]? = some (.int z tz) → (∀ t', Q (.int z tz) { s with toks := t' }) → wpAny (model prog w) A (eval e genv) Q E { s with toks := t } := fun {e j z tz t Q} ok hj hv hq => by
    refine inv_idx ok fun v u p ok1 ok2 ok3 => ?_
    refine inv_loc ok2 fun y yp e1 e2 => ?_
    obtain rfl : xb = y := Option.some.inj e1
    refine Subscript_ (ld (i := 1) e2 hxb ?_)
    rcases either ok3 with q | q
    · obtain ⟨kc, nk, kp, rfl, k0⟩ := onConst_inv q
      obtain ⟨xi, rfl, q1⟩ := onCI_inv k0
      rw [← beq_iff_eq.mp q1]
      refine wpAny_Constant_int ?_
      have ht : IsTup (Shared.heap { s with toks := t + 1 }) a vs := ⟨_, hob, hc, _, hd⟩
      refine tail_any ht.typeIs PyProof.Rows.slot_tuple_getitem.lookup (getItem_tuple ht (by lia) (by lia) (j := j) (seqIdx (Array.getElem?_eq_some_iff.mp hv).1) hv (hq _)) (subscripted_plain ok1 _ _)
    · obtain ⟨y', p', rfl, k0⟩ := onName_inv q
      obtain ⟨_, k1⟩ := both k0
      obtain ⟨_, e', _⟩ := onSome_inv k1
      cases e'
  refine inv_or ok fun x1 y1 r p ok1 ok2 => ?_
  have second : ∀ {e : Expr} {t : Tok} {Q : Value → Shared → Prop}, okE (gcx2 xa xb gs) (.cmp .gt (.loc 0) (.idx (.loc 1) (.cst (.int 2)))) e = true → (∀ t', Q (.bool (decide (hi < x))) { s with toks := t' }) → wpAny (model prog w) A (eval e genv) Q E { s with toks := t } := fun {e t Q} ok hq => by
    refine inv_cmp ok fun l r p k2 k3 k4 => ?_
    refine inv_loc k3 fun y yp e1 e2 => ?_
    obtain rfl : xa = y := Option.some.inj e1
    exact wpAny_Compare1 (ld (i := 0) e2 hxa (sub (j := 2) k4 (by decide) g2 fun t' => PyProof.Rows.gt_int (hq t'))) k2
  refine BoolOp_or ?_
  refine inv_cmp ok1 (P := fun x1 => wpAny (model prog w) A (eval x1 genv) _ E s) fun l r' p' k2 k3 k4 => ?_
  refine inv_loc k3 fun y yp e1 e2 => ?_
  obtain rfl : xa = y := Option.some.inj e1
  refine wpAny_Compare1 (ld (i := 0) (t := s.toks) e2 hxa (sub (j := 1) k4 (by decide) g1 fun t' => PyProof.Rows.lt_int (wpAny_truthy_bool ?_))) k2
  subst hb
  revert h
  cases decide (x < lo) with
  | true => exact fun h => h t'
  | false =>
    intro h
    cases r with
    | nil => exact BoolOp_one (second ok2 h)
    | cons q1 q2 => exact second ok2 h
end
end Mine

namespace Mine
open PySem PySem.Calls PySem.Spec PyProof.Rows PySem.W

noncomputable def outB (zs : List (PyData × PyData)) (j : Nat) : Bool := match zs[j]? with
  | some p => (outD p).getD false
  | none => false
theorem anyZ_mem : ∀ {zs : List (PyData × PyData)} {bb : Bool}, anyZ zs = some bb → ∀ p ∈ zs, ∃ b, outD p = some b
  | [], _, _, p, hp => by cases hp
  | z :: zs, bb, h, p, hp => by
    rw [anyZE] at h
    cases e : outD z with
    | none => rw [e] at h; cases h
    | some b =>
      rw [e, Option.bind_some] at h
      cases e2 : anyZ zs with
      | none => rw [e2] at h; cases h
      | some c =>
        rcases List.mem_cons.mp hp with rfl | hp
        · exact ⟨b, e⟩
        · exact anyZ_mem e2 p hp
theorem anyZ_range : ∀ {zs : List (PyData × PyData)} {bb : Bool}, anyZ zs = some bb → (List.range zs.length).any (outB zs) = bb
  | [], bb, h => by cases h; rfl
  | z :: zs, bb, h => by
    rw [anyZE] at h
    cases e : outD z with
    | none => rw [e] at h; cases h
    | some b =>
      rw [e, Option.bind_some] at h
      cases e2 : anyZ zs with
      | none => rw [e2] at h; cases h
      | some c =>
        rw [e2] at h
        have ih := anyZ_range e2
        rw [List.length_cons, List.range_succ_eq_map, List.any_cons, List.any_map]
        have e3 : outB (z :: zs) 0 = b := by show (outD z).getD false = b; rw [e]; rfl
        have e4 : (outB (z :: zs) ∘ Nat.succ) = outB zs := rfl
        rw [e3, e4, ih]
        exact Option.some.inj h

section
variable {prog : Program} {w : World} {H : Heap} {O : OsState} {cps : List (Addr × Addr)} {A : Around} {E : Value → Shared → Prop} {s₁ : Shared}

noncomputable def Zw (prog : Program) (w : World) (H : Heap) (O : OsState) (cps : List (Addr × Addr)) (P : Addr) (Q : Value → Shared → Prop) (it : Value) (s₂ : Shared) : Prop :=
  ∃ (s₁ : Shared) (h₂ : Heap) (I : Addr) (fp wr : List Addr) (zs : List (PyData × PyData)) (bb : Bool) (Pt : Nat → Array Value → Prop) (St₀ : Nat → Heap → Prop) (Mid : Nat → Addr → Heap → Prop),
    it = .ref I ∧ s₂ = { s₁ with heap := h₂ } ∧ anyZ zs = some bb ∧ W (mkX prog w H O cps) s₁ ∧ (∀ b o, s₁.heap.get? b = some o → h₂.get? b = some o) ∧ s₁.heap.objs.size ≤ h₂.objs.size ∧
    (∀ A' : Around, A'.handled = none → WalksU prog w A' I fp wr zs.length Pt St₀ Mid) ∧ St₀ 0 h₂ ∧ (∀ b ∈ fp, b < h₂.objs.size) ∧ P ∉ fp ∧ (∀ b ∈ wr, s₁.heap.objs.size ≤ b) ∧
    (∀ i vals, Pt i vals → ∃ va vb d1 d2, vals = #[va, vb] ∧ zs[i]? = some (d1, d2) ∧ ∀ h' : Heap, (∀ b o, b < s₁.heap.objs.size → b ≠ P → h₂.get? b = some o → h'.get? b = some o) → Rd h' va d1 ∧ Rd h' vb d2) ∧
    ∀ s', Xt [] s₁.heap s'.heap → Wh (mkX prog w H O cps) s'.heap → AllBare s'.gens → s'.os = O → Q (.bool bb) s'
theorem zw_mono {P : Addr} {Q : Value → Shared → Prop} {K : Value → Shared → Prop} {m : Sem Value} {s : Shared} (h : wpAny (model prog w) A m (Zw prog w H O cps P Q) E s)
    (k : ∀ (s₁ : Shared) (h₂ : Heap) (I : Addr) (fp wr : List Addr) (zs : List (PyData × PyData)) (bb : Bool) (Pt : Nat → Array Value → Prop) (St₀ : Nat → Heap → Prop) (Mid : Nat → Addr → Heap → Prop), anyZ zs = some bb → W (mkX prog w H O cps) s₁ → (∀ b o, s₁.heap.get? b = some o → h₂.get? b = some o) → s₁.heap.objs.size ≤ h₂.objs.size →
      (∀ A' : Around, A'.handled = none → WalksU prog w A' I fp wr zs.length Pt St₀ Mid) → St₀ 0 h₂ → (∀ b ∈ fp, b < h₂.objs.size) → P ∉ fp → (∀ b ∈ wr, s₁.heap.objs.size ≤ b) →
      (∀ i vals, Pt i vals → ∃ va vb d1 d2, vals = #[va, vb] ∧ zs[i]? = some (d1, d2) ∧ ∀ h' : Heap, (∀ b o, b < s₁.heap.objs.size → b ≠ P → h₂.get? b = some o → h'.get? b = some o) → Rd h' va d1 ∧ Rd h' vb d2) →
      (∀ s', Xt [] s₁.heap s'.heap → Wh (mkX prog w H O cps) s'.heap → AllBare s'.gens → s'.os = O → Q (.bool bb) s') → K (.ref I) { s₁ with heap := h₂ }) : wpAny (model prog w) A m K E s := by
  refine wpAny_mono h (fun it s₂ z => ?_) fun _ _ e => e
  obtain ⟨s₁, h₂, I, fp, wr, zs, bb, Pt, St₀, Mid, rfl, rfl, r⟩ := z
  exact k s₁ h₂ I fp wr zs bb Pt St₀ Mid r.1 r.2.1 r.2.2.1 r.2.2.2.1 r.2.2.2.2.1 r.2.2.2.2.2.1 r.2.2.2.2.2.2.1 r.2.2.2.2.2.2.2.1 r.2.2.2.2.2.2.2.2.1 r.2.2.2.2.2.2.2.2.2.1 r.2.2.2.2.2.2.2.2.2.2
theorem any_gen {env : Env} {ex iter : Expr} {xa xb : Str} {pa pb pt : Pos} {kt : Nat} {gs : Scope} {gp : Pos} {ca P : Addr} {Q : Value → Shared → Prop} {mg : Str → Option Value} {bm : Addr} {ob : Obj} {s : Shared}
    (hcp : (ca, P) ∈ cps) (BM : BMod H mainGlobals mg bm ob) (lim : H.NoLimit) (hcode : env.code = .ref ca) (hgl : env.globals = mainGlobals) (hh : A.handled = none) (hroom : A.depth < recursionLimit)
    (D : anyOk ex gs xa xb = true) (hf : ∀ z, genFold iter env z = pure z)
    (h : wpAny (model prog w) A (eval iter env) (fun xv s₁ => wpAny (model prog w) A (pyIter xv) (Zw prog w H O cps P Q) E s₁) E s) :
    wpAny (model prog w) A (eval (.GeneratorExp ex [⟨.Tuple [.Name xa pa, .Name xb pb] kt pt, iter, [], 0⟩] gs gp) env) (fun v s' => wpAny (model prog w) A (call (.builtin "any") [v]) Q E s') E s := by
  obtain ⟨hex, hkind, p3, p4, p5, p6, p7, p8, p9⟩ := anyOk_inv D
  refine wpAny_GeneratorExp_walksQTD hh p3 (closure_none p5) (fun y hy z => by have := p4 y hy; rw [z] at this; exact absurd this (by decide)) p6 p7 p8 p9 hkind hroom (wpAny_mono h (fun xv s' h' => zw_mono h' ?_) fun _ _ e => e) hf
  intro s₁ h₂ I fp wr zs bb Pt St₀ Mid hz w₁ hk hsz hW hst hfp hPf hwr hPt hQ
  have lim₁ : s₁.heap.NoLimit := let ⟨mc, n1, n2⟩ := lim; ⟨mc, w₁.h.ns n1, n2⟩
  have lim₂ : h₂.NoLimit := lim₁.keeps hk
  obtain ⟨hct, ps, ic, ta⟩ := w₁.h.tab.2 _ hcp
  have hPs : P < s₁.heap.objs.size := Heap.lt_size ta.2
  refine ⟨lim₂, gcode hcode (ic.keeps hk) (ta.keeps hk) fun code h₃ tk₃ more x₃ sz₃ ic₃ tp₃ => ?_⟩
  replace x₃ : Heap.ExtBut P h₂ h₃ := x₃
  replace sz₃ : h₂.objs.size ≤ h₃.objs.size := sz₃
  have k3 : ∀ b o, s₁.heap.get? b = some o → b ≠ P → h₃.get? b = some o := fun b o e np => x₃ b o np (hk b o e)
  have nP : ∀ {b : Addr} {o : Obj}, s₁.heap.get? b = some o → KeepMe o → b ≠ P := fun {b o} e k => tab_ne ta.2 e k
  have ns3 : ∀ {a : Addr} {m : Str → Option Value}, H.Ns a m → h₃.Ns a m := fun {a m} n => ns_mv (w₁.h.ns n) fun b o e k => k3 b o e (nP e k)
  have ob3 : h₃.get? bm = some ob := by
    have e1 := w₁.h.old _ _ BM.obj (.inr fun vs q => by rw [BM.data] at q; cases q)
    exact k3 _ _ e1 (nP e1 (.inr fun vs q => by rw [BM.data] at q; cases q))
  refine wpAny_builtinsFor (s := { s₁ with heap := h₃, toks := tk₃ }) (by rw [hgl]; exact ns3 BM.ns) BM.name BM.ne ob3 BM.cls BM.dict BM.data ?_
  have lim₃ : h₃.NoLimit := let ⟨mc, n1, n2⟩ := lim; ⟨mc, ns3 n1, n2⟩
  have hstat : cStatics < s₁.heap.objs.size := let ⟨_, hn, _⟩ := lim₁; hn.lt
  refine ⟨I, fp, wr, zs.length, Pt, St₀, Mid, fun _ => true, fun i y => i < zs.length ∧ y = .bool (outB zs i), rfl, hW, (fun i vals hp => let ⟨va, vb, _, _, e, _⟩ := hPt i vals hp; ⟨va, vb, e⟩), (hW A hh).frame _ _ _ hst (fun b hb o e => x₃ b o (fun z => hPf ((show b = P from z) ▸ hb)) e), fun b hb => Nat.lt_of_lt_of_le (hfp b hb) sz₃, lim₃,
    fun hm => absurd (hwr _ hm) (Nat.not_le_of_lt hstat), fun href hhref => ?_, fun a h₅ tk gst hgb hag hsz₅ hk₅ W hat => ?_⟩
  · have inT : ∀ (t : Shared), (∀ b ∈ List.range h₃.objs.size, b ∉ wr → ∀ o, href.get? b = some o → t.heap.get? b = some o) → ∀ b o, h₃.get? b = some o → b < s₁.heap.objs.size → t.heap.get? b = some o := fun t kt b o e hb =>
      kt b (List.mem_range.mpr (Heap.lt_size e)) (fun hm => absurd (hwr b hm) (Nat.not_le_of_lt hb)) o (hhref b o e)
    refine ⟨fun A' E' i va vb t m₂ _ _ _ _ _ _ _ _ => wpAny_pure ⟨rfl, ⟨t.heap, t.toks, rfl, fun _ _ e => e⟩⟩, fun A' E' i va vb t m₂ hA _ _ hp _ hn hma hmb kt => ?_⟩
    obtain ⟨va', vb', d1, d2, e0, e1, rd⟩ := hPt i _ hp
    obtain ⟨rfl, rfl⟩ : va = va' ∧ vb = vb' := by
      have := congrArg Array.toList e0
      simp only [List.cons.injEq, and_true] at this
      exact this
    obtain ⟨r1, r2⟩ := rd t.heap fun b o hb np e => inT t kt b o (x₃ b o np e) hb
    obtain ⟨b, hb⟩ := anyZ_mem hz _ (List.mem_of_getElem? e1)
    refine quietZ (genv := genEnv gs [] h₃.objs.size code builtinsNs env) (gs := gs) rfl hkind hn hma hmb r1 r2 hb hex fun tk => ⟨⟨(List.getElem?_eq_some_iff.mp e1).1, ?_⟩, ⟨t.heap, tk, rfl, fun _ _ e => e⟩⟩
    unfold outB
    rw [e1]
    show Value.bool b = Value.bool ((outD (d1, d2)).getD false)
    rw [hb]; rfl
  · have W' := W.in4_1
    have hpass : ∀ n, passing (fun _ => true) n 0 = List.range n := fun n => by
      unfold passing
      rw [List.drop_zero, List.filter_eq_self.mpr (fun _ _ => rfl)]
    refine call_any_walkS (W'.self 0 _ _ _ hat ⟨a, _, _, _, _, _, _, outB zs, rfl, W', hat, fun j v s Q E hv hQ => ?_, fun s' hm => ?_⟩)
    · obtain ⟨i, hi, hlt, rfl⟩ := hv
      have : j = i := by
        rw [hpass] at hi
        rw [List.getElem?_range] at hi
        · cases hi; rfl
        · have := (List.getElem?_eq_some_iff.mp hi).1
          simpa using this
      subst this
      exact wpAny_truthy_bool hQ
    · rw [hpass, List.length_range, anyZ_range hz]
      obtain ⟨g1, g2⟩ := gen_end w₁.h hct ta.2 ic₃ tp₃ k3 (Nat.le_trans hsz sz₃) hwr hk₅ hm.heap
      refine hQ s' g1 g2 ?_ ?_
      · refine AllBare.movedS (s := { s₁ with gens := s₁.gens.push gst, toks := tk, heap := h₅ }) ?_ hm
        exact w₁.gens.push hgb
      · exact hm.os.trans w₁.os
end
end Mine

namespace Mine
open PySem PySem.Calls PySem.Spec PyProof.Rows PySem.W

theorem Sp.tk {X : Cfg} {α β : Type} {Rel : Shared → β → α → Prop} {S : List Addr} {l : List Env} {s : Shared} {Q : β → Shared → Prop} {E : Value → Shared → Prop} {r : R α} {t : Nat} (x : Sp X Rel S l s Q E r) : Sp X Rel S l s (fun v s' => t ≤ s'.toks → Q v s') (fun e s' => t ≤ s'.toks → E e s') r := by
  match r, x with
  | .ok a, x => exact fun v s' o rel _ => x v s' o rel
  | .exc false, x => exact fun e s' f _ => x e s' f
  | .exc true, x => exact fun e s' f _ => x e s' f
section
variable {prog : Program} {w : World} {H : Heap} {O : OsState} {cps : List (Addr × Addr)} {A : Around}

theorem anyV_el {x y : PyData} (h : anyV x y ≠ .stuck) : ∃ l q b, x = .tuple l ∧ y = .list q ∧ anyZ (l.zip q) = some b := by
  cases x with
  | tuple l =>
    cases y with
    | list q =>
      cases e : anyZ (l.zip q) with
      | none => exact absurd (show (R.ofOpt (anyZ (l.zip q))).bind (fun b => R.ok (PyData.bool b)) = .stuck by rw [e]; rfl) h
      | some b => exact ⟨l, q, b, rfl, rfl, e⟩
    | _ => exact absurd rfl h
  | _ => exact absurd rfl h
theorem anyV_ok {l q : List PyData} {b : Bool} (h : anyZ (l.zip q) = some b) : anyV (.tuple l) (.list q) = .ok (.bool b) := by
  show (R.ofOpt (anyZ (l.zip q))).bind (fun b => R.ok (PyData.bool b)) = _
  rw [h]; rfl
theorem Rd.lstI {h : Heap} {v : Value} {a : List PyData} (r : Rd h v (.list a)) : ∃ p o vs n, v = .ref p ∧ h.get? p = some o ∧ o.cls = .type "list" ∧ o.data = .seq vs n ∧ RdAll h vs.toList a := by
  cases r with
  | list ho hc hd _ ra => exact ⟨_, _, _, _, rfl, ho, hc, hd, ra⟩
theorem any_zip {ca P : Addr} {s : Shared} {Q E : Value → Shared → Prop} {l1 l2 : List PyData} {v₁ v₂ : Value} {bb : Bool}
    (hcp : (ca, P) ∈ cps) (hw : W (mkX prog w H O cps) s) (hz : anyZ (l1.zip l2) = some bb)
    (r₁ : Rd s.heap v₁ (.tuple l1)) (r₂ : Rd s.heap v₂ (.list l2)) (hQ : ∀ s', Xt [] s.heap s'.heap → Wh (mkX prog w H O cps) s'.heap → AllBare s'.gens → s'.os = O → Q (.bool bb) s') :
    wpAny (model prog w) A (call (.type "zip") [v₁, v₂]) (fun xv s₁ => wpAny (model prog w) A (pyIter xv) (Zw prog w H O cps P Q) E s₁) E s := by
  obtain ⟨a1, ob1, vs1, n1, rfl, ho1, hc1, hd1, ra1⟩ := r₁.tupI
  obtain ⟨a2, ob2, vs2, n2, rfl, ho2, hc2, hd2, ra2⟩ := r₂.lstI
  have R1 := srcTuple (prog := prog) (w := w) (show s.heap.IsTuple a1 vs1 from ⟨_, ho1, hc1, _, hd1⟩)
  have R2 := srcList (prog := prog) (w := w) (show s.heap.IsList a2 vs2 from ⟨_, ho2, hc2, _, hd2⟩)
  obtain ⟨_, ps, _, ta⟩ := hw.h.tab.2 _ hcp
  have hPs : P < s.heap.objs.size := Heap.lt_size ta.2
  have nP : ∀ {b : Addr} {o : Obj}, s.heap.get? b = some o → o.cls ≠ .none → b ≠ P := fun {b o} e kc z => by
    rw [z, ta.2] at e; cases e; exact kc rfl
  have nP1 : P ≠ a1 := fun z => nP ho1 (fun y => by rw [hc1] at y; cases y) z.symm
  have nP2 : P ≠ a2 := fun z => nP ho2 (fun y => by rw [hc2] at y; cases y) z.symm
  have lz : (l1.zip l2).length = min vs1.size vs2.size := by rw [List.length_zip, ← ra1.length, ← ra2.length, Array.length_toList, Array.length_toList]
  refine call_zipS R1 R2 fun h₃ hsz keep hW st₀ => wpAny_pyIter_zip st₀.1 ?_
  refine ⟨s, h₃, _, _, _, l1.zip l2, bb, _, _, _, rfl, rfl, hz, hw, keep, by rw [hsz]; exact Nat.le_add_right _ _, fun A' hA => lz ▸ hW A' hA, st₀, fun b hb => ?_, fun hm => ?_, fun b hb => ?_, fun i vals hp => ?_, hQ⟩
  · rw [hsz]
    simp only [List.cons_append, List.nil_append, List.mem_cons, List.mem_nil_iff, or_false] at hb
    have q1 := Heap.lt_size ho1
    have q2 := Heap.lt_size ho2
    clear hW st₀ keep R1 R2
    rcases hb with rfl | rfl | rfl | rfl | rfl | rfl | rfl <;> lia
  · simp only [List.cons_append, List.nil_append, List.mem_cons, List.mem_nil_iff, or_false] at hm
    clear hW st₀ keep R1 R2
    rcases hm with e | e | e | e | e | e | e
    · lia
    · lia
    · lia
    · lia
    · exact nP1 e
    · lia
    · exact nP2 e
  · simp only [List.mem_cons, List.mem_nil_iff, or_false] at hb
    rcases hb with rfl | rfl | rfl | rfl <;> first | exact Nat.le_add_right _ _ | exact Nat.le_refl _
  · obtain ⟨x, y, hx, hy, rfl⟩ := hp
    have q1 : i < l1.length := by rw [← ra1.length, Array.length_toList]; exact (Array.getElem?_eq_some_iff.mp hx).1
    have q2 : i < l2.length := by rw [← ra2.length, Array.length_toList]; exact (Array.getElem?_eq_some_iff.mp hy).1
    have e1 := List.getElem?_eq_getElem q1
    have e2 := List.getElem?_eq_getElem q2
    refine ⟨x, y, l1[i], l2[i], rfl, List.getElem?_zip_eq_some.mpr ⟨e1, e2⟩, fun h'' kk => ?_⟩
    have mv : ∀ {v : Value} {d : PyData}, Rd s.heap v d → Rd h'' v d := fun r => r.move fun b o vs n eb hdb hcb => ⟨o.slots, kk b o (Heap.lt_size eb) (nP eb hcb) (keep b o eb)⟩
    exact ⟨mv (ra1.at e1 hx), mv (ra2.at e2 hy)⟩
theorem any_main {c : Cx} {C : Calls} {Fa : Nat → Addr} {env : Env} {L ca P : Addr} {l : List Env} {mg mb : Str → Option Value} {bm : Addr} {ob : Obj} {ρ : Env'} {s : Shared} {Q E : Value → Shared → Prop} {q : AnyP}
    (hcode : env.code = .ref ca) (hgl : env.globals = mainGlobals) (hcp : (ca, P) ∈ cps) (BM : BMod H mainGlobals mg bm ob) (hb : H.Ns builtinsNs mb) (lim : H.NoLimit) (T : Sit (mkX prog w H O cps) c Fa C A env l L) (hroom : A.depth < recursionLimit)
    (D : q.Ok c) (h : Here (mkX prog w H O cps) c env l L ρ s) (sp : Sp (mkX prog w H O cps) RelV [] (env :: l) s Q E (ev C (.anyZip q.elt q.a q.b) ρ)) :
    wpAny (model prog w) A (eval (.Call (.Name q.f q.fp) [q.gen] [] q.pp) env) Q E s := by
  have hh := T.hh
  refine wpAny_tk (Call_ (load_bt T h.w D.o1 (callWith_builtin1 (id := "any") (args_cons ?_ rfl) rfl)))
  rw [evE_anyZip] at sp
  replace sp := Sp.tk (t := s.toks) sp
  refine wpAny_mono (any_gen (O := O) (Q := fun v s' => s.toks ≤ s'.toks → Q v s') hcp BM lim hcode hgl hh hroom D.ok (fun _ => rfl) ?_) (fun v s' hv => args_nil hv) fun _ _ z => z
  refine two_args T h (fun _ z => by cases z) D.o2 D.o3 D.o4 (fun s Q E h sp => (sound T q.a).1 _ s Q E D.o5 h sp) (fun s Q E h sp => (sound T q.b).1 _ s Q E D.o6 h sp) sp fun d₁ v₁ d₂ v₂ s₂ h₂ r₁ r₂ sp₂ => ?_
  obtain ⟨l1, l2, bb, rfl, rfl, hz⟩ := anyV_el sp₂.ne
  refine any_zip hcp h₂.w hz r₁ r₂ fun s' xt wh g os ht => ?_
  rw [anyV_ok hz] at sp₂
  exact sp₂ _ _ ⟨xt, ⟨wh, g, os, Nat.lt_of_lt_of_le h.w.toks ht⟩⟩ (.bool _) ht
theorem anyExt_ok {c : Cx} {C : Calls} {Fa : Nat → Addr} {q : Str} {L a ca P : Addr} {l : List Env} {mg mb : Str → Option Value} {bm : Addr} {ob : Obj}
    (hext : c.ext = anyExt c.fns c.gl c.sc c.ns) (hcp : (ca, P) ∈ cps) (BM : BMod H mainGlobals mg bm ob) (hb : H.Ns builtinsNs mb) (lim : H.NoLimit) (nb : NoneBooked H)
    (G : Gx (mkX prog w H O cps) c Fa) (kind : c.sc.kind = .function) (new : H.get? L = none) (hfr : A.frames = some (envOf q c.sc L a (.ref ca) :: l)) (hh : A.handled = none) (hroom : A.depth < recursionLimit) (hu : A.units + 80 < cLine)
    (hcall : ∀ (f : Nat) (vs : List Value) (ds : List PyData) (s : Shared) (Q : Value → Shared → Prop) (E : Value → Shared → Prop), s.heap.FunFrames H (envOf q c.sc L a (.ref ca) :: l) → W (mkX prog w H O cps) s → RdAll s.heap vs ds → Sp (mkX prog w H O cps) RelV [] (envOf q c.sc L a (.ref ca) :: l) s Q E (C f ds) →
      wpAny (model prog w) A (call (.ref (Fa f)) vs) Q E s) :
    ExtOk (mkX prog w H O cps) c C A (envOf q c.sc L a (.ref ca)) l L := by
  have T : Sit (mkX prog w H O cps) ⟨c.fns, c.gl, c.ns, c.sc, fun _ _ => false⟩ Fa C A (envOf q c.sc L a (.ref ca)) l L :=
    ⟨⟨G.names⟩, ⟨_, _, _, rfl⟩, kind, new, lim, nb, GT.there, hfr, hh, hu, hcall, fun _ _ _ _ _ _ z _ _ => by cases z⟩
  intro p e ρ s Q E ok h
  rw [hext] at ok
  obtain ⟨q, rfl, rfl, D⟩ := anyX_inv ok
  exact any_main rfl rfl hcp BM hb lim T hroom D ⟨h.w, h.ff, h.fm⟩
end
end Mine

namespace Mine
open PySem PySem.Calls PySem.Spec PyProof.Rows PySem.W

noncomputable def genAt3 (fns : List Str) (gl : List (Str × PyData)) (g g' : Nat) (k : Nat) : Scope → List Str → PE → Expr → Bool := bif k == g then anyExt fns gl else bif k == g' then allExt else fun _ _ _ _ => false

theorem ints_read {h : Heap} : ∀ {vs : List Value} {ns : List Int}, IntsAre vs ns → RdAll h vs (ns.map PyData.int)
  | _, _, .nil => .nil
  | _, _, .cons n t r => .cons (.int n t) (ints_read r)

theorem law_call3 {p : Program} {loose : List Str} {mean : ExcName → Option Value} {mg mb : Str → Option Value} {prog : Program} {w : World} {s₁ : Shared} {K : Frag} {fns : List Str} {gl : List (Str × PyData)} {nss : List (List Str)} {T : List Fn} {g g' k n N : Nat} {gname gname' : Str} {dr dr' : DefRec} {fa a : Addr} {vs : List Value} {ns : List Int} {Q : Value → Shared → Prop} {E : Value → Shared → Prop}
    (KX : K.In s₁.heap) (TT : Top p loose mean mg mb s₁.heap) (hg : s₁.gens = #[]) (h1 : glOk K gl = true) (h2 : btOk K = true) (h0 : nbOk K = true) (h3 : fnsOk K fns = true) (h4 : tabOk K fns gl (genAt3 fns gl g g') 0 fns nss T = true)
    (hlaw : fns[k]? = some (Str.ofString "law")) (hmg : mg (Str.ofString "law") = some (.ref fa)) (hgT : ∃ f, T[g]? = some f) (hgT' : ∃ f, T[g']? = some f) (hgen : fns[g]? = some gname) (hgen' : fns[g']? = some gname') (hrec : (recsOf p).find? (fun e => e.name == gname) = some dr) (hrec' : (recsOf p).find? (fun e => e.name == gname') = some dr') (hne : (g' == g) = false)
    (hl : s₁.heap.IsList a vs.toArray) (hI : IntsAre vs ns) (hlen : ¬ (63 : Int) < ns.length) (hn : n ≤ 100) (hrun : run T N (n + 1) k [.list (ns.map PyData.int)] = .ok (.bool true))
    (hQ : ∀ s', OldK s₁.heap s'.heap → s'.os = s₁.os → AllBare s'.gens → Q (.bool true) s') :
    wpAny (model prog w) callerA (call (.ref fa) [.ref a]) Q E s₁ := by
  obtain ⟨bm, ob, BM⟩ := bmod_of_top TT
  have find : ∀ {j : Nat} {x : Str} {d : DefRec}, fns[j]? = some x → (recsOf p).find? (fun e => e.name == x) = some d → ∃ ca P, (fdOf K fns j).2.code = .ref ca ∧ Based s₁.heap s₁.heap ca P #[] := fun {j x d} hx hr => by
    obtain ⟨⟨ga, gfd⟩, hga⟩ := Option.isSome_iff_exists.mp (List.all_eq_true.mp h3 _ (List.mem_of_getElem? hx))
    obtain ⟨e1, og, e2, e3⟩ := fnAt_ok KX TT.g hga
    obtain ⟨ca, P, hca, B0⟩ := based_of_top TT hr e1 e2 e3
    refine ⟨ca, P, ?_, B0⟩
    have : fdOf K fns j = (ga, gfd) := by unfold fdOf; rw [hx]; simp only; rw [hga]; rfl
    rw [this]; exact hca
  obtain ⟨ca, P, hca, B0⟩ := find hgen hrec
  obtain ⟨ca', P', hca', B0'⟩ := find hgen' hrec'
  clear find
  have I := tab_is (X := mkX prog w s₁.heap s₁.os [(ca, P), (ca', P')]) (K := K) (fns := fns) (gl := gl) (nss := nss) (exts := genAt3 fns gl g g') (T := T) KX TT.g TT.b TT.builtins TT.nolimit (nbOk_ok KX TT.nolimit h0) GT.there h1 h2 h3 h4
  have hr : recursionLimit = 1000 := rfl
  have hcl : cLine = 9900 := rfl
  have bt : ∀ (x : Str) (v : Value), bts.lookup x = some v → mg x = none ∧ mb x = some v := fun x v e => by
    obtain ⟨q1, q2⟩ := bts_boot _ (PySem.W.mem_lookup e)
    obtain ⟨o, q, k⟩ := onSome_inv (List.all_eq_true.mp h2 _ (PySem.W.mem_lookup e))
    rw [onNone_inv k] at q
    exact ⟨mg_none_of KX TT.g q, (TT.builtins x q2).trans q1⟩
  have ex : ExtsOk (mkX prog w s₁.heap s₁.os [(ca, P), (ca', P')]) T N (cxOf K fns gl nss (genAt3 fns gl g g')) (fun k => (fdOf K fns k).1) (fun k => (fdOf K fns k).2.qualname) (fun k => (fdOf K fns k).2.code) := by
    intro k' n' A l L hfr hh hd hu hL hC
    by_cases hk : k' = g
    · subst hk
      show ExtOk _ _ _ A (envOf (fdOf K fns k').2.qualname (cxOf K fns gl nss (genAt3 fns gl k' g') k').sc L (fdOf K fns k').1 (fdOf K fns k').2.code) l L
      dsimp only at hfr
      rw [hca] at hfr ⊢
      have hext : (cxOf K fns gl nss (genAt3 fns gl k' g') k').ext = anyExt fns gl (cxOf K fns gl nss (genAt3 fns gl k' g') k').sc (cxOf K fns gl nss (genAt3 fns gl k' g') k').ns := by
        show genAt3 fns gl k' g' k' _ _ = _
        unfold genAt3
        rw [beq_self_eq_true]; rfl
      obtain ⟨f, hf⟩ := hgT
      exact anyExt_ok hext List.mem_cons_self BM TT.b TT.nolimit (nbOk_ok KX TT.nolimit h0) (I.G k') (I.fn k' f hf).kind hL hfr hh (by lia) (by lia) (fun f vs ds s Q E ff ww rs sp => hC A _ f vs ds s Q E hfr hh hd hu ff ww rs sp)
    · by_cases hk' : k' = g'
      · subst hk'
        show ExtOk _ _ _ A (envOf (fdOf K fns k').2.qualname (cxOf K fns gl nss (genAt3 fns gl g k') k').sc L (fdOf K fns k').1 (fdOf K fns k').2.code) l L
        dsimp only at hfr
        rw [hca'] at hfr ⊢
        have hext : (cxOf K fns gl nss (genAt3 fns gl g k') k').ext = allExt (cxOf K fns gl nss (genAt3 fns gl g k') k').sc (cxOf K fns gl nss (genAt3 fns gl g k') k').ns := by
          show genAt3 fns gl g k' k' _ _ = _
          unfold genAt3
          rw [hne, beq_self_eq_true]; rfl
        obtain ⟨f, hf⟩ := hgT'
        exact allExt_ok hext (List.mem_cons_of_mem _ List.mem_cons_self) BM TT.b bt TT.nolimit (nbOk_ok KX TT.nolimit h0) (I.G k') (I.fn k' f hf).kind hL hfr hh (by lia) (by lia)
      · intro p e ρ s Q E ok
        have : (cxOf K fns gl nss (genAt3 fns gl g g') k').ext = fun _ _ => false := by
          show genAt3 fns gl g g' k' _ _ = _
          unfold genAt3
          rw [show (k' == g) = false by simpa using hk, show (k' == g') = false by simpa using hk']; rfl
        rw [this] at ok; cases ok
  have hlf := List.all_eq_true.mp h3 _ (List.mem_of_getElem? hlaw)
  obtain ⟨⟨la, lfd⟩, hla⟩ := Option.isSome_iff_exists.mp hlf
  obtain ⟨e4, _⟩ := fnAt_ok KX TT.g hla
  have hfa : (fdOf K fns k).1 = fa := by
    have : fdOf K fns k = (la, lfd) := by unfold fdOf; rw [hlaw]; simp only; rw [hla]; rfl
    rw [this]
    rw [hmg] at e4
    cases e4; rfl
  obtain ⟨o, ho, hc, m, hd⟩ := hl
  have hlen' := hI.length
  have r : Rd s₁.heap (.ref a) (.list (ns.map PyData.int)) := .list ho hc hd (by rw [List.size_toArray]; lia) (by rw [List.toList_toArray]; exact ints_read hI)
  have wh : Wh (mkX prog w s₁.heap s₁.os [(ca, P), (ca', P')]) s₁.heap := ⟨fun b o e _ => e, GT.start fun p hp => by
    rcases List.mem_cons.mp hp with rfl | hp
    · exact B0
    · rcases List.mem_cons.mp hp with rfl | hp
      · exact B0'
      · cases hp⟩
  rw [← hfa]
  have hd0 : callerA.depth ≤ 700 := by decide
  have hu0 : callerA.units ≤ 1000 := by decide
  exact top_call (X := mkX prog w s₁.heap s₁.os [(ca, P), (ca', P')]) I ex (n := n) (k := k) rfl rfl (by lia) (by lia) wh (AllBare.of_eq hg) rfl r hrun fun s' o => hQ s' o.2.h.oldK o.2.os o.2.gens
end Mine

namespace Mine
open PySem PySem.W PyProof.Rows
noncomputable def fragOf (h : Heap) (as : List Addr) : Frag := as.filterMap fun a => (h.get? a).map fun o => (a, o)
theorem fragOf_in {h : Heap} {as : List Addr} : (fragOf h as).In h := by
  intro a o e
  unfold fragOf at e
  induction as with
  | nil => cases e
  | cons b r ih =>
    rw [List.filterMap_cons] at e
    cases q : h.get? b with
    | none => rw [q] at e; exact ih e
    | some ob =>
      rw [q] at e
      dsimp only [Option.map_some, List.lookup] at e
      split at e
      · rename_i z; cases e; rw [beq_iff_eq.mp z]; exact q
      · exact ih e
noncomputable def chk (fns : List Str) (gl : List (Str × PyData)) (nss : List (List Str)) (T : List Fn) (g g' : Nat) (K : Frag) : Bool := glOk K gl && btOk K && nbOk K && fnsOk K fns && tabOk K fns gl (genAt3 fns gl g g') 0 fns nss T
noncomputable def ownHook (as : List Addr) (c : Frag → Bool) : Hook :=
  ⟨Bool, fun s => c (fragOf s.heap as), fun _ => true, fun _ h => ∃ K : Frag, K.In h ∧ c K = true, fun _ _ e => ⟨_, fragOf_in, e⟩, fun _ _ _ ⟨K, a, b⟩ k => ⟨K, a.keeps k, b⟩⟩
end Mine

namespace Mine
open PySem
theorem itoa_small {v : Int} (h0 : -100000 ≤ v) (h1 : v ≤ 9999999999) : (itoa v).length ≤ 12 ∧ smallI v = true := by
  constructor
  · by_cases h : 0 ≤ v
    · obtain ⟨n, rfl⟩ : ∃ n : Nat, v = n := ⟨v.toNat, by first | assumption | rfl | exact Nat.le_add_left _ _ | decide | lia⟩
      have := itoa_length (v := n) 9 (by first | assumption | rfl | exact Nat.le_add_left _ _ | decide | lia)
      lia
    · obtain ⟨n, rfl⟩ : ∃ n : Nat, v = Int.negSucc n := ⟨(-v - 1).toNat, by first | assumption | rfl | exact Nat.le_add_left _ _ | decide | lia⟩
      rw [itoa_neg]
      have := itoa_length (v := n + 1) 9 (by first | assumption | rfl | exact Nat.le_add_left _ _ | decide | lia)
      rw [List.length_cons]; lia
  · unfold smallI; simp; lia

theorem rep_flat (k : Nat) : (List.replicate k [48]).flatten = List.replicate k 48 := by
  induction k with
  | zero => rfl
  | succ k ih => simp [List.replicate_succ, ih]

theorem padL_le {v : Int} {w : Nat} (h0 : -100000 ≤ v) (h1 : v ≤ 9999999999) (hw : w ≤ 9) : (padL v w).length ≤ 21 := by
  have := (itoa_small h0 h1).1
  unfold padL
  rw [List.length_append, List.length_replicate]; lia

structure ZoneF (z : List Nat) (off : Option Int) : Prop where
  len : z.length ≤ 6
  head : ∃ c q, z = c :: q ∧ (c = 90 ∨ c = 122 ∨ c = 43 ∨ c = 45)
  same : ∀ o, zoneM z = some o → o = off
  good : subAt [58, 54, 48] z = false → -1439 ≤ shift off → shift off ≤ 1439 → zoneM z = some off
  bad : subAt [58, 54, 48] z = true → zoneM z = none
  cut : zoneM z.dropLast = none
  lo : -100000 ≤ shift off
  hi : shift off ≤ 100000

structure FracF (f : List Nat) (ns : Int) : Prop where
  shape : (f = [] ∧ ns = 0) ∨ ∃ ds, f = 46 :: ds ∧ ds.all digit = true ∧ ds.length ≤ 10 ∧ (ds.length ≤ 9 → ns = digitsVal ds * 10 ^ (9 - ds.length))
  lo : 0 ≤ ns
  hi : ns ≤ 999999999
theorem FracF.len {f : List Nat} {ns : Int} (h : FracF f ns) : f.length ≤ 11 := by
  rcases h.shape with ⟨rfl, _⟩ | ⟨ds, rfl, _, h, _⟩
  · simp
  · simpa using h

structure Rng (s : St) : Prop where
  y : -1 ≤ s.y ∧ s.y ≤ 10000
  mo : 0 ≤ s.mo ∧ s.mo ≤ 13
  d : 0 ≤ s.d ∧ s.d ≤ 32
  h : -1 ≤ s.h ∧ s.h ≤ 24
  mi : -1 ≤ s.mi ∧ s.mi ≤ 60
  se : -1 ≤ s.se ∧ s.se ≤ 61

noncomputable abbrev textG (s : St) (x : Nat) (f z : List Nat) : List Nat := headG s.y s.mo s.d s.h s.mi s.se x ++ f ++ z

theorem parse_G {s : St} {x : Nat} {t : List Nat} (hx : x = 84 ∨ x = 116) (hr : Rng s) : parseM (headG s.y s.mo s.d s.h s.mi s.se x ++ t) = if s.y = 10000 then none else tailP s.y s.mo s.d s.h s.mi s.se t := by
  by_cases h : s.y = 10000
  · rw [if_pos h, h]; exact parse_far
  · rw [if_neg h]
    have := hr.y; have := hr.mo; have := hr.d; have := hr.h; have := hr.mi; have := hr.se
    exact parse_headG hx (by first | decide | lia) (by first | decide | lia) (by first | decide | lia) (by first | decide | lia) (by first | decide | lia) (by first | decide | lia)

theorem text_parse {s : St} {x : Nat} {f z : List Nat} (hx : x = 84 ∨ x = 116) (hr : Rng s) (hf : FracF f s.ns) (hz : ZoneF z s.off) :
    parseM (textG s x f z) = if s.valid ∧ (f.length ≠ 1 ∧ f.length ≠ 11) ∧ subAt [58, 54, 48] z = false then some s else none := by
  unfold textG
  rw [List.append_assoc, parse_G hx hr]
  by_cases hy : s.y = 10000
  · rw [if_pos hy, if_neg]
    rintro ⟨hv, _⟩
    have := hv.1.1
    lia
  · rw [if_neg hy]
    obtain ⟨hz1, hz2, hz3⟩ := headc hz.head
    have hval : ∀ o, o = s.off → St.mk s.y s.mo s.d s.h s.mi s.se s.ns o = s := fun o e => by subst e; rfl
    have tail : ∀ (ok : Bool), tailM s.y s.mo s.d s.h s.mi s.se s.ns z = if s.valid ∧ subAt [58, 54, 48] z = false then some s else none := fun _ => by
      unfold tailM
      cases hm : zoneM z with
      | none =>
        simp only
        rw [if_neg]
        rintro ⟨hv, hs⟩
        have := hz.good hs hv.1.2.2.2.2.2.2.1 hv.1.2.2.2.2.2.2.2
        rw [hm] at this; cases this
      | some o =>
        have ho := hz.same o hm
        simp only [hval o ho]
        have hs : subAt [58, 54, 48] z = false := by
          cases e : subAt [58, 54, 48] z with
          | false => rfl
          | true => rw [hz.bad e] at hm; cases hm
        by_cases hv : s.valid
        · rw [if_pos hv, if_pos ⟨hv, hs⟩]
        · rw [if_neg hv, if_neg (fun q => hv q.1)]
    have tl := tail true
    rcases hf.shape with ⟨rfl, hn⟩ | ⟨ds, rfl, hd, hl, hn⟩
    · rw [List.nil_append]
      have e := fracM_no hz2
      cases hc : z with
      | nil => exact absurd hc hz3
      | cons c r =>
        rw [hc] at e tl
        rw [tailP, e]
        simp only
        rw [← hn, tl]
        simp
    · rw [List.cons_append, tailP, fracM_dot hd hz1]
      by_cases q : ds.length < 1 ∨ ds.length > 9
      · rw [if_pos q]
        simp only
        rw [if_neg]
        rintro ⟨_, ⟨q1, q2⟩, _⟩
        simp at q1 q2
        rcases q with q | q
        · exact q1 (List.length_eq_zero_iff.mp (by first | decide | lia))
        · lia
      · rw [if_neg q]
        simp only
        rw [← hn (by first | decide | lia), tl]
        have : (46 :: ds).length ≠ 1 ∧ (46 :: ds).length ≠ 11 := by
          rw [List.length_cons]; lia
        simp only [this, ne_eq, not_false_eq_true, and_self, true_and]

end Mine

namespace Mine
open PySem

theorem idx_mem {l : List PyData} {i : Int} (h0 : 0 ≤ i) (h1 : i < l.length) : ∃ d, d ∈ l ∧ index (.tuple l) (.int i) = .ok d := by
  have hk : i.toNat < l.length := by lia
  refine ⟨l[i.toNat], List.getElem_mem hk, ?_⟩
  rw [index_1]
  have e : idxAt i l.length = some i.toNat := by unfold idxAt; rw [if_pos h0, if_pos h1]
  rw [e, R.ofOpt_some, R.bind_ok, List.getElem?_eq_getElem hk]; rfl

section
variable {N n : Nat}
end
end Mine

namespace Mine
open PySem

section
variable {N n : Nat}
theorem ret_idx {C : Calls} {es : List PE} {i : PE} {ρ : Env'} {l : List PyData} {j : Int} (h1 : evs C es ρ = .ok l) (h2 : ev C i ρ = .ok (.int j)) (h3 : 0 ≤ j) (h4 : j < l.length) :
    ∃ d, d ∈ l ∧ fin (execs C N [.ret (.idx (.tup es) i)] ρ) = .ok d := by
  obtain ⟨d, hd, e⟩ := idx_mem h3 h4
  refine ⟨d, hd, ?_⟩
  have : exec C N (.ret (.idx (.tup es) i)) ρ = .ok (.ret d) := by
    ((first | rewrite [execE_ret] | rewrite [execE_asg] | rewrite [execE_asgT] | rewrite [execE_ite] | rewrite [execE_whl] | rewrite [execE_forRange] | rewrite [execE_forTup] | rewrite [execE_forZip] | rewrite [execE_raise] | rewrite [execE_tryAsg]); (first | rewrite [evE_loc] | rewrite [evE_cst] | rewrite [evE_bin] | rewrite [evE_neg] | rewrite [evE_not] | rewrite [evE_and] | rewrite [evE_or] | rewrite [evE_ite] | rewrite [evE_tup] | rewrite [evE_lst] | rewrite [evE_cmp] | rewrite [evE_chain] | rewrite [evE_isNone] | rewrite [evE_isNotNone] | rewrite [evE_typeIs] | rewrite [evE_idx] | rewrite [evE_sliceTo] | rewrite [evE_sliceFrom] | rewrite [evE_slice] | rewrite [evE_call] | rewrite [evE_b1] | rewrite [evE_b2] | rewrite [evE_join] | rewrite [evE_rstrip] | rewrite [evE_replace] | rewrite [evE_dget] | rewrite [evE_all] | rewrite [evE_anyZip]); (first | rewrite [evE_loc] | rewrite [evE_cst] | rewrite [evE_bin] | rewrite [evE_neg] | rewrite [evE_not] | rewrite [evE_and] | rewrite [evE_or] | rewrite [evE_ite] | rewrite [evE_tup] | rewrite [evE_lst] | rewrite [evE_cmp] | rewrite [evE_chain] | rewrite [evE_isNone] | rewrite [evE_isNotNone] | rewrite [evE_typeIs] | rewrite [evE_idx] | rewrite [evE_sliceTo] | rewrite [evE_sliceFrom] | rewrite [evE_slice] | rewrite [evE_call] | rewrite [evE_b1] | rewrite [evE_b2] | rewrite [evE_join] | rewrite [evE_rstrip] | rewrite [evE_replace] | rewrite [evE_dget] | rewrite [evE_all] | rewrite [evE_anyZip]); rw [h1, R.bind_ok, R.bind_ok, h2, R.bind_ok, e]); rfl
  rw [execs_ret this]; rfl

end
end Mine

namespace Mine
open PySem

section
variable {N n : Nat}
noncomputable def tm (y m d : Int) : Int := if d < 1 then m - 1 else if mLen y m < d then m + 1 else m
noncomputable def td (y m d : Int) : Int := if d < 1 then mLen y (m - 1) else if mLen y m < d then 1 else d
noncomputable abbrev dateD (y m d : Int) : PyData := .tuple [.int y, .int m, .int d]
end
end Mine

namespace Mine
open PySem

section
variable {N n : Nat}
noncomputable def zoneW (off : Option Int) : List Nat :=
  (if off = none ∨ shift off < 0 then 45 else 43) :: (padL ((if shift off < 0 then -shift off else shift off) / 60) 2 ++ [58] ++ padL ((if shift off < 0 then -shift off else shift off) % 60) 2)
end
end Mine

namespace Mine
open PySem

theorem sub60 {c h m : Nat} (hc : c = 43 ∨ c = 45) (hh : h ≤ 24) (hm : m ≤ 60) : subAt [58, 54, 48] (c :: (dig 2 h ++ [58] ++ dig 2 m)) = decide (m = 60) := by
  rw [dig2, dig2]
  simp only [List.cons_append, List.nil_append]
  rw [Bool.eq_iff_iff, decide_eq_true_eq]
  simp [subAt, List.isPrefixOf]
  lia

theorem zoneW_eq (off : Option Int) (h0 : -1440 ≤ shift off) (h1 : shift off ≤ 1440) : ∃ h m : Nat, h ≤ 24 ∧ m ≤ 59 ∧ (if shift off < 0 then -shift off else shift off) = (h : Int) * 60 + m ∧ zoneW off = (if off = none ∨ shift off < 0 then 45 else 43) :: (dig 2 h ++ [58] ++ dig 2 m) := by
  unfold zoneW
  generalize hz : (if shift off < 0 then -shift off else shift off) = z
  have z0 : 0 ≤ z := by rw [← hz]; split <;> lia
  have z1 : z ≤ 1440 := by rw [← hz]; split <;> lia
  refine ⟨(z / 60).toNat, (z % 60).toNat, by lia, by lia, by lia, ?_⟩
  rw [padN (z / 60) 1 (by lia) (by lia), padN (z % 60) 1 (by lia) (by lia)]

noncomputable def plus0 : List Nat := [43, 48, 48, 58, 48, 48]
noncomputable def zoneS (off : Option Int) (k : Int) : List Nat := if zoneW off = plus0 then (if k = 0 then [90] else if k = 1 then [122] else plus0) else zoneW off

theorem zoneW_zero (off : Option Int) (h0 : -1440 ≤ shift off) (h1 : shift off ≤ 1440) : zoneW off = plus0 ↔ off = some 0 := by
  constructor
  · intro e
    obtain ⟨h, m, hh, hm, hv, ez⟩ := zoneW_eq off h0 h1
    rw [ez, dig2, dig2] at e
    unfold plus0 at e
    simp only [List.cons_append, List.nil_append, List.cons.injEq, and_true] at e
    obtain ⟨e1, e2, e3, _, e4, e5⟩ := e
    by_cases hn : off = none ∨ shift off < 0
    · rw [if_pos hn] at e1; cases e1
    · cases off with
      | none => exact absurd (.inl rfl) hn
      | some o =>
        rw [shift_some] at hv hn
        congr 1
        rw [if_neg (fun q => hn (.inr q))] at hv
        lia
  · intro e; subst e; decide

theorem zoneM_S {off : Option Int} {k : Int} (h0 : -1440 ≤ shift off) (h1 : shift off ≤ 1440) : zoneM (zoneS off k) = if -1439 ≤ shift off ∧ shift off ≤ 1439 then some off else none := by
  unfold zoneS
  by_cases hz : zoneW off = plus0
  · have e := (zoneW_zero off h0 h1).mp hz
    subst e
    rw [if_pos hz, if_pos (show -1439 ≤ shift (some 0) ∧ shift (some 0) ≤ 1439 by decide)]
    by_cases k0 : k = 0
    · rw [if_pos k0]; rfl
    · rw [if_neg k0]
      by_cases k1 : k = 1
      · rw [if_pos k1]; rfl
      · rw [if_neg k1]; decide
  · rw [if_neg hz]
    obtain ⟨h, m, hh, hm, hv, ez⟩ := zoneW_eq off h0 h1
    have hoff : off ≠ some 0 := fun q => hz ((zoneW_zero off h0 h1).mpr q)
    rw [ez, zoneM_pm (by split <;> simp) (by lia) (by lia)]
    by_cases hr : -1439 ≤ shift off ∧ shift off ≤ 1439
    · rw [if_pos hr, if_neg (by split at hv <;> lia)]
      by_cases hn : off = none ∨ shift off < 0
      · rw [if_pos hn, if_pos rfl]
        cases off with
        | none =>
          rw [shift_none] at hv
          rw [if_pos (by lia)]
        | some o =>
          rw [shift_some] at hv hn
          have ho : o < 0 := hn.elim (fun q => by cases q) id
          rw [if_pos ho] at hv
          rw [if_neg (by lia)]
          congr 2; lia
      · rw [if_neg hn, if_neg (by decide)]
        cases off with
        | none => exact absurd (.inl rfl) hn
        | some o =>
          rw [shift_some] at hv hn
          rw [if_neg (fun q => hn (.inr q))] at hv
          congr 2; exact hv.symm
    · rw [if_neg hr, if_pos (by split at hv <;> lia)]

theorem zoneF2 {off : Option Int} {k : Int} (h0 : -1440 ≤ shift off) (h1 : shift off ≤ 1440) : ZoneF (zoneS off k) off := by
  have e := @zoneM_S off k h0 h1
  have shape : zoneS off k = [90] ∨ zoneS off k = [122] ∨ ∃ c h m : Nat, (c = 43 ∨ c = 45) ∧ h ≤ 24 ∧ m ≤ 59 ∧ zoneS off k = c :: (dig 2 h ++ [58] ++ dig 2 m) := by
    unfold zoneS
    split
    · split
      · exact .inl rfl
      · split
        · exact .inr (.inl rfl)
        · exact .inr (.inr ⟨43, 0, 0, .inl rfl, by decide, by decide, by decide⟩)
    · obtain ⟨h, m, hh, hm, _, ez⟩ := zoneW_eq off h0 h1
      refine .inr (.inr ⟨_, h, m, ?_, hh, hm, ez⟩)
      split <;> simp
  refine ⟨?_, ?_, fun o ho => ?_, fun _ g1 g2 => by rw [e, if_pos ⟨g1, g2⟩], fun hb => ?_, ?_, by lia, by lia⟩
  · rcases shape with z | z | ⟨c, h, m, _, _, _, z⟩ <;> rw [z]
    · decide
    · decide
    · simp [dig_length]
  · rcases shape with z | z | ⟨c, h, m, hc, _, _, z⟩
    · exact ⟨90, [], z, .inl rfl⟩
    · exact ⟨122, [], z, .inr (.inl rfl)⟩
    · exact ⟨c, _, z, .inr (.inr hc)⟩
  · rw [e] at ho
    split at ho
    · exact (Option.some.inj ho).symm
    · cases ho
  · exfalso
    rcases shape with z | z | ⟨c, h, m, hc, hh, hm, z⟩
    · rw [z] at hb; revert hb; decide
    · rw [z] at hb; revert hb; decide
    · rw [z, sub60 hc hh (by lia), decide_eq_true_eq] at hb; lia
  · rcases shape with z | z | ⟨c, h, m, hc, hh, hm, z⟩
    · rw [z]; rfl
    · rw [z]; rfl
    · rw [z, dig2, dig2]
      dsimp only [List.cons_append, List.nil_append, List.dropLast]
      unfold zoneM
      simp only
      rw [if_neg (by lia), if_pos hc]
end Mine

namespace Mine
open PySem

noncomputable def fracW (ns k : Int) : List Nat := if k = 0 then rstripL [46] (rstripL [48] (46 :: padL ns 9)) else 46 :: padL ns 9
theorem fracW_ok {ns k : Int} (h0 : 0 ≤ ns) (h1 : ns ≤ 999999999) : fracW ns k = if k = 0 then fracL ns else 46 :: dig 9 ns.toNat := by
  unfold fracW
  rw [padN ns 8 h0 (by lia), law_frac h0 h1]
noncomputable def spellX (sp : Int) : Nat := if sp % 2 = 0 then 84 else 116
noncomputable abbrev text2 (s : St) (sp : Int) : List Nat := textG s (spellX sp) (fracW s.ns (sp / 2 % 2)) (zoneS s.off (sp / 4))
structure Rng2 (s : St) : Prop where
  r : Rng s
  n : -1 ≤ s.ns ∧ s.ns ≤ 1000000000
  o : -1440 ≤ shift s.off ∧ shift s.off ≤ 1440

theorem text_zero {s : St} (hv : s.valid) (hr : Rng2 s) : text2 s 0 = fmtL s := by
  have p := hv.1
  obtain ⟨a1, a2, a3, a4, a5, a6, a7⟩ := hv.1
  have hm := @mLen_bounds s.y s.mo
  have hse : 0 ≤ s.se ∧ s.se ≤ 99 := by rcases hv.2 with q | q <;> lia
  unfold text2 textG fmtL
  rw [fracW_ok p.2.2.2.2.2.1.1 p.2.2.2.2.2.1.2, if_pos (by decide), show spellX 0 = 84 from rfl, headG_eq p.1 ⟨by lia, by lia⟩ ⟨by lia, by lia⟩ ⟨by lia, by lia⟩ ⟨by lia, by lia⟩ hse]
  congr 1
  have h0 := hr.o.1
  have h1 := hr.o.2
  unfold zoneS
  by_cases hz : zoneW s.off = plus0
  · have e := (zoneW_zero s.off h0 h1).mp hz
    rw [if_pos hz, if_pos (by decide), e]; rfl
  · rw [if_neg hz]
    have hoff : s.off ≠ some 0 := fun q => hz ((zoneW_zero s.off h0 h1).mpr q)
    obtain ⟨h, m, hh, hm', hvv, ez⟩ := zoneW_eq s.off h0 h1
    rw [ez]
    cases ho : s.off with
    | none =>
      rw [ho, shift_none] at hvv
      have : h = 0 ∧ m = 0 := by lia
      rw [this.1, this.2]; rfl
    | some o =>
      rw [ho, shift_some] at hvv
      have o0 : o ≠ 0 := fun q => hoff (by rw [ho, q])
      show _ = (if o = 0 then [90] else if o < 0 then 45 :: (dig 2 (-o / 60).toNat ++ [58] ++ dig 2 (-o % 60).toNat) else 43 :: (dig 2 (o / 60).toNat ++ [58] ++ dig 2 (o % 60).toNat))
      rw [if_neg o0]
      by_cases hneg : o < 0
      · rw [if_pos (show some o = none ∨ shift (some o) < 0 from .inr hneg), if_pos hneg]
        rw [if_pos hneg] at hvv
        rw [show (-o / 60).toNat = h by lia, show (-o % 60).toNat = m by lia]
      · rw [if_neg (show ¬ (some o = none ∨ shift (some o) < 0) from fun q => q.elim (fun z => by cases z) hneg), if_neg hneg]
        rw [if_neg hneg] at hvv
        rw [show (o / 60).toNat = h by lia, show (o % 60).toNat = m by lia]
end Mine

namespace Mine
open PySem

section
variable {C : Calls} {N n : Nat} {ρ : Env'}
end
end Mine

namespace Mine
open PySem

noncomputable def P1 (s : St) : Prop := (0 ≤ s.y ∧ s.y ≤ 9999) ∧ (1 ≤ s.mo ∧ s.mo ≤ 12) ∧ (1 ≤ s.d ∧ s.d ≤ mLen s.y s.mo) ∧ (0 ≤ s.h ∧ s.h ≤ 23) ∧ (0 ≤ s.mi ∧ s.mi ≤ 59) ∧ (0 ≤ s.se ∧ s.se ≤ 60) ∧ (0 ≤ s.ns ∧ s.ns ≤ 999999999) ∧ (-1439 ≤ shift s.off ∧ shift s.off ≤ 1439)
noncomputable instance (s : St) : Decidable (P1 s) := by unfold P1; infer_instance
noncomputable def Lp (y m d u : Int) : Prop := 0 ≤ y ∧ u = 1439 ∧ ((m = 6 ∧ d = 30) ∨ (m = 12 ∧ d = 31))
noncomputable instance (y m d u : Int) : Decidable (Lp y m d u) := by unfold Lp; infer_instance
theorem P1.rng {s : St} (h : P1 s) : Rng2 s := by
  obtain ⟨a1, a2, a3, a4, a5, a6, a7, a8⟩ := h
  have := @mLen_bounds s.y s.mo
  exact ⟨⟨by lia, by lia, by lia, by lia, by lia, by lia⟩, by lia, by lia⟩

theorem cY_nonneg {n : Int} : 0 ≤ cY n ↔ 0 ≤ n := by
  obtain ⟨a, b⟩ := cY_spec n
  constructor
  · intro h
    have := dY_mono h
    rw [dY_0] at this; lia
  · intro h
    refine Classical.byContradiction fun q => ?_
    have := @dY_mono (cY n + 1) 0 (by lia)
    rw [dY_0] at this; lia
theorem cY_le {n : Int} : cY n ≤ 9999 ↔ n < 3652425 := by
  obtain ⟨a, b⟩ := cY_spec n
  constructor
  · intro h
    have := @dY_mono (cY n + 1) 10000 (by lia)
    rw [dY_10000] at this; lia
  · intro h
    refine Classical.byContradiction fun q => ?_
    have := @dY_mono 10000 (cY n) (by lia)
    rw [dY_10000] at this; lia
theorem civ_10000 : cMo 3652425 = 1 := by
  have e : dFC 10000 1 1 = 3652425 := by unfold dFC; rw [dY_10000, dM_one]; rfl
  have := @cMo_dFC 10000 1 1 (by decide) (by decide) (by decide) (by decide)
  rw [e] at this; exact this
theorem due_valid {s : St} : (P1 s ∧ (s.se = 60 → Lp (cY (s.t / 1440)) (cMo (s.t / 1440)) (cD (s.t / 1440)) (s.t % 1440))) ↔ s.valid := by
  constructor
  · rintro ⟨⟨a1, a2, a3, a4, a5, a6, a7, a8⟩, hl⟩
    have pl : s.plain := ⟨a1, a2, a3, a4, a5, a7, a8⟩
    refine ⟨pl, ?_⟩
    by_cases h : s.se = 60
    · obtain ⟨l1, l2, l3⟩ := hl h
      refine .inr ⟨h, l2, ⟨cY_nonneg.mp l1, ?_⟩, l3⟩
      obtain ⟨g1, g2⟩ := plain_day pl
      have g3 := @dY_mono (s.y + 1) 10000 (by lia)
      rw [dY_10000] at g3
      refine Classical.byContradiction fun q => ?_
      have : s.t / 1440 = 3652425 := by lia
      rw [this, civ_10000] at l3
      lia
    · exact .inl ⟨a6.1, by lia⟩
  · rintro ⟨⟨a1, a2, a3, a4, a5, a7, a8⟩, h⟩
    refine ⟨⟨a1, a2, a3, a4, a5, by rcases h with h | h <;> lia, a7, a8⟩, fun hs => ?_⟩
    rcases h with h | ⟨_, l⟩
    · lia
    · exact ⟨cY_nonneg.mpr l.2.1.1, l.1, l.2.2⟩
end Mine

namespace Mine
open PySem

noncomputable abbrev refD : PyData := dS [114, 101, 102, 117, 115, 101, 100]

section
variable {N n : Nat}
theorem allR_true : ∀ {l : List (R PyData)}, (∀ x ∈ l, x = .ok (.bool true)) → allR l = .ok (.bool true)
  | [], _ => rfl
  | x :: l, h => by
    rw [h x List.mem_cons_self]
    show allR l = _
    exact allR_true fun y hy => h y (List.mem_cons_of_mem _ hy)
theorem feqs_refl : ∀ {l : List PyData}, l.all flat = true → feqs l l = true
  | [], _ => rfl
  | d :: l, h => by
    rw [List.all_cons, Bool.and_eq_true] at h
    rw [feqsE_cons, feqs_refl h.2, Bool.and_true]
    cases d with
    | int a => rw [feq_1, decide_eq_true rfl]
    | none => rfl
    | _ => cases h.1
end
end Mine

namespace Mine
open PySem

theorem digV_bad {a b : Nat} (h : digit b = false) : digV [a, b] < 0 := by
  unfold digV
  rw [if_neg (by rw [List.all_cons, List.all_cons, h]; simp)]; decide
theorem p20_none {y1 y2 y3 y4 a m1 m2 b d1 d2 x h1 h2 e i1 i2 f s1 s2 c : Nat} {r : List Nat} (h : (a ≠ 45 ∨ b ≠ 45) ∨ (x ≠ 84 ∧ x ≠ 116) ∨ (e ≠ 58 ∨ f ≠ 58) ∨ digit s2 = false) :
    parse20 y1 y2 y3 y4 a m1 m2 b d1 d2 x h1 h2 e i1 i2 f s1 s2 c r = none := by
  unfold parse20
  split
  · rfl
  · split
    · rfl
    · rename_i q
      split
      · rfl
      · split
        · rfl
        · split
          · rfl
          · rename_i n1 n2 n3
            rcases h with h | h | h | h
            · exact absurd h n1
            · exact absurd h n2
            · exact absurd h n3
            · exact absurd (.inr (.inr (digV_bad h))) q
theorem parse_at {t : List Nat} {i c : Nat} : t[i]? = some c → (((i = 4 ∨ i = 7) ∧ c ≠ 45) ∨ (i = 10 ∧ c ≠ 84 ∧ c ≠ 116) ∨ ((i = 13 ∨ i = 16) ∧ c ≠ 58) ∨ (i = 18 ∧ digit c = false)) → parseM t = none := by
  by_cases hs : t.length < 20
  · exact fun _ _ => parseM_short hs
  · refine twenty hs fun y1 y2 y3 y4 a m1 m2 b d1 d2 x h1 h2 e i1 i2 f s1 s2 c' r hi h => ?_
    change parse20 y1 y2 y3 y4 a m1 m2 b d1 d2 x h1 h2 e i1 i2 f s1 s2 c' r = none
    refine p20_none ?_
    rcases h with ⟨rfl | rfl, h⟩ | ⟨rfl, h⟩ | ⟨rfl | rfl, h⟩ | ⟨rfl, h⟩
    · rw [Option.some.inj (show some a = some c from hi)]; exact .inl (.inl h)
    · rw [Option.some.inj (show some b = some c from hi)]; exact .inl (.inr h)
    · rw [Option.some.inj (show some x = some c from hi)]; exact .inr (.inl h)
    · rw [Option.some.inj (show some e = some c from hi)]; exact .inr (.inr (.inl (.inl h)))
    · rw [Option.some.inj (show some f = some c from hi)]; exact .inr (.inr (.inl (.inr h)))
    · rw [Option.some.inj (show some s2 = some c from hi)]; exact .inr (.inr (.inr h))

theorem bound_in {i : Int} {n : Nat} (h0 : 0 ≤ i) (h1 : i ≤ n) : bound i n = i.toNat := by
  unfold bound; rw [if_neg (by lia)]; exact Nat.min_eq_left (by lia)
theorem cut_take {t : List Nat} {k : Nat} : cut t 0 k = t.take k := by unfold cut; rw [List.drop_zero]
theorem cut_drop' {t : List Nat} {k : Nat} : cut t k t.length = t.drop k := by unfold cut; rw [List.take_length]

structure Good (s : St) (sp : Int) (t : List Nat) : Prop where
  v : s.valid
  r : Rng2 s
  e : t = text2 s sp
theorem headG_len {s : St} (hv : s.valid) (x : Nat) : headG s.y s.mo s.d s.h s.mi s.se x = headL s x := by
  obtain ⟨a1, a2, a3, a4, a5, a6, a7⟩ := hv.1
  have hm := @mLen_bounds s.y s.mo
  have hse : 0 ≤ s.se ∧ s.se ≤ 99 := by rcases hv.2 with q | q <;> lia
  exact headG_eq a1 ⟨by lia, by lia⟩ ⟨by lia, by lia⟩ ⟨by lia, by lia⟩ ⟨by lia, by lia⟩ hse
theorem dg (v : Nat) : digit (48 + v % 10) = true := by unfold digit; rw [decide_eq_true (by lia), decide_eq_true (by lia)]; rfl
theorem dg_ne {v c : Nat} (h : c < 48 ∨ 57 < c) : 48 + v % 10 ≠ c := by lia
theorem tail_none {s : St} (hr : Rng2 s) {x : Nat} (hx : x = 84 ∨ x = 116) {w : List Nat} (hw : tailP s.y s.mo s.d s.h s.mi s.se w = none) : parseM (headG s.y s.mo s.d s.h s.mi s.se x ++ w) = none := by
  rw [parse_G hx hr.r, hw]; split <;> rfl
theorem tailP_zone {y mo d h mi se : Int} {f z : List Nat} {ns : Int} (hf : FracF f ns) (hz : ∃ c q, z = c :: q ∧ (c = 90 ∨ c = 122 ∨ c = 43 ∨ c = 45)) (hn : zoneM z = none) : tailP y mo d h mi se (f ++ z) = none := by
  obtain ⟨g1, g2, g3⟩ := headc hz
  rcases hf.shape with ⟨rfl, _⟩ | ⟨ds, rfl, hd, _, _⟩
  · obtain ⟨c, q, rfl, _⟩ := hz
    rw [List.nil_append, tailP, fracM_no g2]
    show tailM _ _ _ _ _ _ _ _ = none
    unfold tailM; rw [hn]
  · rw [List.cons_append, tailP, fracM_dot hd g1]
    split
    · rfl
    · rename_i e
      split at e
      · cases e
      · cases e
        unfold tailM; rw [hn]
end Mine

namespace Mine
open PySem

theorem cut_len {t : List Nat} {i j : Nat} : (cut t i j).length ≤ t.length := by
  unfold cut; rw [List.length_drop, List.length_take]; lia
section
variable {N n : Nat}
end
end Mine

namespace Mine
open PySem

noncomputable def mnOf (sc : Int) : Int := if 0 < (if sc / 60 < 1439 then sc / 60 else 1439) then (if sc / 60 < 1439 then sc / 60 else 1439) else 0
noncomputable def mvSt (d sc pa : Int) (tg : Option Int) : St :=
  ⟨cY (d + (mnOf sc + shift tg) / 1440), cMo (d + (mnOf sc + shift tg) / 1440), cD (d + (mnOf sc + shift tg) / 1440), (mnOf sc + shift tg) % 1440 / 60, (mnOf sc + shift tg) % 1440 % 60, sc - mnOf sc * 60, pa, tg⟩
theorem mv_eq {d sc pa : Int} {tg : Option Int} (h0 : 0 ≤ sc) (h1 : sc ≤ 86400) : mvSt d sc pa tg = instSt d sc pa tg ∧ mnOf sc = (if sc ≠ 86400 then sc / 60 else 1439) := by
  have e : mnOf sc = (if sc ≠ 86400 then sc / 60 else 1439) := by
    unfold mnOf; split <;> split <;> split <;> lia
  refine ⟨?_, e⟩
  have hse : sc - mnOf sc * 60 = if sc = 86400 then 60 else sc % 60 := by
    rw [e]; by_cases q : sc = 86400
    · rw [if_neg (fun z => z q), if_pos q]; lia
    · rw [if_pos q, if_neg q]; lia
  unfold mvSt instSt
  rw [hse]
  simp only
  rw [← e]
  generalize mnOf sc = mn
  have k1 : (d * 1440 + mn + shift tg) / 1440 = d + (mn + shift tg) / 1440 := by lia
  have k2 : (d * 1440 + mn + shift tg) % 1440 = (mn + shift tg) % 1440 := by lia
  rw [k1, k2]
theorem idxS {ns : List Int} {i : Nat} (h : i < ns.length) : index (.list (ns.map .int)) (.int i) = .ok (.int ns[i]) := by
  rw [index_2, decide_eq_true (by lia), cond_true]
  have e : idxAt (i : Int) (ns.map PyData.int).length = some i := by
    unfold idxAt; rw [if_pos (by lia), if_pos (by rw [List.length_map]; lia)]; rfl
  rw [e, R.ofOpt_some, R.bind_ok, List.getElem?_map, List.getElem?_eq_getElem h]; rfl
end Mine

namespace Mine
open PySem

end Mine

namespace Mine
open PySem
end Mine

namespace Mine
open PySem
section
variable {C : Calls} {N : Nat} {ρ : Env'}
end
structure Made2 (s : St) : Prop where
  y : 0 ≤ s.y ∧ s.y ≤ 9999
  mo : 1 ≤ s.mo ∧ s.mo ≤ 12
  d : 1 ≤ s.d ∧ s.d ≤ 32
  h : 0 ≤ s.h ∧ s.h ≤ 23
  mi : 0 ≤ s.mi ∧ s.mi ≤ 59
  se : 0 ≤ s.se ∧ s.se ≤ 60
  n : 0 ≤ s.ns ∧ s.ns ≤ 999999999
  o : -1439 ≤ shift s.off ∧ shift s.off ≤ 1439
theorem Made2.rng {s : St} (h : Made2 s) : Rng2 s := by
  obtain ⟨a1, a2, a3, a4, a5, a6, a7, a8⟩ := h
  exact ⟨⟨by lia, by lia, by lia, by lia, by lia, by lia⟩, by lia, by lia⟩
end Mine

namespace Mine
open PySem
noncomputable def l3_law_dates : Fn := ⟨0, 0, [
  (.ret (.lst [(.tup [(.cst (.int 0)), (.cst (.int 1)), (.cst (.int 1))]), (.tup [(.cst (.int 0)), (.cst (.int 1)), (.cst (.int 1))]), (.tup [(.cst (.int 9999)), (.cst (.int 12)), (.cst (.int 31))]), (.tup [(.cst (.int 96)), (.cst (.int 12)), (.cst (.int 31))]), (.tup [(.cst (.int 1904)), (.cst (.int 1)), (.cst (.int 1))]), (.tup [(.cst (.int 1900)), (.cst (.int 2)), (.cst (.int 29))]), (.tup [(.cst (.int 2000)), (.cst (.int 2)), (.cst (.int 29))]), (.tup [(.cst (.int 2016)), (.cst (.int 6)), (.cst (.int 30))]), (.tup [(.cst (.int 2015)), (.cst (.int 7)), (.cst (.int 1))]), (.tup [(.cst (.int 2001)), (.cst (.int 1)), (.cst (.int 1))]), (.tup [(.cst (.int 2024)), (.cst (.int 3)), (.cst (.int 1))]), (.tup [(.cst (.int 2023)), (.cst (.int 2)), (.cst (.int 28))])]))]⟩
noncomputable def l3_law_offsets : Fn := ⟨0, 0, [
  (.ret (.lst [(.cst (.int 0)), (.cst .none), (.cst (.int 1)), (.neg (.cst (.int 1))), (.cst (.int 330)), (.neg (.cst (.int 570))), (.cst (.int 1439)), (.neg (.cst (.int 1439))), (.cst (.int 1440)), (.neg (.cst (.int 1440)))]))]⟩
noncomputable def l3_law_bounds : Fn := ⟨0, 0, [
  (.ret (.lst [(.tup [(.cst (.int 0)), (.cst (.int 0)), (.cst (.int 9999))]), (.tup [(.cst (.int 1)), (.cst (.int 1)), (.cst (.int 12))]), (.tup [(.cst (.int 2)), (.cst (.int 1)), (.cst (.int 31))]), (.tup [(.cst (.int 3)), (.cst (.int 0)), (.cst (.int 23))]), (.tup [(.cst (.int 4)), (.cst (.int 0)), (.cst (.int 59))]), (.tup [(.cst (.int 5)), (.cst (.int 0)), (.cst (.int 60))]), (.tup [(.cst (.int 6)), (.cst (.int 0)), (.cst (.int 999999999))]), (.tup [(.cst (.int 7)), (.neg (.cst (.int 1439))), (.cst (.int 1439))])]))]⟩
noncomputable def l3_law_shift : Fn := ⟨1, 1, [
  (.ret (.ite (.isNone (.loc 0)) (.cst (.int 0)) (.loc 0)))]⟩
noncomputable def l3_law_length : Fn := ⟨2, 3, [
  (.asg 2 (.ite (.cmp .eq (.bin .mod (.loc 0) (.cst (.int 100))) (.cst (.int 0))) (.cst (.int 400)) (.cst (.int 4)))),
  (.ret (.ite (.and (.cmp .eq (.loc 1) (.cst (.int 2))) (.cmp .eq (.bin .mod (.loc 0) (.loc 2)) (.cst (.int 0)))) (.cst (.int 29)) (.idx (.tup [(.cst (.int 31)), (.cst (.int 28)), (.cst (.int 31)), (.cst (.int 30)), (.cst (.int 31)), (.cst (.int 30)), (.cst (.int 31)), (.cst (.int 31)), (.cst (.int 30)), (.cst (.int 31)), (.cst (.int 30)), (.cst (.int 31))]) (.bin .sub (.loc 1) (.cst (.int 1))))))]⟩
noncomputable def l3_law_step : Fn := ⟨2, 5, [
  (.asgT [2, 3, 4] (.loc 0)),
  (.ite (.cmp .lt (.bin .add (.loc 4) (.loc 1)) (.cst (.int 1))) [(.ret (.ite (.cmp .eq (.loc 3) (.cst (.int 1))) (.tup [(.bin .sub (.loc 2) (.cst (.int 1))), (.cst (.int 12)), (.cst (.int 31))]) (.tup [(.loc 2), (.bin .sub (.loc 3) (.cst (.int 1))), (.call 20 [(.loc 2), (.bin .sub (.loc 3) (.cst (.int 1)))])])))] []),
  (.ite (.cmp .gt (.bin .add (.loc 4) (.loc 1)) (.call 20 [(.loc 2), (.loc 3)])) [(.ret (.ite (.cmp .eq (.loc 3) (.cst (.int 12))) (.tup [(.bin .add (.loc 2) (.cst (.int 1))), (.cst (.int 1)), (.cst (.int 1))]) (.tup [(.loc 2), (.bin .add (.loc 3) (.cst (.int 1))), (.cst (.int 1))])))] []),
  (.ret (.tup [(.loc 2), (.loc 3), (.bin .add (.loc 4) (.loc 1))]))]⟩
noncomputable def l3_law_days : Fn := ⟨1, 3, [
  (.asgT [1, 2] (.ite (.cmp .lt (.idx (.loc 0) (.cst (.int 1))) (.cst (.int 3))) (.tup [(.bin .sub (.idx (.loc 0) (.cst (.int 0))) (.cst (.int 1))), (.bin .add (.idx (.loc 0) (.cst (.int 1))) (.cst (.int 12)))]) (.tup [(.idx (.loc 0) (.cst (.int 0))), (.idx (.loc 0) (.cst (.int 1)))]))),
  (.ret (.bin .add (.bin .add (.bin .add (.bin .add (.bin .sub (.bin .add (.bin .mul (.cst (.int 365)) (.loc 1)) (.bin .div (.loc 1) (.cst (.int 4)))) (.bin .div (.loc 1) (.cst (.int 100)))) (.bin .div (.loc 1) (.cst (.int 400)))) (.bin .div (.bin .sub (.bin .mul (.cst (.int 153)) (.loc 2)) (.cst (.int 457))) (.cst (.int 5)))) (.idx (.loc 0) (.cst (.int 2)))) (.cst (.int 59))))]⟩
noncomputable def l3_law_utc : Fn := ⟨1, 2, [
  (.asg 1 (.bin .sub (.bin .add (.bin .mul (.idx (.loc 0) (.cst (.int 3))) (.cst (.int 60))) (.idx (.loc 0) (.cst (.int 4)))) (.call 19 [(.idx (.loc 0) (.cst (.int 7)))]))),
  (.ret (.tup [(.call 21 [(.sliceTo (.loc 0) (.cst (.int 3))), (.bin .div (.loc 1) (.cst (.int 1440)))]), (.bin .mod (.loc 1) (.cst (.int 1440)))]))]⟩
noncomputable def l3_law_instant : Fn := ⟨1, 3, [
  (.asgT [1, 2] (.call 23 [(.loc 0)])),
  (.ret (.tup [(.call 22 [(.loc 1)]), (.bin .add (.bin .mul (.loc 2) (.cst (.int 60))) (.idx (.loc 0) (.cst (.int 5)))), (.idx (.loc 0) (.cst (.int 6)))]))]⟩
noncomputable def l3_law_valid : Fn := ⟨1, 4, [
  (.asg 1 (.bin .add (.sliceTo (.loc 0) (.cst (.int 7))) (.tup [(.call 19 [(.idx (.loc 0) (.cst (.int 7)))])]))),
  (.ite (.or (.anyZip (.or (.cmp .lt (.loc 0) (.idx (.loc 1) (.cst (.int 1)))) (.cmp .gt (.loc 0) (.idx (.loc 1) (.cst (.int 2))))) (.loc 1) (.call 18 [])) (.cmp .gt (.idx (.loc 0) (.cst (.int 2))) (.call 20 [(.idx (.loc 0) (.cst (.int 0))), (.idx (.loc 0) (.cst (.int 1)))]))) [(.ret (.cst (.bool false)))] []),
  (.ite (.cmp .lt (.idx (.loc 0) (.cst (.int 5))) (.cst (.int 60))) [(.ret (.cst (.bool true)))] []),
  (.asgT [2, 3] (.call 23 [(.loc 0)])),
  (.ite (.or (.cmp .lt (.idx (.loc 2) (.cst (.int 0))) (.cst (.int 0))) (.cmp .ne (.loc 3) (.cst (.int 1439)))) [(.ret (.cst (.bool false)))] []),
  (.ret (.cmp .isIn (.sliceFrom (.loc 2) (.cst (.int 1))) (.tup [(.tup [(.cst (.int 6)), (.cst (.int 30))]), (.tup [(.cst (.int 12)), (.cst (.int 31))])])))]⟩
noncomputable def l3_law_pad : Fn := ⟨2, 2, [
  (.ret (.bin .add (.bin .mul (.cst (.str (PySem.Str.mk #[48]))) (.bin .sub (.loc 1) (.b1 .len (.b1 .str (.loc 0))))) (.b1 .str (.loc 0))))]⟩
noncomputable def l3_law_text : Fn := ⟨4, 10, [
  (.asg 4 (.call 26 [(.idx (.loc 0) (.cst (.int 6))), (.cst (.int 9))])),
  (.asg 5 (.sliceTo (.loc 4) (.b2 .max (.b1 .len (.rstrip (.loc 4) (.cst (.str (PySem.Str.mk #[48]))))) (.loc 3)))),
  (.asg 6 (.call 26 [(.idx (.loc 0) (.cst (.int 0))), (.cst (.int 4))])),
  (.forZip 7 8 6 (.bin .add (.bin .add (.cst (.str (PySem.Str.mk #[45, 45]))) (.loc 1)) (.cst (.str (PySem.Str.mk #[58, 58])))) (.slice (.loc 0) (.cst (.int 1)) (.cst (.int 6))) (.bin .add (.bin .add (.loc 6) (.loc 7)) (.call 26 [(.loc 8), (.cst (.int 2))]))),
  (.asg 6 (.bin .add (.loc 6) (.ite (.cmp .ne (.loc 5) (.cst (.str (PySem.Str.mk #[])))) (.bin .add (.cst (.str (PySem.Str.mk #[46]))) (.loc 5)) (.cst (.str (PySem.Str.mk #[])))))),
  (.ite (.cmp .eq (.call 19 [(.idx (.loc 0) (.cst (.int 7)))]) (.cst (.int 0))) [(.ret (.bin .add (.loc 6) (.ite (.isNone (.idx (.loc 0) (.cst (.int 7)))) (.cst (.str (PySem.Str.mk #[45, 48, 48, 58, 48, 48]))) (.loc 2))))] []),
  (.asg 9 (.ite (.cmp .lt (.idx (.loc 0) (.cst (.int 7))) (.cst (.int 0))) (.cst (.str (PySem.Str.mk #[45]))) (.cst (.str (PySem.Str.mk #[43]))))),
  (.ret (.bin .add (.bin .add (.bin .add (.bin .add (.loc 6) (.loc 9)) (.call 26 [(.bin .div (.b1 .abs (.idx (.loc 0) (.cst (.int 7)))) (.cst (.int 60))), (.cst (.int 2))])) (.cst (.str (PySem.Str.mk #[58])))) (.call 26 [(.bin .mod (.b1 .abs (.idx (.loc 0) (.cst (.int 7)))) (.cst (.int 60))), (.cst (.int 2))])))]⟩
noncomputable def l3_law_harm : Fn := ⟨3, 6, [
  (.asgT [3, 4, 5] (.tup [(.bin .mod (.loc 2) (.b1 .len (.loc 0))), (.bin .mod (.loc 2) (.cst (.int 20))), (.idx (.tup [(.cst (.int 4)), (.cst (.int 7)), (.cst (.int 10)), (.cst (.int 13)), (.cst (.int 16))]) (.bin .mod (.loc 2) (.cst (.int 5))))])),
  (.ret (.idx (.tup [(.bin .add (.bin .add (.sliceTo (.loc 0) (.loc 3)) (.cst (.str (PySem.Str.mk #[1635])))) (.sliceFrom (.loc 0) (.bin .add (.loc 3) (.cst (.int 1))))), (.bin .add (.bin .add (.sliceTo (.loc 0) (.loc 5)) (.cst (.str (PySem.Str.mk #[120])))) (.sliceFrom (.loc 0) (.bin .add (.loc 5) (.cst (.int 1))))), (.bin .add (.sliceTo (.loc 0) (.loc 4)) (.sliceFrom (.loc 0) (.bin .add (.loc 4) (.cst (.int 1))))), (.bin .add (.bin .add (.sliceTo (.loc 0) (.loc 4)) (.cst (.str (PySem.Str.mk #[48])))) (.sliceFrom (.loc 0) (.loc 4))), (.bin .add (.bin .add (.sliceTo (.loc 0) (.neg (.cst (.int 3)))) (.cst (.str (PySem.Str.mk #[120])))) (.sliceFrom (.loc 0) (.neg (.cst (.int 2))))), (.bin .add (.sliceTo (.loc 0) (.neg (.cst (.int 2)))) (.cst (.str (PySem.Str.mk #[54, 48])))), (.sliceTo (.loc 0) (.neg (.cst (.int 1)))), (.bin .add (.loc 0) (.cst (.str (PySem.Str.mk #[48])))), (.sliceTo (.loc 0) (.cst (.int 19))), (.bin .add (.sliceTo (.loc 0) (.cst (.int 19))) (.cst (.str (PySem.Str.mk #[46, 53])))), (.bin .add (.sliceTo (.loc 0) (.cst (.int 19))) (.cst (.str (PySem.Str.mk #[46, 90])))), (.bin .add (.sliceTo (.loc 0) (.cst (.int 19))) (.cst (.str (PySem.Str.mk #[46, 48, 49, 50, 51, 52, 53, 54, 55, 56, 57, 90]))))]) (.loc 1)))]⟩
noncomputable def l3_law_read : Fn := ⟨1, 2, [
  (.tryAsg 1 (.call 10 [(.loc 0)]) 1 (.tup [])),
  (.ret (.loc 1))]⟩
noncomputable def l3_law_move : Fn := ⟨2, 3, [
  (.tryAsg 2 (.call 14 [(.loc 0), (.loc 1)]) 2 (.tup [])),
  (.ret (.loc 2))]⟩
noncomputable def l3_law_same : Fn := ⟨2, 2, [
  (.ite (.cmp .ne (.loc 0) (.loc 1)) [(.ret (.cst (.bool false)))] []),
  (.ret (.all (.or (.isNone (.loc 0)) (.typeIs (.loc 0) .int)) (.loc 0)))]⟩
noncomputable def l3_law_moved : Fn := ⟨4, 7, [
  (.asg 4 (.b2 .min (.bin .div (.loc 1) (.cst (.int 60))) (.cst (.int 1439)))),
  (.asg 5 (.bin .add (.loc 4) (.call 19 [(.loc 3)]))),
  (.asg 6 (.bin .add (.call 21 [(.loc 0), (.bin .div (.loc 5) (.cst (.int 1440)))]) (.tup [(.bin .div (.bin .mod (.loc 5) (.cst (.int 1440))) (.cst (.int 60))), (.bin .mod (.loc 5) (.cst (.int 60))), (.bin .sub (.loc 1) (.bin .mul (.loc 4) (.cst (.int 60)))), (.loc 2), (.loc 3)]))),
  (.ret (.ite (.and (.cmp .ge (.loc 1) (.cst (.int 0))) (.call 25 [(.loc 6)])) (.loc 6) (.tup [])))]⟩
noncomputable def l3_law_asked : Fn := ⟨1, 6, [
  (.asg 1 (.call 25 [(.loc 0)])),
  (.asg 2 (.call 8 [(.loc 0)])),
  (.tryAsg 3 (.call 12 [(.loc 0)]) 3 (.cst (.str (PySem.Str.mk #[114, 101, 102, 117, 115, 101, 100])))),
  (.asg 4 (.ite (.loc 1) (.call 27 [(.loc 0), (.cst (.str (PySem.Str.mk #[84]))), (.cst (.str (PySem.Str.mk #[90]))), (.cst (.int 0))]) (.cst (.str (PySem.Str.mk #[114, 101, 102, 117, 115, 101, 100]))))),
  (.ite (.or (.cmp .ne (.loc 2) (.loc 1)) (.or (.not (.typeIs (.loc 2) .bool)) (.cmp .ne (.loc 3) (.loc 4)))) [(.ret (.cst (.bool false)))] []),
  (.ite (.loc 1) [(.asg 5 (.call 24 [(.loc 0)])), (.ite (.or (.not (.call 31 [(.call 13 [(.loc 0)]), (.loc 5)])) (.not (.call 31 [(.call 30 [(.loc 5), (.idx (.loc 0) (.cst (.int 7)))]), (.loc 0)]))) [(.ret (.cst (.bool false)))] []), (.ite (.not (.call 31 [(.call 29 [(.loc 3)]), (.loc 0)])) [(.ret (.cst (.bool false)))] [])] []),
  (.ret (.cst (.bool true)))]⟩
noncomputable def l3_law : Fn := ⟨1, 29, [
  (.ite (.cmp .lt (.b1 .len (.loc 0)) (.cst (.int 22))) [(.ret (.cst (.bool true)))] []),
  (.asg 1 (.idx (.call 17 []) (.bin .mod (.idx (.loc 0) (.cst (.int 4))) (.cst (.int 8))))),
  (.asg 2 (.idx (.call 16 []) (.bin .mod (.idx (.loc 0) (.cst (.int 0))) (.cst (.int 12))))),
  (.asgT [3, 4] (.tup [(.bin .add (.cst (.int 1)) (.bin .mod (.idx (.loc 0) (.cst (.int 2))) (.cst (.int 12)))), (.idx (.tup [(.cst (.int 1)), (.cst (.int 15)), (.cst (.int 28)), (.cst (.int 29)), (.cst (.int 30)), (.cst (.int 31)), (.cst (.int 32)), (.cst (.int 0))]) (.bin .mod (.idx (.loc 0) (.cst (.int 3))) (.cst (.int 8))))])),
  (.asg 5 (.idx (.tup [(.loc 2), (.tup [(.idx (.loc 2) (.cst (.int 0))), (.loc 3), (.loc 4)]), (.tup [(.bin .mod (.idx (.loc 0) (.cst (.int 0))) (.cst (.int 10000))), (.loc 3), (.loc 4)])]) (.bin .mod (.idx (.loc 0) (.cst (.int 1))) (.cst (.int 3))))),
  (.asg 6 (.idx (.tup [(.bin .mod (.bin .add (.cst (.int 1439)) (.call 19 [(.loc 1)])) (.cst (.int 1440))), (.cst (.int 0)), (.bin .mod (.idx (.loc 0) (.cst (.int 5))) (.cst (.int 1440)))]) (.bin .mod (.idx (.loc 0) (.cst (.int 5))) (.cst (.int 3))))),
  (.asg 7 (.idx (.tup [(.cst (.int 0)), (.cst (.int 120000000)), (.bin .mod (.idx (.loc 0) (.cst (.int 7))) (.cst (.int 1000000000)))]) (.bin .mod (.idx (.loc 0) (.cst (.int 7))) (.cst (.int 3))))),
  (.asg 8 (.bin .add (.loc 5) (.tup [(.bin .div (.loc 6) (.cst (.int 60))), (.bin .mod (.loc 6) (.cst (.int 60))), (.idx (.tup [(.cst (.int 0)), (.cst (.int 59)), (.cst (.int 60)), (.cst (.int 42))]) (.bin .mod (.idx (.loc 0) (.cst (.int 6))) (.cst (.int 4)))), (.loc 7), (.loc 1)]))),
  (.asgT [9, 10, 11] (.idx (.call 18 []) (.bin .mod (.idx (.loc 0) (.cst (.int 8))) (.cst (.int 8))))),
  (.asg 12 (.idx (.tup [(.idx (.loc 8) (.loc 9)), (.idx (.loc 8) (.loc 9)), (.idx (.loc 8) (.loc 9)), (.idx (.loc 8) (.loc 9)), (.bin .sub (.loc 10) (.cst (.int 1))), (.loc 10), (.loc 11), (.bin .add (.loc 11) (.cst (.int 1)))]) (.bin .mod (.idx (.loc 0) (.cst (.int 9))) (.cst (.int 8))))),
  (.asg 8 (.bin .add (.bin .add (.sliceTo (.loc 8) (.loc 9)) (.tup [(.loc 12)])) (.sliceFrom (.loc 8) (.bin .add (.loc 9) (.cst (.int 1)))))),
  (.asg 13 (.ite (.call 25 [(.loc 8)]) (.loc 8) (.tup []))),
  (.asg 14 (.ite (.cmp .ne (.loc 13) (.tup [])) (.bin .mod (.idx (.loc 0) (.cst (.int 10))) (.cst (.int 10))) (.cst (.int 10)))),
  (.asg 15 (.call 27 [(.loc 8), (.idx (.cst (.str (PySem.Str.mk #[84, 116]))) (.bin .mod (.idx (.loc 0) (.cst (.int 10))) (.cst (.int 2)))), (.idx (.tup [(.cst (.str (PySem.Str.mk #[90]))), (.cst (.str (PySem.Str.mk #[122]))), (.cst (.str (PySem.Str.mk #[43, 48, 48, 58, 48, 48])))]) (.bin .mod (.idx (.loc 0) (.cst (.int 10))) (.cst (.int 3)))), (.loc 14)])),
  (.ite (.and (.cmp .ne (.loc 13) (.tup [])) (.cmp .eq (.bin .mod (.idx (.loc 0) (.cst (.int 11))) (.cst (.int 3))) (.cst (.int 1)))) [(.asgT [15, 13] (.tup [(.call 28 [(.loc 15), (.bin .mod (.idx (.loc 0) (.cst (.int 12))) (.cst (.int 12))), (.idx (.loc 0) (.cst (.int 13)))]), (.tup [])]))] []),
  (.asg 16 (.call 29 [(.loc 15)])),
  (.ite (.or (.not (.call 33 [(.loc 8)])) (.not (.call 31 [(.loc 16), (.loc 13)]))) [(.ret (.cst (.bool false)))] []),
  (.asg 17 (.ite (.cmp .ne (.loc 13) (.tup [])) (.loc 16) (.tup [(.cst (.int 2016)), (.cst (.int 12)), (.cst (.int 31)), (.cst (.int 23)), (.cst (.int 59)), (.cst (.int 60)), (.cst (.int 500000000)), (.cst .none)]))),
  (.forTup [18, 19, 20, 21] (.tup [(.tup [(.idx (.loc 0) (.cst (.int 14))), (.idx (.loc 0) (.cst (.int 15))), (.idx (.loc 0) (.cst (.int 16))), (.idx (.loc 0) (.cst (.int 17)))]), (.tup [(.idx (.loc 0) (.cst (.int 18))), (.idx (.loc 0) (.cst (.int 19))), (.idx (.loc 0) (.cst (.int 20))), (.idx (.loc 0) (.cst (.int 21)))])]) [(.asg 22 (.call 24 [(.loc 17)])), (.asg 23 (.call 21 [(.idx (.call 23 [(.loc 17)]) (.cst (.int 0))), (.idx (.tup [(.cst (.int 0)), (.cst (.int 0)), (.cst (.int 1)), (.neg (.cst (.int 1)))]) (.bin .mod (.loc 18) (.cst (.int 4))))])), (.asg 24 (.idx (.tup [(.idx (.loc 22) (.cst (.int 1))), (.idx (.loc 22) (.cst (.int 1))), (.cst (.int 0)), (.cst (.int 86399)), (.cst (.int 86400)), (.cst (.int 86401)), (.neg (.cst (.int 1)))]) (.bin .mod (.loc 19) (.cst (.int 7))))), (.asg 25 (.tup [(.call 22 [(.loc 23)]), (.loc 24), (.idx (.tup [(.loc 20), (.idx (.loc 22) (.cst (.int 2))), (.idx (.loc 22) (.cst (.int 2)))]) (.bin .mod (.loc 20) (.cst (.int 3))))])), (.asg 1 (.idx (.call 17 []) (.bin .mod (.loc 21) (.cst (.int 10))))), (.asg 13 (.call 32 [(.loc 23), (.loc 24), (.idx (.loc 25) (.cst (.int 2))), (.loc 1)])), (.asg 16 (.call 30 [(.loc 25), (.loc 1)])), (.ite (.not (.call 31 [(.loc 16), (.loc 13)])) [(.ret (.cst (.bool false)))] []), (.asgT [26, 17] (.tup [(.loc 17), (.ite (.cmp .ne (.loc 13) (.tup [])) (.loc 16) (.loc 17))])), (.asg 27 (.call 24 [(.loc 17)])), (.asg 28 (.ite (.cmp .eq (.loc 22) (.loc 27)) (.cst (.int 0)) (.ite (.cmp .lt (.loc 22) (.loc 27)) (.neg (.cst (.int 1))) (.cst (.int 1))))), (.ite (.or (.not (.call 33 [(.loc 17)])) (.not (.call 31 [(.tup [(.call 15 [(.loc 26), (.loc 17)])]), (.tup [(.loc 28)])]))) [(.ret (.cst (.bool false)))] [])]),
  (.ret (.cst (.bool true)))]⟩
noncomputable def l3_T : List Fn := [p_is_long, p_days_ahead_of_year, p_days_ahead_of_month, p_days_from_civil, p_civil_from_days, p_instant, p_is_leap, p_month_length, p_is_valid, p_digits, p_parse, p_pad, p_format_stamp, p_to_instant, p_from_instant, p_compare, l3_law_dates, l3_law_offsets, l3_law_bounds, l3_law_shift, l3_law_length, l3_law_step, l3_law_days, l3_law_utc, l3_law_instant, l3_law_valid, l3_law_pad, l3_law_text, l3_law_harm, l3_law_read, l3_law_move, l3_law_same, l3_law_moved, l3_law_asked, l3_law]
noncomputable def l3_fns : List PySem.Str := [("_is_long" : PySem.Str), ("_days_ahead_of_year" : PySem.Str), ("_days_ahead_of_month" : PySem.Str), ("days_from_civil" : PySem.Str), ("civil_from_days" : PySem.Str), ("_instant" : PySem.Str), ("_is_leap" : PySem.Str), ("_month_length" : PySem.Str), ("is_valid" : PySem.Str), ("_digits" : PySem.Str), ("parse" : PySem.Str), ("_pad" : PySem.Str), ("format_stamp" : PySem.Str), ("to_instant" : PySem.Str), ("from_instant" : PySem.Str), ("compare" : PySem.Str), ("_law_dates" : PySem.Str), ("_law_offsets" : PySem.Str), ("_law_bounds" : PySem.Str), ("_law_shift" : PySem.Str), ("_law_length" : PySem.Str), ("_law_step" : PySem.Str), ("_law_days" : PySem.Str), ("_law_utc" : PySem.Str), ("_law_instant" : PySem.Str), ("_law_valid" : PySem.Str), ("_law_pad" : PySem.Str), ("_law_text" : PySem.Str), ("_law_harm" : PySem.Str), ("_law_read" : PySem.Str), ("_law_move" : PySem.Str), ("_law_same" : PySem.Str), ("_law_moved" : PySem.Str), ("_law_asked" : PySem.Str), ("law" : PySem.Str)]
noncomputable def l3_nss : List (List PySem.Str) := [[("year" : PySem.Str)],
  [("year" : PySem.Str)],
  [("year" : PySem.Str), ("month" : PySem.Str)],
  [("year" : PySem.Str), ("month" : PySem.Str), ("day" : PySem.Str)],
  [("days" : PySem.Str), ("year" : PySem.Str), ("rest" : PySem.Str), ("month" : PySem.Str)],
  [("stamp" : PySem.Str), ("offset" : PySem.Str), ("days" : PySem.Str), ("t" : PySem.Str)],
  [("year" : PySem.Str)],
  [("year" : PySem.Str), ("month" : PySem.Str), ("lengths" : PySem.Str)],
  [("stamp" : PySem.Str), ("y" : PySem.Str), ("mo" : PySem.Str), ("d" : PySem.Str), ("h" : PySem.Str), ("mi" : PySem.Str), ("se" : PySem.Str), ("ns" : PySem.Str), ("off" : PySem.Str), ("inst" : PySem.Str), ("day" : PySem.Str), ("sec" : PySem.Str), ("date" : PySem.Str)],
  [("text" : PySem.Str), ("start" : PySem.Str), ("end" : PySem.Str), ("value" : PySem.Str), ("k" : PySem.Str), ("c" : PySem.Str)],
  [("text" : PySem.Str), ("n" : PySem.Str), ("year" : PySem.Str), ("month" : PySem.Str), ("day" : PySem.Str), ("hour" : PySem.Str), ("minute" : PySem.Str), ("second" : PySem.Str), ("pos" : PySem.Str), ("nanos" : PySem.Str), ("j" : PySem.Str), ("count" : PySem.Str), ("k" : PySem.Str), ("c" : PySem.Str), ("offset" : PySem.Str), ("oh" : PySem.Str), ("om" : PySem.Str), ("stamp" : PySem.Str)],
  [("value" : PySem.Str), ("width" : PySem.Str), ("s" : PySem.Str)],
  [("stamp" : PySem.Str), ("text" : PySem.Str), ("nanos" : PySem.Str), ("frac" : PySem.Str), ("end" : PySem.Str), ("offset" : PySem.Str), ("sign" : PySem.Str), ("size" : PySem.Str)],
  [("stamp" : PySem.Str)],
  [("instant" : PySem.Str), ("offset" : PySem.Str), ("d" : PySem.Str), ("s" : PySem.Str), ("n" : PySem.Str), ("minute_of_day" : PySem.Str), ("shift" : PySem.Str), ("t" : PySem.Str), ("second" : PySem.Str), ("date" : PySem.Str), ("rest" : PySem.Str), ("result" : PySem.Str)],
  [("a" : PySem.Str), ("b" : PySem.Str), ("x" : PySem.Str), ("y" : PySem.Str)],
  ([] : List PySem.Str),
  ([] : List PySem.Str),
  ([] : List PySem.Str),
  [("off" : PySem.Str)],
  [("y" : PySem.Str), ("mo" : PySem.Str), ("cycle" : PySem.Str)],
  [("date" : PySem.Str), ("k" : PySem.Str), ("y" : PySem.Str), ("mo" : PySem.Str), ("d" : PySem.Str)],
  [("date" : PySem.Str), ("y" : PySem.Str), ("mo" : PySem.Str)],
  [("st" : PySem.Str), ("t" : PySem.Str)],
  [("st" : PySem.Str), ("date" : PySem.Str), ("minute" : PySem.Str)],
  [("st" : PySem.Str), ("flat" : PySem.Str), ("date" : PySem.Str), ("minute" : PySem.Str)],
  [("x" : PySem.Str), ("n" : PySem.Str)],
  [("st" : PySem.Str), ("tee" : PySem.Str), ("zed" : PySem.Str), ("least" : PySem.Str), ("nine" : PySem.Str), ("frac" : PySem.Str), ("text" : PySem.Str), ("mark" : PySem.Str), ("x" : PySem.Str), ("sign" : PySem.Str)],
  [("text" : PySem.Str), ("kind" : PySem.Str), ("p" : PySem.Str), ("at" : PySem.Str), ("near" : PySem.Str), ("mark" : PySem.Str)],
  [("text" : PySem.Str), ("got" : PySem.Str)],
  [("instant" : PySem.Str), ("off" : PySem.Str), ("got" : PySem.Str)],
  [("got" : PySem.Str), ("want" : PySem.Str)],
  [("utc" : PySem.Str), ("sec" : PySem.Str), ("ns" : PySem.Str), ("off" : PySem.Str), ("minute" : PySem.Str), ("t" : PySem.Str), ("st" : PySem.Str)],
  [("st" : PySem.Str), ("due" : PySem.Str), ("told" : PySem.Str), ("text" : PySem.Str), ("want" : PySem.Str), ("now" : PySem.Str)],
  [("script" : PySem.Str), ("off" : PySem.Str), ("base" : PySem.Str), ("mo" : PySem.Str), ("d" : PySem.Str), ("date" : PySem.Str), ("minute" : PySem.Str), ("nanos" : PySem.Str), ("draft" : PySem.Str), ("i" : PySem.Str), ("lo" : PySem.Str), ("hi" : PySem.Str), ("value" : PySem.Str), ("want" : PySem.Str), ("least" : PySem.Str), ("text" : PySem.Str), ("got" : PySem.Str), ("clock" : PySem.Str), ("day" : PySem.Str), ("tick" : PySem.Str), ("n" : PySem.Str), ("k" : PySem.Str), ("old" : PySem.Str), ("utc" : PySem.Str), ("sec" : PySem.Str), ("new" : PySem.Str), ("last" : PySem.Str), ("now" : PySem.Str), ("sign" : PySem.Str)]]
noncomputable def l3_gl : List (PySem.Str × PySem.PyData) := [(("_AHEAD" : PySem.Str), (.list [(.int 0), (.int 31), (.int 59), (.int 90), (.int 120), (.int 151), (.int 181), (.int 212), (.int 243), (.int 273), (.int 304), (.int 334)]))]
end Mine

namespace Mine
open PySem

theorem isT3 : IsT l3_T := ⟨fun k f h => by
  match k, h with
  | 0, h | 1, h | 2, h | 3, h | 4, h | 5, h | 6, h | 7, h | 8, h | 9, h | 10, h | 11, h | 12, h | 13, h | 14, h => exact h
  | n + 15, h => cases h⟩

section
variable {C : Calls} {N : Nat} {ρ ρ' : Env'} {r : List PS} {w : R PyData}
end

section
variable {N n : Nat}
theorem r3_shift (hn : 1 ≤ n) (off : Option Int) : run l3_T N n 19 [offD off] = .ok (.int (shift off)) := by
  obtain ⟨k, rfl⟩ := Nat.exists_eq_add_of_le' hn
  rw [run_at (show l3_T[19]? = some l3_law_shift from rfl) rfl]
  cases off <;> rfl

theorem r3_pad (hn : 1 ≤ n) (v : Int) (w : Nat) (h0 : -100000 ≤ v) (h1 : v ≤ 9999999999) (hw : w ≤ 9) (b : Int) (hb : b = (w : Int)) : run l3_T N n 26 [.int v, .int b] = .ok (dS (padL v w)) := by
  subst hb
  obtain ⟨k, rfl⟩ := Nat.exists_eq_add_of_le' hn
  rw [run_at (show l3_T[26]? = some l3_law_pad from rfl) rfl]
  obtain ⟨l1, l2⟩ := itoa_small h0 h1
  have g1 : (-1000 : Int) ≤ (w : Int) - ((itoa v).length : Int) := by lia
  have g2 : (w : Int) - ((itoa v).length : Int) ≤ 1000 := by lia
  have e : ((w : Int) - ((itoa v).length : Int)).toNat = w - (itoa v).length := by lia
  have es : ev (run l3_T N k) (.b1 .str (.loc 0)) [some (.int v), some (.int (w : Int))] = .ok (dS (itoa v)) := by
    show app1 .str (.int v) = _
    rw [app1_4, l2]; rfl
  have el : ev (run l3_T N k) (.bin .mul (.cst (.str (PySem.Str.mk #[48]))) (.bin .sub (.loc 1) (.b1 .len (.b1 .str (.loc 0))))) [some (.int v), some (.int (w : Int))] = .ok (dS (List.replicate (w - (itoa v).length) 48)) := by
    have e2 : ev (run l3_T N k) (.b1 .len (.b1 .str (.loc 0))) [some (.int v), some (.int (w : Int))] = .ok (.int ((itoa v).length : Nat)) := by
      rw [evE_b1, es]; rfl
    refine (ev_bin (x := dS [48]) rfl ((ev_bin (x := .int (w : Int)) rfl e2).trans rfl)).trans ?_
    show R.when (true && decide _ && decide _) (dS (List.replicate _ [48]).flatten) = _
    rw [decide_eq_true g1, decide_eq_true g2, e, rep_flat]; rfl
  exact retO_ (ev_add el es (by rw [List.length_replicate]; lia))

theorem r3_length (hn : 1 ≤ n) {y m : Int} (h1 : 1 ≤ m) (h2 : m ≤ 12) : run l3_T N n 20 [.int y, .int m] = .ok (.int (mLen y m)) := by
  obtain ⟨k, rfl⟩ := Nat.exists_eq_add_of_le' hn
  rw [run_at (show l3_T[20]? = some l3_law_length from rfl) rfl]
  have hc : ∃ c : Int, 0 < c ∧ (if y % 100 = 0 then PyData.int 400 else .int 4) = .int c ∧ (y % c = 0 ↔ leapB y = true) := by
    rw [leapB_iff]
    by_cases q : y % 100 = 0
    · exact ⟨400, by decide, if_pos q, ⟨fun z => ⟨of100 q, .inr z⟩, fun z => z.2.elim (absurd q) id⟩⟩
    · exact ⟨4, by decide, if_neg q, ⟨fun z => ⟨z, .inl q⟩, fun z => z.1⟩⟩
  obtain ⟨c, c0, ce, cl⟩ := hc
  refine asg_ (ρ' := [some (.int y), some (.int m), some (.int c)]) (d := .int c) (by rw [← ce]; exact ev_iteP (P := y % 100 = 0) rfl (fun _ => rfl) (fun _ => rfl)) rfl ?_
  have key : index (.tuple [.int 31, .int 28, .int 31, .int 30, .int 31, .int 30, .int 31, .int 31, .int 30, .int 31, .int 30, .int 31]) (.int (m - 1)) = .ok (.int (if m = 2 then 28 else mLen y m)) := by
    rcases twelve h1 h2 with rfl | rfl | rfl | rfl | rfl | rfl | rfl | rfl | rfl | rfl | rfl | rfl <;> rfl
  refine (retO_ (ev_iteP (P := m = 2 ∧ y % c = 0) (ev_and (Q := y % c = 0) rfl fun _ => ?_) (fun _ => rfl) (fun _ => (ev_ix (y := .int (m - 1)) rfl rfl).trans key))).trans (congrArg R.ok ?_)
  · refine (ev_cmp (x := .int (y % c)) (y := .int 0) ?_ rfl).trans rfl
    show R.when (decide (0 < c)) (PyData.int (y % c)) = _
    rw [decide_eq_true c0]; rfl
  · by_cases hm : m = 2
    · have em : mLen y m = if leapB y = true then 29 else 28 := if_pos hm
      rw [em, if_pos hm]
      by_cases hl : leapB y = true
      · rw [if_pos ⟨hm, cl.mpr hl⟩, if_pos hl]
      · rw [if_neg fun z => hl (cl.mp z.2), if_neg hl]
    · rw [if_neg fun z => hm z.1, if_neg hm]

noncomputable def stepD (y m d k : Int) : PyData :=
  if d + k < 1 then (if m = 1 then dateD (y - 1) 12 31 else dateD y (m - 1) (mLen y (m - 1)))
  else if mLen y m < d + k then (if m = 12 then dateD (y + 1) 1 1 else dateD y (m + 1) 1) else dateD y m (d + k)
theorem stepD_is (y m d k : Int) : ∃ a b c, stepD y m d k = dateD a b c := by
  unfold stepD
  split
  · split <;> exact ⟨_, _, _, rfl⟩
  · split
    · split <;> exact ⟨_, _, _, rfl⟩
    · exact ⟨_, _, _, rfl⟩
theorem r3_step (hn : 2 ≤ n) {y m : Int} (h1 : 1 ≤ m) (h2 : m ≤ 12) (d k : Int) : run l3_T N n 21 [dateD y m d, .int k] = .ok (stepD y m d k) := by
  obtain ⟨p, rfl⟩ := Nat.exists_eq_add_of_le' hn
  rw [run_at (show l3_T[21]? = some l3_law_step from rfl) rfl]
  have hl := fun {y m : Int} => @r3_length N (p + 1) (Nat.le_add_left 1 p) y m
  refine asgT_ (ρ' := [some (dateD y m d), some (.int k), some (.int y), some (.int m), some (.int d)]) (l := [.int y, .int m, .int d]) rfl rfl ?_
  unfold stepD
  refine if_ (P := d + k < 1) rfl (fun q => ?_) (fun q => ?_)
  · rw [if_pos q]
    refine retO_ (ev_iteP (P := m = 1) rfl (fun _ => rfl) (fun z => ?_))
    exact ev_tup3 rfl rfl (ev_call2 (x := .int y) (y := .int (m - 1)) rfl rfl (hl (by lia) (by lia)))
  · rw [if_neg q]
    refine if_ (P := mLen y m < d + k) ?_ (fun z => ?_) (fun z => ?_)
    · exact (ev_cmp (x := .int (d + k)) (y := .int (mLen y m)) rfl (ev_call2 (x := .int y) (y := .int m) rfl rfl (hl h1 h2))).trans rfl
    · rw [if_pos z]
      exact retO_ (ev_iteP (P := m = 12) rfl (fun _ => rfl) (fun _ => rfl))
    · rw [if_neg z]
      exact retO_ rfl
noncomputable abbrev civD (q : Int) : PyData := dateD (cY q) (cMo q) (cD q)
theorem civ_of {y m d q : Int} (a : 1 ≤ m) (b : m ≤ 12) (c : 1 ≤ d) (e : d ≤ mLen y m) (f : dFC y m d = q) : dateD y m d = civD q := by
  rw [← f, civD, cY_dFC a b c e, cMo_dFC a b c e, cD_dFC a b c e]
theorem step_ok {y m d k : Int} (h1 : 1 ≤ m) (h2 : m ≤ 12) (h3 : 1 ≤ d) (h4 : d ≤ mLen y m) (k0 : -1 ≤ k) (k1 : k ≤ 1) : stepD y m d k = civD (dFC y m d + k) := by
  unfold stepD
  by_cases g1 : d + k < 1
  · rw [if_pos g1]
    have hd : d = 1 := by lia
    have hk : k = -1 := by lia
    subst hd hk
    by_cases hm : m = 1
    · subst hm
      rw [if_pos rfl]
      refine civ_of (by decide) (by decide) (by decide) (Int.le_of_eq rfl) ?_
      rw [dFC_1231 (y - 1), show y - 1 + 1 = y by lia]
      unfold dFC; rw [dM_one]; lia
    · rw [if_neg hm]
      have hb := @mLen_bounds y (m - 1)
      refine civ_of (by lia) (by lia) (by lia) (Int.le_refl _) ?_
      have hx := @dM_next y (m - 1) (by lia) (by lia)
      rw [show m - 1 + 1 = m by lia] at hx
      unfold dFC; lia
  · rw [if_neg g1]
    by_cases g2 : mLen y m < d + k
    · rw [if_pos g2]
      have hd : d = mLen y m := by lia
      have hk : k = 1 := by lia
      subst hk
      by_cases hm : m = 12
      · subst hm
        rw [if_pos rfl]
        refine civ_of (by decide) (by decide) (by decide) (by have := (@mLen_bounds (y + 1) 1).1; lia) ?_
        have e3 : mLen y 12 = 31 := rfl
        rw [hd, e3, dFC_1231]
        unfold dFC; rw [dM_one]; lia
      · rw [if_neg hm]
        refine civ_of (by lia) (by lia) (by decide) (by have := (@mLen_bounds y (m + 1)).1; lia) ?_
        have hx := @dM_next y m h1 (by lia)
        unfold dFC; lia
    · rw [if_neg g2]
      refine civ_of h1 h2 (by lia) (by lia) ?_
      unfold dFC; lia
theorem r3_stepV (hn : 2 ≤ n) {y m d k : Int} (h1 : 1 ≤ m) (h2 : m ≤ 12) (h3 : 1 ≤ d) (h4 : d ≤ mLen y m) (k0 : -1 ≤ k) (k1 : k ≤ 1) : run l3_T N n 21 [dateD y m d, .int k] = .ok (civD (dFC y m d + k)) :=
  (r3_step hn h1 h2 d k).trans (congrArg R.ok (step_ok h1 h2 h3 h4 k0 k1))
theorem r3_stepC (hn : 2 ≤ n) (q : Int) {k : Int} (k0 : -1 ≤ k) (k1 : k ≤ 1) : run l3_T N n 21 [civD q, .int k] = .ok (civD (q + k)) := by
  have a := cMo_bounds q
  have b := cD_bounds q
  rw [civD, r3_stepV hn a.1 a.2 b.1 b.2 k0 k1, dFC_back]
theorem r3_days (hn : 1 ≤ n) (y m d : Int) : run l3_T N n 22 [dateD y m d] = .ok (.int (lawDays y m d)) := by
  obtain ⟨k, rfl⟩ := Nat.exists_eq_add_of_le' hn
  rw [run_at (show l3_T[22]? = some l3_law_days from rfl) rfl]
  have tail : ∀ a b : Int, fin (execs (run l3_T N k) N (l3_law_days.body.drop 1) [some (dateD y m d), some (.int a), some (.int b)]) = .ok (.int (365 * a + a / 4 - a / 100 + a / 400 + (153 * b - 457) / 5 + d + 59)) := fun a b => rfl
  have e3 : ∀ b : Int, 153 * b - 457 = 153 * (b - 3) + 2 := fun b => by lia
  unfold lawDays
  by_cases q : m < 3
  · refine asgT_ (ρ' := [some (dateD y m d), some (.int (y - 1)), some (.int (m + 12))]) (l := [.int (y - 1), .int (m + 12)]) ((ev_iteP (P := m < 3) rfl (fun _ => rfl) (fun _ => rfl)).trans (congrArg R.ok (if_pos q))) rfl ?_
    refine (tail _ _).trans ?_
    simp only
    rw [if_pos q, if_pos q, e3]
  · refine asgT_ (ρ' := [some (dateD y m d), some (.int y), some (.int m)]) (l := [.int y, .int m]) ((ev_iteP (P := m < 3) rfl (fun _ => rfl) (fun _ => rfl)).trans (congrArg R.ok (if_neg q))) rfl ?_
    refine (tail _ _).trans ?_
    simp only
    rw [if_neg q, if_neg q, e3]
theorem r3_daysC (hn : 1 ≤ n) (q : Int) : run l3_T N n 22 [civD q] = .ok (.int q) := by
  have a := cMo_bounds q
  rw [civD, r3_days hn, lawDays_dFC a.1 a.2, dFC_back]

structure Dated (s : St) : Prop where
  m1 : 1 ≤ s.mo
  m2 : s.mo ≤ 12
  d1 : 1 ≤ s.d
  d2 : s.d ≤ mLen s.y s.mo
  h1 : 0 ≤ s.h
  h2 : s.h ≤ 23
  i1 : 0 ≤ s.mi
  i2 : s.mi ≤ 59
  o1 : -1439 ≤ shift s.off
  o2 : shift s.off ≤ 1439
theorem r3_utc (hn : 3 ≤ n) {s : St} (h : Dated s) : run l3_T N n 23 [s.D] = .ok (.tuple [civD (s.t / 1440), .int (s.t % 1440)]) := by
  obtain ⟨p, rfl⟩ := Nat.exists_eq_add_of_le' hn
  rw [run_at (show l3_T[23]? = some l3_law_utc from rfl) rfl]
  obtain ⟨m1, m2, d1, d2, h1, h2, i1, i2, o1, o2⟩ := h
  have hs := @r3_shift N (p + 2) (by lia) s.off
  refine asg_ (ρ' := [some s.D, some (.int (s.h * 60 + s.mi - shift s.off))]) (d := .int (s.h * 60 + s.mi - shift s.off)) ?_ rfl ?_
  · refine (ev_bin (x := .int (s.h * 60 + s.mi)) (y := .int (shift s.off)) ((ev_bin (x := .int (s.h * 60)) (y := .int s.mi) ((ev_bin (x := .int s.h) (y := .int 60) rfl rfl).trans (mulR rfl)) rfl).trans rfl) (ev_call1 (x := offD s.off) rfl hs)).trans rfl
  have e1 : s.t / 1440 = dFC s.y s.mo s.d + (s.h * 60 + s.mi - shift s.off) / 1440 := by unfold St.t; lia
  have e2 : s.t % 1440 = (s.h * 60 + s.mi - shift s.off) % 1440 := by unfold St.t; lia
  rw [e1, e2]
  exact retO_ (ev_tup2 (ev_call2 (x := dateD s.y s.mo s.d) (y := .int ((s.h * 60 + s.mi - shift s.off) / 1440)) rfl rfl (r3_stepV (by lia) m1 m2 d1 d2 (by lia) (by lia))) rfl)
noncomputable abbrev St.I (s : St) : PyData := .tuple [.int (s.t / 1440), .int (s.t % 1440 * 60 + s.se), .int s.ns]
theorem r3_instant (hn : 4 ≤ n) {s : St} (h : Dated s) : run l3_T N n 24 [s.D] = .ok s.I := by
  obtain ⟨p, rfl⟩ := Nat.exists_eq_add_of_le' hn
  rw [run_at (show l3_T[24]? = some l3_law_instant from rfl) rfl]
  refine asgT_ (ρ' := [some s.D, some (civD (s.t / 1440)), some (.int (s.t % 1440))]) (l := [civD (s.t / 1440), .int (s.t % 1440)]) (ev_call1 (x := s.D) rfl (r3_utc (by lia) h)) rfl ?_
  exact retO_ (ev_tup3 (ev_call1 (x := civD (s.t / 1440)) rfl (r3_daysC (by lia) _)) ((ev_bin (x := .int (s.t % 1440 * 60)) (y := .int s.se) ((ev_bin (x := .int (s.t % 1440)) (y := .int 60) rfl rfl).trans (mulR rfl)) rfl).trans rfl) rfl)
theorem valid_dated {s : St} (h : s.valid) : Dated s := by
  obtain ⟨a1, a2, a3, a4, a5, a6, a7⟩ := h.1
  exact ⟨a2.1, a2.2, a3.1, a3.2, a4.1, a4.2, a5.1, a5.2, a7.1, a7.2⟩
end
end Mine

namespace Mine
open PySem

noncomputable abbrev bnd (i lo hi : Int) : PyData := .tuple [.int i, .int lo, .int hi]
noncomputable abbrev boundsL : List PyData := [bnd 0 0 9999, bnd 1 1 12, bnd 2 1 31, bnd 3 0 23, bnd 4 0 59, bnd 5 0 60, bnd 6 0 999999999, bnd 7 (-1439) 1439]
noncomputable abbrev outP (x lo hi : Int) : Prop := x < lo ∨ hi < x
theorem anyZ_nil : anyZ [] = some (decide False) := rfl
theorem anyZ_P {x i lo hi : Int} {Q : Prop} [Decidable Q] {r : List (PyData × PyData)} (h : anyZ r = some (decide Q)) : anyZ ((.int x, bnd i lo hi) :: r) = some (decide (outP x lo hi ∨ Q)) := by
  rw [anyZE, h]
  show some ((decide (x < lo) || decide (hi < x)) || decide Q) = _
  rw [← Bool.decide_or, ← Bool.decide_or]
theorem memb_2 (a b a1 b1 a2 b2 : Int) : memb (.tuple [.int a, .int b]) [.tuple [.int a1, .int b1], .tuple [.int a2, .int b2]] = some (decide ((a = a1 ∧ b = b1) ∨ (a = a2 ∧ b = b2))) := by
  have q : ∀ a1 b1 : Int, deq (.tuple [.int a, .int b]) (.tuple [.int a1, .int b1]) = some (decide (a = a1 ∧ b = b1)) := fun a1 b1 => by
    show some (decide (a = a1) && (decide (b = b1) && true)) = _
    rw [Bool.and_true, Bool.decide_and]
  rw [membE_cons, membE_cons, membE_nil, q, q]
  show some (decide _ || (decide _ || false)) = _
  rw [Bool.or_false, Bool.decide_or]
theorem out_iff {s : St} : ((outP s.y 0 9999 ∨ outP s.mo 1 12 ∨ outP s.d 1 31 ∨ outP s.h 0 23 ∨ outP s.mi 0 59 ∨ outP s.se 0 60 ∨ outP s.ns 0 999999999 ∨ outP (shift s.off) (-1439) 1439 ∨ False) ∨ mLen s.y s.mo < s.d) ↔ ¬ P1 s := by
  have hb := (@mLen_bounds s.y s.mo).2
  constructor
  · rintro h ⟨a1, a2, a3, a4, a5, a6, a7, a8⟩
    rcases h with (h | h | h | h | h | h | h | h | h) | h
    · clear a2 a3 a4 a5 a6 a7 a8; lia
    · clear a1 a3 a4 a5 a6 a7 a8; lia
    · clear a1 a2 a4 a5 a6 a7 a8; lia
    · clear a1 a2 a3 a5 a6 a7 a8; lia
    · clear a1 a2 a3 a4 a6 a7 a8; lia
    · clear a1 a2 a3 a4 a5 a7 a8; lia
    · clear a1 a2 a3 a4 a5 a6 a8; lia
    · clear a1 a2 a3 a4 a5 a6 a7; lia
    · exact h
    · exact absurd a3.2 (Int.not_le.mpr h)
  · refine fun q => Classical.byContradiction fun z => q ?_
    simp only [outP, not_or, Int.not_lt] at z
    obtain ⟨⟨a1, a2, a3, a4, a5, a6, a7, a8, _⟩, a9⟩ := z
    exact ⟨a1, a2, ⟨a3.1, a9⟩, a4, a5, a6, a7, a8⟩
section
variable {N n : Nat}
theorem r3_bounds (hn : 1 ≤ n) : run l3_T N n 18 [] = .ok (.list boundsL) := by
  obtain ⟨k, rfl⟩ := Nat.exists_eq_add_of_le' hn
  rfl
theorem r3_valid (hn : 4 ≤ n) (s : St) : run l3_T N n 25 [s.D] = .ok (.bool (decide s.valid)) := by
  obtain ⟨p, rfl⟩ := Nat.exists_eq_add_of_le' hn
  rw [run_at (show l3_T[25]? = some l3_law_valid from rfl) rfl]
  have hs := @r3_shift N (p + 3) (by lia) s.off
  refine asg_ (ρ' := [some s.D, some (.tuple [.int s.y, .int s.mo, .int s.d, .int s.h, .int s.mi, .int s.se, .int s.ns, .int (shift s.off)]), none, none]) (d := .tuple [.int s.y, .int s.mo, .int s.d, .int s.h, .int s.mi, .int s.se, .int s.ns, .int (shift s.off)]) ?_ rfl ?_
  · exact (ev_bin (x := .tuple [.int s.y, .int s.mo, .int s.d, .int s.h, .int s.mi, .int s.se, .int s.ns]) (y := .tuple [.int (shift s.off)]) rfl (ev_tup1 (ev_call1 (x := offD s.off) rfl hs))).trans rfl
  have ea : ev (run l3_T N (p + 3)) (.anyZip (.or (.cmp .lt (.loc 0) (.idx (.loc 1) (.cst (.int 1)))) (.cmp .gt (.loc 0) (.idx (.loc 1) (.cst (.int 2))))) (.loc 1) (.call 18 [])) [some s.D, some (.tuple [.int s.y, .int s.mo, .int s.d, .int s.h, .int s.mi, .int s.se, .int s.ns, .int (shift s.off)]), none, none] =
      .ok (.bool (decide (outP s.y 0 9999 ∨ outP s.mo 1 12 ∨ outP s.d 1 31 ∨ outP s.h 0 23 ∨ outP s.mi 0 59 ∨ outP s.se 0 60 ∨ outP s.ns 0 999999999 ∨ outP (shift s.off) (-1439) 1439 ∨ False))) := by
    rw [evE_anyZip, evE_loc, ev_call0 (r3_bounds (by lia))]
    exact congrArg (fun o => R.bind (R.ofOpt o) fun b => R.ok (PyData.bool b)) (anyZ_P (i := 0) (anyZ_P (i := 1) (anyZ_P (i := 2) (anyZ_P (i := 3) (anyZ_P (i := 4) (anyZ_P (i := 5) (anyZ_P (i := 6) (anyZ_P (i := 7) anyZ_nil))))))))
  have hb := @mLen_bounds s.y s.mo
  refine if_ (P := ¬ P1 s) ?_ (fun q => ?_) (fun q => ?_)
  · have e2 := ev_or (f := .cmp .gt (.idx (.loc 0) (.cst (.int 2))) (.call 20 [(.idx (.loc 0) (.cst (.int 0))), (.idx (.loc 0) (.cst (.int 1)))])) (Q := mLen s.y s.mo < s.d) ea fun z => (ev_cmp (x := .int s.d) (y := .int (mLen s.y s.mo)) rfl (ev_call2 (x := .int s.y) (y := .int s.mo) rfl rfl (r3_length (by lia) (by lia) (by lia)))).trans rfl
    refine e2.trans (congrArg (fun b => R.ok (PyData.bool b)) (decide_eq_decide.mpr ?_))
    exact out_iff
  · refine retO_ (d := .bool false) rfl |>.trans ?_
    rw [decide_eq_false fun z => q (due_valid.mpr z).1]
  · have h1 := Classical.not_not.mp q
    have hd : Dated s := by
      obtain ⟨a1, a2, a3, a4, a5, a6, a7, a8⟩ := h1
      exact ⟨a2.1, a2.2, a3.1, a3.2, a4.1, a4.2, a5.1, a5.2, a8.1, a8.2⟩
    refine if_ (P := s.se < 60) rfl (fun z => ?_) (fun z => ?_)
    · refine retO_ (d := .bool true) rfl |>.trans ?_
      rw [decide_eq_true (due_valid.mp ⟨h1, fun w => by lia⟩)]
    · have hse : s.se = 60 := by have := h1.2.2.2.2.2.1; lia
      refine asgT_ (ρ' := [some s.D, some (.tuple [.int s.y, .int s.mo, .int s.d, .int s.h, .int s.mi, .int s.se, .int s.ns, .int (shift s.off)]), some (civD (s.t / 1440)), some (.int (s.t % 1440))]) (l := [civD (s.t / 1440), .int (s.t % 1440)]) (ev_call1 (x := s.D) rfl (r3_utc (by lia) hd)) rfl ?_
      have hv : s.valid ↔ Lp (cY (s.t / 1440)) (cMo (s.t / 1440)) (cD (s.t / 1440)) (s.t % 1440) := by
        rw [← due_valid]
        exact ⟨fun z => z.2 hse, fun z => ⟨h1, fun _ => z⟩⟩
      refine if_ (P := cY (s.t / 1440) < 0 ∨ ¬ s.t % 1440 = 1439) (ev_or rfl fun _ => ?_) (fun w => ?_) (fun w => ?_)
      · refine (ev_cmp (x := .int (s.t % 1440)) (y := .int 1439) rfl rfl).trans ?_
        rw [decide_not]; rfl
      · refine retO_ (d := .bool false) rfl |>.trans ?_
        rw [decide_eq_false fun u => ?_]
        obtain ⟨l1, l2, l3⟩ := hv.mp u
        exact w.elim (fun z => by lia) fun z => z l2
      · refine retO_ ((ev_cmp (x := .tuple [.int (cMo (s.t / 1440)), .int (cD (s.t / 1440))]) (y := .tuple [.tuple [.int 6, .int 30], .tuple [.int 12, .int 31]]) rfl rfl).trans ?_)
        rw [cmpop_13, memb_2]
        refine congrArg (fun b => R.ok (PyData.bool b)) (decide_eq_decide.mpr ?_)
        rw [hv]
        unfold Lp
        exact ⟨fun z => ⟨by lia, Classical.byContradiction fun u => w (.inr u), z⟩, fun z => z.2.2⟩
end
end Mine

namespace Mine
open PySem

theorem loopF_step {set : PyData → Env' → Option Env'} {b : Env' → R Fl} {d : PyData} {r : List PyData} {ρ ρ₁ ρ' : Env'} (h1 : set d ρ = some ρ₁) (h2 : b ρ₁ = .ok (.next ρ')) : loopF set b (d :: r) ρ = loopF set b r ρ' := by
  rw [loopFE, h1, R.ofOpt_some, R.bind_ok, h2, R.bind_ok]
theorem ne_empty {f : List Nat} : cmpop .ne (dS f) (dS []) = .ok (.bool (decide (f ≠ []))) := by
  rw [cmpop_2, deq_2, R.ofOpt_some, R.bind_ok]
  refine congrArg (fun b => R.ok (PyData.bool b)) ?_
  rw [← decide_not]
  refine decide_eq_decide.mpr ⟨fun h q => h (by rw [q]), fun h q => h ?_⟩
  injection q with q
  exact congrArg Array.toList q

noncomputable def fracT (ns least : Int) : List Nat := (padL ns 9).take (if ((rstripL [48] (padL ns 9)).length : Int) < least then least else ((rstripL [48] (padL ns 9)).length : Int)).toNat
noncomputable def fracX (ns least : Int) : List Nat := if fracT ns least ≠ [] then 46 :: fracT ns least else []
noncomputable def zedL (k : Int) : List Nat := if k = 0 then [90] else if k = 1 then [122] else plus0
noncomputable abbrev text3 (s : St) (x : Nat) (least k : Int) : List Nat := textG s x (fracX s.ns least) (zoneS s.off k)
theorem fracT_len {ns least : Int} (h0 : -1 ≤ ns) (h1 : ns ≤ 1000000000) : (fracT ns least).length ≤ 21 := by
  have := @padL_le ns 9 (by lia) (by lia) (by decide)
  unfold fracT; rw [List.length_take]; lia
theorem zedL_len (k : Int) : (zedL k).length ≤ 6 := by
  unfold zedL; split
  · decide
  · split <;> decide

section
variable {N n : Nat}
theorem r3_text (hn : 2 ≤ n) (s : St) (hr : Rng2 s) (x : Nat) (k least : Int) (l0 : 0 ≤ least) : run l3_T N n 27 [s.D, dS [x], dS (zedL k), .int least] = .ok (dS (text3 s x least k)) := by
  obtain ⟨p, rfl⟩ := Nat.exists_eq_add_of_le' hn
  rw [run_at (show l3_T[27]? = some l3_law_text from rfl) rfl]
  have hzf := (@zoneF2 s.off k hr.o.1 hr.o.2).len
  obtain ⟨⟨ry, rmo, rd, rh, rmi, rse⟩, rn, ro⟩ := hr
  have hs := @r3_shift N (p + 1) (by lia) s.off
  have P := fun (v : Int) (w : Nat) a b c (d : Int) e => @r3_pad N (p + 1) (by lia) v w a b c d e
  have L0 := @padL_le s.y 4 (by lia) (by lia) (by decide)
  have L6 := @padL_le s.ns 9 (by lia) (by lia) (by decide)
  have lf := @fracT_len s.ns least rn.1 rn.2
  have lz := zedL_len k
  refine asg_ (ρ' := [some s.D, some (dS [x]), some (dS (zedL k)), some (.int least), some (dS (padL s.ns 9)), none, none, none, none, none]) (d := dS (padL s.ns 9)) (ev_call2 (x := .int s.ns) (y := .int 9) rfl rfl (P s.ns 9 (by lia) (by lia) (by decide) 9 rfl)) rfl ?_
  refine asg_ (ρ' := [some s.D, some (dS [x]), some (dS (zedL k)), some (.int least), some (dS (padL s.ns 9)), some (dS (fracT s.ns least)), none, none, none, none]) (d := dS (fracT s.ns least)) ?_ rfl ?_
  · have hj : 0 ≤ (if ((rstripL [48] (padL s.ns 9)).length : Int) < least then least else ((rstripL [48] (padL s.ns 9)).length : Int)) := by split <;> lia
    show R.ok (dS (cut (padL s.ns 9) 0 (bound (if ((rstripL [48] (padL s.ns 9)).length : Int) < least then least else ((rstripL [48] (padL s.ns 9)).length : Int)) (padL s.ns 9).length))) = _
    unfold fracT
    generalize (if ((rstripL [48] (padL s.ns 9)).length : Int) < least then least else ((rstripL [48] (padL s.ns 9)).length : Int)) = j at hj
    refine congrArg (fun l => R.ok (dS l)) ?_
    rw [cut_take]
    unfold bound
    rw [if_neg (by lia)]
    exact List.take_eq_take_iff.mpr (by lia)
  have hw : text3 s x least k = headG s.y s.mo s.d s.h s.mi s.se x ++ (if fracT s.ns least ≠ [] then 46 :: fracT s.ns least else []) ++ zoneS s.off k := rfl
  rw [hw]
  clear hw
  generalize fracT s.ns least = f at *
  generalize padL s.ns 9 = nine at *
  refine asg_ (ρ' := [some s.D, some (dS [x]), some (dS (zedL k)), some (.int least), some (dS nine), some (dS f), some (dS (padL s.y 4)), none, none, none]) (d := dS (padL s.y 4)) (ev_call2 (x := .int s.y) (y := .int 4) rfl rfl (P s.y 4 (by lia) (by lia) (by decide) 4 rfl)) rfl ?_
  have stp : ∀ (t : List Nat) (c : Nat) (v : Int) (e7 e8 : Option PyData) (r : List PyData), t.length ≤ 1000 → -1 ≤ v → v ≤ 100 →
      loopF (zset 7 8) (zbody (run l3_T N (p + 1)) (.bin .add (.bin .add (.loc 6) (.loc 7)) (.call 26 [(.loc 8), (.cst (.int 2))])) 6) (.tuple [dS [c], .int v] :: r) [some s.D, some (dS [x]), some (dS (zedL k)), some (.int least), some (dS nine), some (dS f), some (dS t), e7, e8, none] = loopF (zset 7 8) (zbody (run l3_T N (p + 1)) (.bin .add (.bin .add (.loc 6) (.loc 7)) (.call 26 [(.loc 8), (.cst (.int 2))])) 6) r [some s.D, some (dS [x]), some (dS (zedL k)), some (.int least), some (dS nine), some (dS f), some (dS (t ++ [c] ++ padL v 2)), some (dS [c]), some (.int v), none] := fun t c v e7 e8 r ht v0 v1 => by
    have L := @padL_le v 2 (by lia) (by lia) (by decide)
    have ee : ev (run l3_T N (p + 1)) (.bin .add (.bin .add (.loc 6) (.loc 7)) (.call 26 [(.loc 8), (.cst (.int 2))])) [some s.D, some (dS [x]), some (dS (zedL k)), some (.int least), some (dS nine), some (dS f), some (dS t), some (dS [c]), some (.int v), none] = .ok (dS (t ++ [c] ++ padL v 2)) := ev_add (ev_add rfl rfl (by rw [List.length_singleton]; lia)) (ev_call2 (x := .int v) (y := .int 2) rfl rfl (P v 2 (by lia) (by lia) (by decide) 2 rfl)) (by rw [List.length_append, List.length_singleton]; lia)
    exact loopF_step (ρ₁ := [some s.D, some (dS [x]), some (dS (zedL k)), some (.int least), some (dS nine), some (dS f), some (dS t), some (dS [c]), some (.int v), none]) rfl (congrArg (fun r => R.bind r fun d => (asStr d).bind fun u => R.ok (Fl.next ([some s.D, some (dS [x]), some (dS (zedL k)), some (.int least), some (dS nine), some (dS f), some (dS t), some (dS [c]), some (.int v), none].set 6 (some (.str u))))) ee)
  have lp : ∃ e7 e8, exec (run l3_T N (p + 1)) N (.forZip 7 8 6 (.bin .add (.bin .add (.cst (.str (PySem.Str.mk #[45, 45]))) (.loc 1)) (.cst (.str (PySem.Str.mk #[58, 58])))) (.slice (.loc 0) (.cst (.int 1)) (.cst (.int 6))) (.bin .add (.bin .add (.loc 6) (.loc 7)) (.call 26 [(.loc 8), (.cst (.int 2))]))) [some s.D, some (dS [x]), some (dS (zedL k)), some (.int least), some (dS nine), some (dS f), some (dS (padL s.y 4)), none, none, none] =
      .ok (.next [some s.D, some (dS [x]), some (dS (zedL k)), some (.int least), some (dS nine), some (dS f), some (dS (headG s.y s.mo s.d s.h s.mi s.se x)), e7, e8, none]) := by
    have M1 := @padL_le s.mo 2 (by lia) (by lia) (by decide)
    have M2 := @padL_le s.d 2 (by lia) (by lia) (by decide)
    have M3 := @padL_le s.h 2 (by lia) (by lia) (by decide)
    have M4 := @padL_le s.mi 2 (by lia) (by lia) (by decide)
    refine ⟨some (dS [58]), some (.int s.se), ?_⟩
    show noExc (loopF _ _ [.tuple [dS [45], .int s.mo], .tuple [dS [45], .int s.d], .tuple [dS [x], .int s.h], .tuple [dS [58], .int s.mi], .tuple [dS [58], .int s.se]] _) = _
    refine (congrArg noExc ((stp _ _ _ _ _ _ (by lia) (by lia) (by lia)).trans ((stp _ _ _ _ _ _ ?_ (by lia) (by lia)).trans ((stp _ _ _ _ _ _ ?_ (by lia) (by lia)).trans ((stp _ _ _ _ _ _ ?_ (by lia) (by lia)).trans (stp _ _ _ _ _ _ ?_ (by lia) (by lia))))))).trans rfl
    all_goals simp only [List.length_append, List.length_singleton]; lia
  obtain ⟨e7, e8, lp⟩ := lp
  refine (congrArg fin (execs_step lp)).trans ?_
  have hh : (headG s.y s.mo s.d s.h s.mi s.se x).length ≤ 200 := by
    have M1 := @padL_le s.mo 2 (by lia) (by lia) (by decide)
    have M2 := @padL_le s.d 2 (by lia) (by lia) (by decide)
    have M3 := @padL_le s.h 2 (by lia) (by lia) (by decide)
    have M4 := @padL_le s.mi 2 (by lia) (by lia) (by decide)
    have M5 := @padL_le s.se 2 (by lia) (by lia) (by decide)
    unfold headG
    simp only [List.length_append, List.length_singleton]; lia
  generalize headG s.y s.mo s.d s.h s.mi s.se x = hd at hh
  have lfx : (if f ≠ [] then 46 :: f else []).length ≤ 22 := by split <;> simp only [List.length_cons, List.length_nil] <;> lia
  refine asg_ (ρ' := [some s.D, some (dS [x]), some (dS (zedL k)), some (.int least), some (dS nine), some (dS f), some (dS (hd ++ (if f ≠ [] then 46 :: f else []))), e7, e8, none]) (d := dS (hd ++ (if f ≠ [] then 46 :: f else []))) (ev_add rfl ?_ (by lia)) rfl ?_
  · refine (ev_iteP (P := f ≠ []) (x := dS (46 :: f)) (y := dS []) ((ev_cmp (x := dS f) (y := dS []) rfl rfl).trans ne_empty) (fun _ => ev_add (x := [46]) (y := f) rfl rfl (by rw [List.length_singleton]; lia)) (fun _ => rfl)).trans ?_
    split <;> rfl
  generalize (if f ≠ [] then 46 :: f else []) = fx at lfx
  have hl2 : (hd ++ fx).length ≤ 300 := by rw [List.length_append]; lia
  generalize hd ++ fx = tx at hl2
  refine if_ (P := shift s.off = 0) ?_ (fun q => ?_) (fun q => ?_)
  · exact (ev_cmp (x := .int (shift s.off)) (y := .int 0) (ev_call1 (x := offD s.off) rfl hs) rfl).trans rfl
  · have hz : ∀ o, s.off = o → zoneS s.off k = if o = none then [45, 48, 48, 58, 48, 48] else zedL k := fun o ho => by
      rw [ho]
      cases o with
      | none =>
        have e : zoneW none = [45, 48, 48, 58, 48, 48] := by decide
        unfold zoneS
        rw [e, if_neg (by decide), if_pos rfl]
      | some o =>
        rw [ho] at q
        have q' : o = 0 := q
        subst q'
        exact (show zoneS (some 0) k = zedL k from if_pos ((zoneW_zero (some 0) (by decide) (by decide)).mpr rfl)).trans (if_neg (by intro z; cases z)).symm
    have hz' := hz s.off rfl
    refine retO_ (ev_add rfl ?_ (by lia))
    rw [hz']
    refine (ev_iteP (P := s.off = none) (x := dS [45, 48, 48, 58, 48, 48]) (y := dS (zedL k)) ?_ (fun _ => rfl) (fun _ => rfl)).trans ?_
    · show R.ok (PyData.bool (match offD s.off with | .none => true | _ => false)) = _
      cases s.off <;> rfl
    · split <;> rfl
  · obtain ⟨o, ho⟩ : ∃ o, s.off = some o := by
      cases e : s.off with
      | none => rw [e] at q; exact absurd rfl q
      | some o => exact ⟨o, rfl⟩
    have hz : zoneS s.off k = (if o < 0 then 45 else 43) :: (padL ((if o < 0 then -o else o) / 60) 2 ++ [58] ++ padL ((if o < 0 then -o else o) % 60) 2) := by
      unfold zoneS
      rw [if_neg fun z => q (by rw [(zoneW_zero s.off ro.1 ro.2).mp z]; rfl)]
      unfold zoneW
      rw [ho, shift_some]
      congr 1
      by_cases g : o < 0
      · rw [if_pos g, if_pos (.inr g)]
      · rw [if_neg g, if_neg fun z => z.elim (fun w => by cases w) g]
    have hD : s.D = .tuple [.int s.y, .int s.mo, .int s.d, .int s.h, .int s.mi, .int s.se, .int s.ns, .int o] := by rw [St.D, ho]; rfl
    rw [hz, hD]
    rw [ho, shift_some] at ro
    refine asg_ (ρ' := [some (.tuple [.int s.y, .int s.mo, .int s.d, .int s.h, .int s.mi, .int s.se, .int s.ns, .int o]), some (dS [x]), some (dS (zedL k)), some (.int least), some (dS nine), some (dS f), some (dS tx), e7, e8, some (dS [if o < 0 then 45 else 43])]) (d := dS [if o < 0 then 45 else 43]) ?_ rfl ?_
    · refine (ev_iteP (P := o < 0) (x := dS [45]) (y := dS [43]) rfl (fun _ => rfl) (fun _ => rfl)).trans ?_
      split <;> rfl
    generalize (if o < 0 then 45 else 43 : Nat) = sg
    generalize hz : (if o < 0 then -o else o) = z
    have z0 : 0 ≤ z ∧ z ≤ 1440 := by rw [← hz]; split <;> lia
    have q1 := @padL_le (z / 60) 2 (by lia) (by lia) (by decide)
    have q2 := @padL_le (z % 60) 2 (by lia) (by lia) (by decide)
    have ez : ev (run l3_T N (p + 1)) (.b1 .abs (.idx (.loc 0) (.cst (.int 7)))) [some (.tuple [.int s.y, .int s.mo, .int s.d, .int s.h, .int s.mi, .int s.se, .int s.ns, .int o]), some (dS [x]), some (dS (zedL k)), some (.int least), some (dS nine), some (dS f), some (dS tx), e7, e8, some (dS [sg])] = .ok (.int z) := by
      rw [← hz]; rfl
    have e1 := ev_call2 (f := 26) (x := .int (z / 60)) (y := .int 2) (b := .cst (.int 2)) ((ev_bin (op := .div) (y := .int 60) (b := .cst (.int 60)) ez rfl).trans rfl) rfl (P (z / 60) 2 (by lia) (by lia) (by decide) 2 rfl)
    have e2 := ev_call2 (f := 26) (x := .int (z % 60)) (y := .int 2) (b := .cst (.int 2)) ((ev_bin (op := .mod) (y := .int 60) (b := .cst (.int 60)) ez rfl).trans rfl) rfl (P (z % 60) 2 (by lia) (by lia) (by decide) 2 rfl)
    refine (retO_ (ev_add (ev_add (ev_add (ev_add (x := tx) (y := [sg]) rfl rfl ?_) e1 ?_) (y := [58]) rfl ?_) e2 ?_)).trans (congrArg (fun l => R.ok (dS l)) ?_)
    · rw [List.length_singleton]; lia
    · simp only [List.length_append, List.length_singleton]; lia
    · simp only [List.length_append, List.length_singleton]; lia
    · simp only [List.length_append, List.length_singleton]; lia
    · simp only [List.append_assoc, List.cons_append, List.nil_append]
end
end Mine

namespace Mine
open PySem

theorem digit_rng {c : Nat} (h : digit c = true) : 48 ≤ c ∧ c ≤ 57 := by
  unfold digit at h
  rw [Bool.and_eq_true, decide_eq_true_eq, decide_eq_true_eq] at h; exact h
theorem zoneM_digit {c : Nat} {r : List Nat} (h : digit c = true) : zoneM (c :: r) = none := by
  have := digit_rng h
  exact (if_neg (show ¬ (c = 90 ∨ c = 122) by lia)).trans (if_neg (show ¬ (c = 43 ∨ c = 45) by lia))
theorem tailM_none {y mo d h mi se ns : Int} {z : List Nat} (e : zoneM z = none) : tailM y mo d h mi se ns z = none := by
  unfold tailM; rw [e]
theorem parse_19 {t : List Nat} {c : Nat} : t[19]? = some c → digit c = true → parseM t = none := by
  by_cases hs : t.length < 20
  · exact fun _ _ => parseM_short hs
  · refine twenty hs fun y1 y2 y3 y4 a m1 m2 b d1 d2 x h1 h2 e i1 i2 f s1 s2 c' r hi h => ?_
    change parse20 y1 y2 y3 y4 a m1 m2 b d1 d2 x h1 h2 e i1 i2 f s1 s2 c' r = none
    rw [← Option.some.inj (show some c' = some c from hi)] at h
    have hr := digit_rng h
    unfold parse20
    split
    · rfl
    split
    · rfl
    split
    · rfl
    split
    · rfl
    split
    · rfl
    rw [fracM_no (fun c r e => by cases e; lia)]
    exact tailM_none (zoneM_digit h)

theorem fracX_ok {ns least : Int} (h0 : 0 ≤ ns) (h1 : ns ≤ 999999999) : FracF (fracX ns least) ns ∧ (fracX ns least).length ≠ 1 ∧ (fracX ns least).length ≠ 11 := by
  have hp : padL ns 9 = dig 9 ns.toNat := padN ns 8 h0 (by lia)
  have hv := dig_val 9 ns.toNat (by lia)
  have key : ∃ j : Nat, (rstripL [48] (dig 9 ns.toNat)).length ≤ j ∧ fracT ns least = (dig 9 ns.toNat).take j := by
    unfold fracT
    rw [hp]
    refine ⟨_, ?_, rfl⟩
    split <;> lia
  obtain ⟨j, hj, e⟩ := key
  obtain ⟨k, hk⟩ := rstrip_zeros (dig 9 ns.toNat)
  have hall := dig_all 9 ns.toNat
  have hlen := dig_length 9 ns.toNat
  generalize dig 9 ns.toNat = l at *
  have hd : l.drop j = List.replicate (k - (j - (rstripL [48] l).length)) 48 := by
    have h2 : l.drop j = (rstripL [48] l ++ List.replicate k 48).drop j := congrArg (List.drop j) hk
    rw [h2, List.drop_append, List.drop_eq_nil_of_le hj, List.nil_append, List.drop_replicate]
  have val : digitsVal (l.take j) * 10 ^ (9 - (l.take j).length) = ns := by
    have h2 := digitsVal_app (l.take j) (l.drop j)
    rw [List.take_append_drop, hv] at h2
    have h3 : digitsVal (l.drop j) = 0 := by rw [hd]; exact digitsVal_zeros _
    have h4 : (l.drop j).length = 9 - (l.take j).length := by rw [List.length_drop, List.length_take]; lia
    rw [h3, h4] at h2
    lia
  have tl : (l.take j).length ≤ 9 := by rw [List.length_take]; lia
  have ta : (l.take j).all digit = true := List.all_eq_true.mpr fun c hc => List.all_eq_true.mp hall c (List.mem_of_mem_take hc)
  unfold fracX
  rw [e]
  generalize l.take j = ds at *
  by_cases q : ds = []
  · rw [if_neg fun z => z q]
    refine ⟨⟨.inl ⟨rfl, ?_⟩, h0, h1⟩, by decide, by decide⟩
    rw [← val, q]; rfl
  · rw [if_pos q]
    have := List.length_pos_iff.mpr q
    refine ⟨⟨.inr ⟨ds, rfl, ta, by lia, fun _ => val.symm⟩, h0, h1⟩, ?_, ?_⟩
    · rw [List.length_cons]; lia
    · rw [List.length_cons]; lia
theorem fracX_zero {ns : Int} (h0 : 0 ≤ ns) (h1 : ns ≤ 999999999) : fracX ns 0 = fracL ns := by
  have hp : padL ns 9 = dig 9 ns.toNat := padN ns 8 h0 (by lia)
  have e : fracT ns 0 = rstripL [48] (dig 9 ns.toNat) := by
    unfold fracT
    rw [hp, if_neg (by lia)]
    obtain ⟨k, hk⟩ := rstrip_zeros (dig 9 ns.toNat)
    generalize dig 9 ns.toNat = l at hk
    have h2 : l.take (rstripL [48] l).length = (rstripL [48] l ++ List.replicate k 48).take (rstripL [48] l).length := congrArg (List.take _) hk
    rw [Int.toNat_natCast, h2, List.take_left]
  unfold fracX fracL
  rw [e]
  by_cases q : ns = 0
  · subst q; decide
  · have := rstrip_ne (v := ns.toNat) (by lia) (by lia)
    rw [if_neg q, if_pos fun z => by rw [z] at this; exact absurd this (by decide)]
theorem text3_zero {s : St} (hv : s.valid) (hr : Rng2 s) : text3 s 84 0 0 = fmtL s := by
  have a := hv.1.2.2.2.2.2.1
  rw [← text_zero hv hr]
  show textG s 84 (fracX s.ns 0) (zoneS s.off 0) = textG s (spellX 0) (fracW s.ns (0 / 2 % 2)) (zoneS s.off (0 / 4))
  rw [fracX_zero a.1 a.2, fracW_ok a.1 a.2]; rfl
theorem zone_shape (off : Option Int) (k : Int) (h0 : -1440 ≤ shift off) (h1 : shift off ≤ 1440) : zoneS off k = [90] ∨ zoneS off k = [122] ∨ ∃ c a b m1 m2 : Nat, (c = 43 ∨ c = 45) ∧ digit a = true ∧ zoneS off k = [c, a, b, 58, m1, m2] := by
  unfold zoneS
  split
  · split
    · exact .inl rfl
    · split
      · exact .inr (.inl rfl)
      · exact .inr (.inr ⟨43, 48, 48, 48, 48, .inl rfl, by decide, rfl⟩)
  · obtain ⟨h, m, hh, hm, _, ez⟩ := zoneW_eq off h0 h1
    refine .inr (.inr ⟨if off = none ∨ shift off < 0 then 45 else 43, 48 + h / 10 % 10, 48 + h % 10, 48 + m / 10 % 10, 48 + m % 10, by split <;> simp, dg _, ?_⟩)
    rw [ez, dig2, dig2]; rfl
theorem text3_good {s : St} (hv : s.valid) (hr : Rng2 s) {x : Nat} (hx : x = 84 ∨ x = 116) (least k : Int) : parseM (text3 s x least k) = some s := by
  obtain ⟨f1, f2, f3⟩ := @fracX_ok s.ns least hv.1.2.2.2.2.2.1.1 hv.1.2.2.2.2.2.1.2
  have z := @zoneF2 s.off k hr.o.1 hr.o.2
  rw [text_parse hx hr.r f1 z, if_pos]
  refine ⟨hv, ⟨f2, f3⟩, ?_⟩
  cases e : subAt [58, 54, 48] (zoneS s.off k) with
  | false => rfl
  | true =>
    have := z.bad e
    rw [zoneM_S hr.o.1 hr.o.2, if_pos hv.1.2.2.2.2.2.2] at this
    cases this
theorem text3_bad {s : St} (hr : Rng2 s) (hv : ¬ s.valid) {x : Nat} (hx : x = 84 ∨ x = 116) (k : Int) : parseM (text3 s x 10 k) = none := by
  have z := @zoneF2 s.off k hr.o.1 hr.o.2
  by_cases hn : 0 ≤ s.ns ∧ s.ns ≤ 999999999
  · obtain ⟨f1, f2, f3⟩ := @fracX_ok s.ns 10 hn.1 hn.2
    rw [text_parse hx hr.r f1 z, if_neg fun q => hv q.1]
  · have hcase : s.ns = -1 ∨ s.ns = 1000000000 := by have := hr.n; lia
    unfold text3 textG
    rw [List.append_assoc, parse_G hx hr.r]
    split
    · rfl
    · obtain ⟨g1, _, _⟩ := headc z.head
      have zs := zone_shape s.off k hr.o.1 hr.o.2
      generalize zoneS s.off k = w at *
      rcases hcase with e | e
      · rw [e, show fracX (-1) 10 = [46, 48, 48, 48, 48, 48, 48, 48, 45, 49] by decide]
        show tailP _ _ _ _ _ _ (46 :: ([48, 48, 48, 48, 48, 48, 48] ++ (45 :: 49 :: w))) = none
        rw [tailP, fracM_dot (by decide) (fun c r e => by cases e; decide), if_neg (by decide)]
        refine tailM_none ?_
        rcases zs with rfl | rfl | ⟨c, a, b, m1, m2, _, _, rfl⟩ <;> rfl
      · rw [e, show fracX 1000000000 10 = [46, 49, 48, 48, 48, 48, 48, 48, 48, 48, 48] by decide]
        show tailP _ _ _ _ _ _ (46 :: ([49, 48, 48, 48, 48, 48, 48, 48, 48, 48] ++ w)) = none
        rw [tailP, fracM_dot (by decide) g1, if_pos (by decide)]
end Mine

namespace Mine
open PySem

noncomputable abbrev head19 (s : St) (x : Nat) : List Nat := [48 + s.y.toNat / 10 / 10 / 10 % 10, 48 + s.y.toNat / 10 / 10 % 10, 48 + s.y.toNat / 10 % 10, 48 + s.y.toNat % 10, 45, 48 + s.mo.toNat / 10 % 10, 48 + s.mo.toNat % 10, 45, 48 + s.d.toNat / 10 % 10, 48 + s.d.toNat % 10, x, 48 + s.h.toNat / 10 % 10, 48 + s.h.toNat % 10, 58, 48 + s.mi.toNat / 10 % 10, 48 + s.mi.toNat % 10, 58, 48 + s.se.toNat / 10 % 10, 48 + s.se.toNat % 10]
theorem head19_eq {s : St} (hv : s.valid) (x : Nat) : headG s.y s.mo s.d s.h s.mi s.se x = head19 s x := by
  rw [headG_len hv]; unfold headL; rw [dig4, dig2, dig2, dig2, dig2, dig2]; rfl

section
variable {s : St} {x : Nat} {least k : Int}
theorem frac_shape (hv : s.valid) : fracX s.ns least = [] ∨ ∃ a ds, fracX s.ns least = 46 :: a :: ds ∧ (a :: ds).all digit = true := by
  obtain ⟨f1, f2, _⟩ := @fracX_ok s.ns least hv.1.2.2.2.2.2.1.1 hv.1.2.2.2.2.2.1.2
  rcases f1.shape with ⟨e, _⟩ | ⟨ds, e, hd, _⟩
  · exact .inl e
  · cases ds with
    | nil => rw [e] at f2; exact absurd rfl f2
    | cons a ds => exact .inr ⟨a, ds, e, hd⟩
theorem text3_form (hv : s.valid) (hr : Rng2 s) : ∃ c q, text3 s x least k = head19 s x ++ (c :: q) ∧ digit c = false ∧ (q = [] ∨ ∃ a r, q = a :: r ∧ digit a = true) := by
  have e0 : text3 s x least k = head19 s x ++ (fracX s.ns least ++ zoneS s.off k) := by
    unfold text3 textG; rw [List.append_assoc, head19_eq hv]
  rw [e0]
  rcases @frac_shape s least hv with e | ⟨a, ds, e, hd⟩
  · rw [e, List.nil_append]
    rcases zone_shape s.off k hr.o.1 hr.o.2 with z | z | ⟨c, a, b, m1, m2, hc, ha, z⟩
    · exact ⟨90, [], by rw [z], by decide, .inl rfl⟩
    · exact ⟨122, [], by rw [z], by decide, .inl rfl⟩
    · exact ⟨c, _, by rw [z], by rcases hc with rfl | rfl <;> decide, .inr ⟨a, _, rfl, ha⟩⟩
  · rw [List.all_cons, Bool.and_eq_true] at hd
    exact ⟨46, _, by rw [e]; rfl, by decide, .inr ⟨a, _, rfl, hd.1⟩⟩
theorem erase3 (hv : s.valid) (hr : Rng2 s) {i : Nat} (hi : i < 20) : parseM ((text3 s x least k).eraseIdx i) = none := by
  obtain ⟨c, q, e2, hc, hq⟩ := @text3_form s x least k hv hr
  have at_ : ∀ j c', i ≤ j → (text3 s x least k)[j + 1]? = some c' → ((text3 s x least k).eraseIdx i)[j]? = some c' := fun j c' hj h => by
    rw [List.getElem?_eraseIdx, if_neg (by lia)]; exact h
  by_cases k4 : i ≤ 4
  · exact parse_at (at_ 4 _ k4 (by rw [e2]; rfl)) (.inl ⟨.inl rfl, dg_ne (by decide)⟩)
  by_cases k7 : i ≤ 7
  · exact parse_at (at_ 7 _ k7 (by rw [e2]; rfl)) (.inl ⟨.inr rfl, dg_ne (by decide)⟩)
  by_cases k10 : i ≤ 10
  · exact parse_at (at_ 10 _ k10 (by rw [e2]; rfl)) (.inr (.inl ⟨rfl, dg_ne (by decide), dg_ne (by decide)⟩))
  by_cases k13 : i ≤ 13
  · exact parse_at (at_ 13 _ k13 (by rw [e2]; rfl)) (.inr (.inr (.inl ⟨.inl rfl, dg_ne (by decide)⟩)))
  by_cases k16 : i ≤ 16
  · exact parse_at (at_ 16 _ k16 (by rw [e2]; rfl)) (.inr (.inr (.inl ⟨.inr rfl, dg_ne (by decide)⟩)))
  by_cases k18 : i ≤ 18
  · exact parse_at (at_ 18 c k18 (by rw [e2]; rfl)) (.inr (.inr (.inr ⟨rfl, hc⟩)))
  have hi19 : i = 19 := by lia
  rcases hq with rfl | ⟨a, r, rfl, ha⟩
  · refine parseM_short ?_
    rw [e2, hi19]; exact Nat.lt_succ_self 19
  · exact parse_19 (at_ 19 a (by lia) (by rw [e2]; rfl)) ha
theorem ins3 (hv : s.valid) (hr : Rng2 s) {i : Nat} (hi : i < 20) : parseM ((text3 s x least k).take i ++ [48] ++ (text3 s x least k).drop i) = none := by
  obtain ⟨c, q, e2, _, _⟩ := @text3_form s x least k hv hr
  have hl : 20 ≤ (text3 s x least k).length := by rw [e2, List.length_append, List.length_cons]; show 20 ≤ 19 + (q.length + 1); lia
  generalize text3 s x least k = t at *
  have at_ : ∀ j v, i ≤ j + 1 → t[j]? = some (48 + v % 10) → ∃ w, (t.take i ++ [48] ++ t.drop i)[j + 1]? = some (48 + w % 10) := fun j v hj h => by
    have ht : (t.take i).length = i := by rw [List.length_take]; lia
    by_cases q : i = j + 1
    · refine ⟨0, ?_⟩
      rw [List.getElem?_append_left (by rw [List.length_append, ht, q]; exact Nat.lt_succ_self _), List.getElem?_append_right (by rw [ht, q]; exact Nat.le_refl _), ht, q, Nat.sub_self]; rfl
    · refine ⟨v, ?_⟩
      rw [List.getElem?_append_right (by rw [List.length_append, ht, List.length_singleton]; lia), List.getElem?_drop, List.length_append, ht, List.length_singleton, ← h]
      exact congrArg _ (by lia)
  by_cases k4 : i ≤ 4
  · obtain ⟨w, e⟩ := at_ 3 _ k4 (by rw [e2]; rfl)
    exact parse_at e (.inl ⟨.inl rfl, dg_ne (by decide)⟩)
  by_cases k7 : i ≤ 7
  · obtain ⟨w, e⟩ := at_ 6 _ k7 (by rw [e2]; rfl)
    exact parse_at e (.inl ⟨.inr rfl, dg_ne (by decide)⟩)
  by_cases k10 : i ≤ 10
  · obtain ⟨w, e⟩ := at_ 9 _ k10 (by rw [e2]; rfl)
    exact parse_at e (.inr (.inl ⟨rfl, dg_ne (by decide), dg_ne (by decide)⟩))
  by_cases k13 : i ≤ 13
  · obtain ⟨w, e⟩ := at_ 12 _ k13 (by rw [e2]; rfl)
    exact parse_at e (.inr (.inr (.inl ⟨.inl rfl, dg_ne (by decide)⟩)))
  by_cases k16 : i ≤ 16
  · obtain ⟨w, e⟩ := at_ 15 _ k16 (by rw [e2]; rfl)
    exact parse_at e (.inr (.inr (.inl ⟨.inr rfl, dg_ne (by decide)⟩)))
  · obtain ⟨w, e⟩ := at_ 18 _ (by lia) (by rw [e2]; rfl)
    exact parse_19 e (dg w)
theorem tailP_open {y mo d h mi se : Int} {ds : List Nat} (hd : ds.all digit = true) : tailP y mo d h mi se (46 :: ds) = none := by
  have e := fracM_dot (z := []) hd (fun c r e => by cases e)
  rw [List.append_nil] at e
  rw [tailP, e]
  split
  · rfl
  · rename_i e
    split at e
    · cases e
    · cases e; exact tailM_none rfl
theorem last60 (hv : s.valid) (hr : Rng2 s) (hx : x = 84 ∨ x = 116) : parseM ((text3 s x least k).take ((text3 s x least k).length - 2) ++ [54, 48]) = none := by
  have f1 := (@fracX_ok s.ns least hv.1.2.2.2.2.2.1.1 hv.1.2.2.2.2.2.1.2).1
  unfold text3 textG
  rw [List.append_assoc]
  have one : ∀ c0 : Nat, parseM ((headG s.y s.mo s.d s.h s.mi s.se x ++ (fracX s.ns least ++ [c0])).take ((headG s.y s.mo s.d s.h s.mi s.se x ++ (fracX s.ns least ++ [c0])).length - 2) ++ [54, 48]) = none := fun c0 => by
    rcases @frac_shape s least hv with e | ⟨a, ds, e, hd⟩
    · rw [e, head19_eq hv]
      exact parse_19 (c := 48) rfl (by decide)
    · rw [e]
      obtain ⟨ds', l, hds⟩ : ∃ ds' l, a :: ds = ds' ++ [l] := ⟨(a :: ds).dropLast, (a :: ds).getLast (List.cons_ne_nil _ _), (List.dropLast_concat_getLast _).symm⟩
      rw [hds] at hd ⊢
      rw [show headG s.y s.mo s.d s.h s.mi s.se x ++ (46 :: (ds' ++ [l]) ++ [c0]) = (headG s.y s.mo s.d s.h s.mi s.se x ++ (46 :: ds')) ++ [l, c0] by simp only [List.append_assoc, List.cons_append, List.nil_append], List.length_append, show ([l, c0] : List Nat).length = 2 from rfl, Nat.add_sub_cancel, List.take_left, List.append_assoc]
      refine tail_none hr hx (tailP_open (ds := ds' ++ [54, 48]) ?_)
      rw [List.all_append, Bool.and_eq_true] at hd
      rw [List.all_append, hd.1]; rfl
  rcases zone_shape s.off k hr.o.1 hr.o.2 with z | z | ⟨c, a, b, m1, m2, hc, _, z⟩
  · rw [z]; exact one 90
  · rw [z]; exact one 122
  · rw [z, show headG s.y s.mo s.d s.h s.mi s.se x ++ (fracX s.ns least ++ [c, a, b, 58, m1, m2]) = (headG s.y s.mo s.d s.h s.mi s.se x ++ (fracX s.ns least ++ [c, a, b, 58])) ++ [m1, m2] by simp only [List.append_assoc, List.cons_append, List.nil_append], List.length_append, show ([m1, m2] : List Nat).length = 2 from rfl, Nat.add_sub_cancel, List.take_left, List.append_assoc, List.append_assoc]
    refine tail_none hr hx (tailP_zone f1 ⟨c, _, rfl, .inr (.inr hc)⟩ ?_)
    have hg : digV [54, 48] = 60 := by decide
    have h1 : ¬ (c = 90 ∨ c = 122) := by lia
    show (if c = 90 ∨ c = 122 then _ else if c = 43 ∨ c = 45 then (if digV [a, b] < 0 ∨ digV [54, 48] < 0 ∨ 58 ≠ 58 then none else if digV [a, b] > 23 ∨ digV [54, 48] > 59 then none else _) else none) = none
    rw [if_neg h1, if_pos hc]
    split
    · rfl
    · rw [if_pos (.inr (by rw [hg]; decide))]
end
end Mine

namespace Mine
open PySem

section
variable {s : St} {x : Nat} {least k : Int}
theorem last1 (hv : s.valid) (hr : Rng2 s) (hx : x = 84 ∨ x = 116) : parseM ((text3 s x least k).take ((text3 s x least k).length - 1)) = none := by
  have f1 := (@fracX_ok s.ns least hv.1.2.2.2.2.2.1.1 hv.1.2.2.2.2.2.1.2).1
  unfold text3 textG
  rw [List.append_assoc]
  have one : ∀ c0 : Nat, parseM ((headG s.y s.mo s.d s.h s.mi s.se x ++ (fracX s.ns least ++ [c0])).take ((headG s.y s.mo s.d s.h s.mi s.se x ++ (fracX s.ns least ++ [c0])).length - 1)) = none := fun c0 => by
    rw [← List.append_assoc, List.length_append, show ([c0] : List Nat).length = 1 from rfl, Nat.add_sub_cancel, List.take_left]
    rcases @frac_shape s least hv with e | ⟨a, ds, e, hd⟩
    · rw [e, head19_eq hv]
      exact parseM_short (Nat.lt_succ_self 19)
    · rw [e]
      exact tail_none hr hx (tailP_open hd)
  rcases zone_shape s.off k hr.o.1 hr.o.2 with z | z | ⟨c, a, b, m1, m2, hc, _, z⟩
  · rw [z]; exact one 90
  · rw [z]; exact one 122
  · rw [z, show headG s.y s.mo s.d s.h s.mi s.se x ++ (fracX s.ns least ++ [c, a, b, 58, m1, m2]) = (headG s.y s.mo s.d s.h s.mi s.se x ++ (fracX s.ns least ++ [c, a, b, 58, m1])) ++ [m2] by simp only [List.append_assoc, List.cons_append, List.nil_append], List.length_append, show ([m2] : List Nat).length = 1 from rfl, Nat.add_sub_cancel, List.take_left]
    exact tail_none hr hx (tailP_zone f1 ⟨c, _, rfl, .inr (.inr hc)⟩ (six hc rfl))
theorem more3 (hv : s.valid) (hr : Rng2 s) (hx : x = 84 ∨ x = 116) : parseM (text3 s x least k ++ [48]) = none := by
  have f1 := (@fracX_ok s.ns least hv.1.2.2.2.2.2.1.1 hv.1.2.2.2.2.2.1.2).1
  unfold text3 textG
  rw [List.append_assoc, List.append_assoc]
  rcases zone_shape s.off k hr.o.1 hr.o.2 with z | z | ⟨c, a, b, m1, m2, hc, _, z⟩
  · rw [z]; exact tail_none hr hx (tailP_zone f1 ⟨90, _, rfl, .inl rfl⟩ (by decide))
  · rw [z]; exact tail_none hr hx (tailP_zone f1 ⟨122, _, rfl, .inr (.inl rfl)⟩ (by decide))
  · rw [z]; exact tail_none hr hx (tailP_zone f1 ⟨c, _, rfl, .inr (.inr hc)⟩ (six hc rfl))
theorem text3_len (hv : s.valid) (hr : Rng2 s) : 20 ≤ (text3 s x least k).length ∧ (text3 s x least k).length ≤ 50 := by
  have l1 := (@fracX_ok s.ns least hv.1.2.2.2.2.2.1.1 hv.1.2.2.2.2.2.1.2).1.len
  have z := @zoneF2 s.off k hr.o.1 hr.o.2
  have l2 := z.len
  obtain ⟨c, q, ez, _⟩ := z.head
  have l3 : 1 ≤ (zoneS s.off k).length := by rw [ez]; exact Nat.le_add_left 1 _
  unfold text3 textG
  rw [List.length_append, List.length_append, headG_len hv, headL_length]
  lia
theorem take19 (hv : s.valid) : (text3 s x least k).take 19 = headG s.y s.mo s.d s.h s.mi s.se x := by
  unfold text3 textG
  rw [List.append_assoc]
  exact List.take_left' (by rw [headG_len hv, headL_length])
end
theorem bound_neg {i : Int} {n : Nat} (h : i < 0) : bound i n = (i + n).toNat := if_pos h
theorem tail_5 {y mo d h mi se : Int} : tailP y mo d h mi se [46, 53] = none := tailP_open (ds := [53]) (by decide)
theorem tail_Z {y mo d h mi se : Int} : tailP y mo d h mi se [46, 90] = none := by
  have := fracM_dot (ds := []) (z := [90]) (by decide) (fun c r e => by cases e; decide)
  rw [if_pos (by decide)] at this
  rw [tailP, show fracM [46, 90] = none from this]
theorem tail_10 {y mo d h mi se : Int} : tailP y mo d h mi se [46, 48, 49, 50, 51, 52, 53, 54, 55, 56, 57, 90] = none := by
  have := fracM_dot (ds := [48, 49, 50, 51, 52, 53, 54, 55, 56, 57]) (z := [90]) (by decide) (fun c r e => by cases e; decide)
  rw [if_pos (by decide)] at this
  rw [tailP, show fracM [46, 48, 49, 50, 51, 52, 53, 54, 55, 56, 57, 90] = none from this]

section
variable {N n : Nat}
theorem r3_harm (hn : 1 ≤ n) {s : St} (hv : s.valid) (hr : Rng2 s) {x : Nat} (hx : x = 84 ∨ x = 116) (least k kind p : Int) (k0 : 0 ≤ kind) (k1 : kind < 12) :
    ∃ t', run l3_T N n 28 [dS (text3 s x least k), .int kind, .int p] = .ok (dS t') ∧ parseM t' = none ∧ t'.length ≤ 200 := by
  obtain ⟨m, rfl⟩ := Nat.exists_eq_add_of_le' hn
  rw [run_at (show l3_T[28]? = some l3_law_harm from rfl) rfl]
  obtain ⟨l0, l1⟩ := @text3_len s x least k hv hr
  have p1 : ∀ i : Nat, i < 20 → parseM ((text3 s x least k).eraseIdx i) = none := fun i hi => erase3 hv hr hi
  have p2 : ∀ i : Nat, i < 20 → parseM ((text3 s x least k).take i ++ [48] ++ (text3 s x least k).drop i) = none := fun i hi => ins3 hv hr hi
  have p3 := @last60 s x least k hv hr hx
  have p4 := @last1 s x least k hv hr hx
  have p5 := @more3 s x least k hv hr hx
  have p6 := @take19 s x least k hv
  generalize text3 s x least k = t at *
  have p7 : ∀ w, tailP s.y s.mo s.d s.h s.mi s.se w = none → parseM (t.take 19 ++ w) = none := fun w hw => by rw [p6]; exact tail_none hr hx hw
  have b0 := Int.emod_nonneg p (show (t.length : Int) ≠ 0 by lia)
  have b1 := Int.emod_lt_of_pos p (show (0 : Int) < t.length by lia)
  have a0 := Int.emod_nonneg p (show (20 : Int) ≠ 0 by decide)
  have a1 := Int.emod_lt_of_pos p (show (0 : Int) < 20 by decide)
  obtain ⟨dc, hdc, ec⟩ := idx_mem (l := [.int 4, .int 7, .int 10, .int 13, .int 16]) (Int.emod_nonneg p (show (5 : Int) ≠ 0 by decide)) (Int.emod_lt_of_pos p (show (0 : Int) < 5 by decide))
  obtain ⟨c, rfl⟩ : ∃ c, dc = .int c := by
    simp only [List.mem_cons, List.mem_nil_iff, or_false] at hdc
    rcases hdc with rfl | rfl | rfl | rfl | rfl <;> exact ⟨_, rfl⟩
  have e1 : ev (run l3_T N m) (.bin .mod (.loc 2) (.b1 .len (.loc 0))) [some (dS t), some (.int kind), some (.int p), none, none, none] = .ok (.int (p % (t.length : Int))) := by
    show R.when (decide (0 < (t.length : Int))) (PyData.int (p % (t.length : Int))) = _
    rw [decide_eq_true (by lia)]; rfl
  generalize p % (t.length : Int) = b at b0 b1 e1
  have e2 : ev (run l3_T N m) (.bin .mod (.loc 2) (.cst (.int 20))) [some (dS t), some (.int kind), some (.int p), none, none, none] = .ok (.int (p % 20)) := rfl
  generalize p % 20 = a at a0 a1 e2
  have step : ∀ w, fin (execs (run l3_T N m) N (l3_law_harm.body.drop 1) [some (dS t), some (.int kind), some (.int p), some (.int b), some (.int a), some (.int c)]) = w → fin (execs (run l3_T N m) N l3_law_harm.body (start l3_law_harm [dS t, .int kind, .int p])) = w := fun w h => asgT_ (l := [.int b, .int a, .int c]) (ev_tup3 e1 e2 ((ev_ix rfl rfl).trans ec)) rfl h
  clear e1 e2 ec hdc
  have cl : ∀ i j, (cut t i j).length ≤ t.length := fun i j => cut_len
  have add3 : ∀ {f g h : PE} {X Y Z : List Nat}, ev (run l3_T N m) f [some (dS t), some (.int kind), some (.int p), some (.int b), some (.int a), some (.int c)] = .ok (dS X) → ev (run l3_T N m) g [some (dS t), some (.int kind), some (.int p), some (.int b), some (.int a), some (.int c)] = .ok (dS Y) → ev (run l3_T N m) h [some (dS t), some (.int kind), some (.int p), some (.int b), some (.int a), some (.int c)] = .ok (dS Z) → X.length ≤ t.length → Y.length ≤ 12 → Z.length ≤ t.length → ev (run l3_T N m) (.bin .add (.bin .add f g) h) [some (dS t), some (.int kind), some (.int p), some (.int b), some (.int a), some (.int c)] = .ok (dS (X ++ Y ++ Z)) := fun q1 q2 q3 r1 r2 r3 => ev_add (ev_add q1 q2 (by lia)) q3 (by rw [List.length_append]; lia)
  have add2 : ∀ {f g : PE} {X Y : List Nat}, ev (run l3_T N m) f [some (dS t), some (.int kind), some (.int p), some (.int b), some (.int a), some (.int c)] = .ok (dS X) → ev (run l3_T N m) g [some (dS t), some (.int kind), some (.int p), some (.int b), some (.int a), some (.int c)] = .ok (dS Y) → X.length ≤ t.length → Y.length ≤ t.length → ev (run l3_T N m) (.bin .add f g) [some (dS t), some (.int kind), some (.int p), some (.int b), some (.int a), some (.int c)] = .ok (dS (X ++ Y)) := fun q1 q2 r1 r2 => ev_add q1 q2 (by lia)
  obtain ⟨d, hd, e⟩ : ∃ d, d ∈ [dS (cut t 0 (bound b t.length) ++ [1635] ++ cut t (bound (b + 1) t.length) t.length), dS (cut t 0 (bound c t.length) ++ [120] ++ cut t (bound (c + 1) t.length) t.length), dS (cut t 0 (bound a t.length) ++ cut t (bound (a + 1) t.length) t.length), dS (cut t 0 (bound a t.length) ++ [48] ++ cut t (bound a t.length) t.length), dS (cut t 0 (bound (-3) t.length) ++ [120] ++ cut t (bound (-2) t.length) t.length), dS (cut t 0 (bound (-2) t.length) ++ [54, 48]), dS (cut t 0 (bound (-1) t.length)), dS (t ++ [48]), dS (cut t 0 (bound 19 t.length)), dS (cut t 0 (bound 19 t.length) ++ [46, 53]), dS (cut t 0 (bound 19 t.length) ++ [46, 90]), dS (cut t 0 (bound 19 t.length) ++ [46, 48, 49, 50, 51, 52, 53, 54, 55, 56, 57, 90])] ∧ fin (execs (run l3_T N m) N (l3_law_harm.body.drop 1) [some (dS t), some (.int kind), some (.int p), some (.int b), some (.int a), some (.int c)]) = .ok d :=
    ret_idx (j := kind)
    (evs_c (add3 (Y := [1635]) rfl rfl rfl (cl _ _) (by decide) (cl _ _)) (evs_c (add3 (Y := [120]) rfl rfl rfl (cl _ _) (by decide) (cl _ _)) (evs_c (add2 rfl rfl (cl _ _) (cl _ _)) (evs_c (add3 (Y := [48]) rfl rfl rfl (cl _ _) (by decide) (cl _ _)) (evs_c (add3 (Y := [120]) rfl rfl rfl (cl _ _) (by decide) (cl _ _)) (evs_c (add2 (Y := [54, 48]) rfl rfl (cl _ _) (Nat.le_trans (by decide) l0)) (evs_c (d := dS (cut t 0 (bound (-1) t.length))) rfl (evs_c (add2 (Y := [48]) rfl rfl (Nat.le_refl _) (Nat.le_trans (by decide) l0))
      (evs_c (d := dS (cut t 0 (bound 19 t.length))) rfl (evs_c (add2 (Y := [46, 53]) rfl rfl (cl _ _) (Nat.le_trans (by decide) l0)) (evs_c (add2 (Y := [46, 90]) rfl rfl (cl _ _) (Nat.le_trans (by decide) l0)) (evs_c (add2 (Y := [46, 48, 49, 50, 51, 52, 53, 54, 55, 56, 57, 90]) rfl rfl (cl _ _) (Nat.le_trans (by decide) l0)) rfl)))))))))))) rfl k0 k1
  have ok : ∃ t', d = dS t' ∧ parseM t' = none ∧ t'.length ≤ 200 := by
    have c1 : ∀ i, cut t 0 i = t.take i := fun i => cut_take
    have c2 : ∀ i, cut t i t.length = t.drop i := fun i => cut_drop'
    have ba : bound a t.length = a.toNat := bound_in a0 (by lia)
    have ba1 : bound (a + 1) t.length = a.toNat + 1 := (bound_in (by lia) (by lia)).trans (by lia)
    have b19 : bound 19 t.length = 19 := bound_in (by decide) (by lia)
    have tk : ∀ i, (t.take i).length ≤ t.length := fun i => by rw [List.length_take]; lia
    simp only [List.mem_cons, List.mem_nil_iff, or_false] at hd
    rcases hd with rfl | rfl | rfl | rfl | rfl | rfl | rfl | rfl | rfl | rfl | rfl | rfl
    · exact ⟨_, rfl, parse_bad (c := 1635) (by simp) (by decide), by have := cl 0 (bound b t.length); have := cl (bound (b + 1) t.length) t.length; simp only [List.length_append, List.length_singleton]; lia⟩
    · exact ⟨_, rfl, parse_bad (c := 120) (by simp) (by decide), by have := cl 0 (bound c t.length); have := cl (bound (c + 1) t.length) t.length; simp only [List.length_append, List.length_singleton]; lia⟩
    · refine ⟨_, rfl, ?_, ?_⟩
      · rw [ba, ba1, c1, c2, ← List.eraseIdx_eq_take_drop_succ]; exact p1 _ (by lia)
      · have := cl 0 (bound a t.length); have := cl (bound (a + 1) t.length) t.length; rw [List.length_append]; lia
    · refine ⟨_, rfl, ?_, ?_⟩
      · rw [ba, c1, c2]; exact p2 _ (by lia)
      · have := cl 0 (bound a t.length); have := cl (bound a t.length) t.length; simp only [List.length_append, List.length_singleton]; lia
    · exact ⟨_, rfl, parse_bad (c := 120) (by simp) (by decide), by have := cl 0 (bound (-3) t.length); have := cl (bound (-2) t.length) t.length; simp only [List.length_append, List.length_singleton]; lia⟩
    · refine ⟨_, rfl, ?_, ?_⟩
      · rw [c1, bound_neg (by decide), show ((-2 : Int) + t.length).toNat = t.length - 2 by lia]; exact p3
      · have := cl 0 (bound (-2) t.length); rw [List.length_append, show ([54, 48] : List Nat).length = 2 from rfl]; lia
    · refine ⟨_, rfl, ?_, Nat.le_trans (cl _ _) (by lia)⟩
      rw [c1, bound_neg (by decide), show ((-1 : Int) + t.length).toNat = t.length - 1 by lia]; exact p4
    · exact ⟨_, rfl, p5, by rw [List.length_append, List.length_singleton]; lia⟩
    · refine ⟨_, rfl, ?_, Nat.le_trans (cl _ _) (by lia)⟩
      rw [c1, b19]; exact parseM_short (by rw [List.length_take]; lia)
    · refine ⟨_, rfl, ?_, ?_⟩
      · rw [c1, b19]; exact p7 _ tail_5
      · have := cl 0 (bound 19 t.length); rw [List.length_append, show ([46, 53] : List Nat).length = 2 from rfl]; lia
    · refine ⟨_, rfl, ?_, ?_⟩
      · rw [c1, b19]; exact p7 _ tail_Z
      · have := cl 0 (bound 19 t.length); rw [List.length_append, show ([46, 90] : List Nat).length = 2 from rfl]; lia
    · refine ⟨_, rfl, ?_, ?_⟩
      · rw [c1, b19]; exact p7 _ tail_10
      · have := cl 0 (bound 19 t.length); rw [List.length_append, show ([46, 48, 49, 50, 51, 52, 53, 54, 55, 56, 57, 90] : List Nat).length = 12 from rfl]; lia
  obtain ⟨t', rfl, h1, h2⟩ := ok
  exact ⟨t', step _ e, h1, h2⟩
end
end Mine

namespace Mine
open PySem

section
variable {C : Calls} {N : Nat} {ρ ρ' : Env'} {r : List PS} {w : R PyData}
theorem tryOk_ {x y : Nat} {e u : PE} {v : PyData} (h : ev C e ρ = .ok v) (hρ : ρ.set x (some v) = ρ') (k : fin (execs C N r ρ') = w) : fin (execs C N (.tryAsg x e y u :: r) ρ) = w := by
  rw [execs_step (ρ' := ρ')]
  · exact k
  · rw [execE_tryAsg, h, ← hρ]
theorem tryExcT_ {x y : Nat} {e : PE} (h : ev C e ρ = .exc false) (hρ : ρ.set y (some (.tuple [])) = ρ') (k : fin (execs C N r ρ') = w) : fin (execs C N (.tryAsg x e y (.tup []) :: r) ρ) = w := by
  rw [execs_step (ρ' := ρ')]
  · exact k
  · rw [execE_tryAsg, h, ← hρ]
theorem tryExcC_ {x y : Nat} {e : PE} {v : PyData} (h : ev C e ρ = .exc false) (hρ : ρ.set y (some v) = ρ') (k : fin (execs C N r ρ') = w) : fin (execs C N (.tryAsg x e y (.cst v) :: r) ρ) = w := by
  rw [execs_step (ρ' := ρ')]
  · exact k
  · rw [execE_tryAsg, h, ← hρ]
end
noncomputable abbrev noneD : PyData := .tuple []
section
variable {N n : Nat}
theorem r3_same (hn : 1 ≤ n) {l : List PyData} (h : l.all flat = true) (hl : l.length ≤ 100) : run l3_T N n 31 [.tuple l, .tuple l] = .ok (.bool true) := by
  obtain ⟨p, rfl⟩ := Nat.exists_eq_add_of_le' hn
  rw [run_at (show l3_T[31]? = some l3_law_same from rfl) rfl]
  refine skip_ ?_ (retO_ ?_)
  · show cmpop .ne (.tuple l) (.tuple l) = _
    rw [cmpop_2, deq_11, h, decide_eq_true hl, feqs_refl h]; rfl
  · show allR (l.map fun d => ev (run l3_T N p) (.or (.isNone (.loc 0)) (.typeIs (.loc 0) .int)) [some d]) = _
    refine allR_true fun x hx => ?_
    obtain ⟨y, hy, rfl⟩ := List.mem_map.mp hx
    have := List.all_eq_true.mp h y hy
    cases y <;> first | rfl | cases this
theorem D_flat (s : St) : [PyData.int s.y, .int s.mo, .int s.d, .int s.h, .int s.mi, .int s.se, .int s.ns, offD s.off].all flat = true := by
  cases h : s.off <;> rfl
theorem r3_sameD (hn : 1 ≤ n) (s : St) : run l3_T N n 31 [s.D, s.D] = .ok (.bool true) := r3_same hn (D_flat s) (show (8 : Nat) ≤ 100 by decide)
theorem r3_read (hn : 7 ≤ n) {t : List Nat} (hN : t.length + 12 ≤ N) : run l3_T N n 29 [dS t] = .ok (match parseM t with | some s => s.D | none => noneD) := by
  obtain ⟨p, rfl⟩ := Nat.exists_eq_add_of_le' hn
  rw [run_at (show l3_T[29]? = some l3_law_read from rfl) rfl]
  have e := @run_parse l3_T isT3 N (p + 6) (by lia) t hN
  cases h : parseM t with
  | some s =>
    rw [h] at e
    exact tryOk_ (ρ' := [some (dS t), some s.D]) (v := s.D) (ev_call1 (x := dS t) rfl e) rfl (retO_ rfl)
  | none =>
    rw [h] at e
    exact tryExcT_ (ρ' := [some (dS t), some noneD]) (ev_call1 (x := dS t) rfl e) rfl (retO_ rfl)
noncomputable def moveD (d s ns : Int) (off : Option Int) : PyData := if instOk d s ns off then (instSt d s ns off).D else noneD
theorem r3_move (hn : 7 ≤ n) (hN : 12 ≤ N) (d s ns : Int) (off : Option Int) : run l3_T N n 30 [.tuple [.int d, .int s, .int ns], offD off] = .ok (moveD d s ns off) := by
  obtain ⟨p, rfl⟩ := Nat.exists_eq_add_of_le' hn
  rw [run_at (show l3_T[30]? = some l3_law_move from rfl) rfl]
  have e := @run_from_instant l3_T isT3 N (p + 6) (by lia) hN d s ns off
  unfold moveD
  by_cases h : instOk d s ns off
  · rw [if_pos h] at e ⊢
    exact tryOk_ (ρ' := [some (.tuple [.int d, .int s, .int ns]), some (offD off), some (instSt d s ns off).D]) (v := (instSt d s ns off).D) (ev_call2 (x := .tuple [.int d, .int s, .int ns]) (y := offD off) rfl rfl e) rfl (retO_ rfl)
  · rw [if_neg h] at e ⊢
    exact tryExcT_ (ρ' := [some (.tuple [.int d, .int s, .int ns]), some (offD off), some noneD]) (ev_call2 (x := .tuple [.int d, .int s, .int ns]) (y := offD off) rfl rfl e) rfl (retO_ rfl)
theorem inst_valid {d s ns : Int} {off : Option Int} (h0 : 0 ≤ s) (h1 : s ≤ 86400) : instOk d s ns off ↔ (instSt d s ns off).valid := by
  refine ⟨fun h => h.2.2, fun hv => ⟨?_, ⟨h0, h1⟩, hv⟩⟩
  have a := cY_nonneg.mp hv.1.1.1
  have b := cY_le.mp hv.1.1.2
  unfold instT
  exact ⟨Classical.byContradiction fun q => absurd a (by lia), Classical.byContradiction fun q => absurd b (by lia)⟩
theorem r3_moved (hn : 5 ≤ n) (q sec ns : Int) (off : Option Int) (s0 : -1 ≤ sec) (s1 : sec ≤ 86401) (o0 : -1440 ≤ shift off) (o1 : shift off ≤ 1440) : run l3_T N n 32 [civD q, .int sec, .int ns, offD off] = .ok (moveD q sec ns off) := by
  obtain ⟨p, rfl⟩ := Nat.exists_eq_add_of_le' hn
  rw [run_at (show l3_T[32]? = some l3_law_moved from rfl) rfl]
  have hs := @r3_shift N (p + 4) (by lia) off
  obtain ⟨mn, hmn⟩ : ∃ mn : Int, (if 1439 < sec / 60 then 1439 else sec / 60) = mn := ⟨_, rfl⟩
  refine asg_ (ρ' := [some (civD q), some (.int sec), some (.int ns), some (offD off), some (.int mn), none, none]) (d := .int mn) (by rw [← hmn]; rfl) rfl ?_
  refine asg_ (ρ' := [some (civD q), some (.int sec), some (.int ns), some (offD off), some (.int mn), some (.int (mn + shift off)), none]) (d := .int (mn + shift off)) ((ev_bin (x := .int mn) (y := .int (shift off)) rfl (ev_call1 (x := offD off) rfl hs)).trans rfl) rfl ?_
  have tl : ev (run l3_T N (p + 4)) (.tup [(.bin .div (.bin .mod (.loc 5) (.cst (.int 1440))) (.cst (.int 60))), (.bin .mod (.loc 5) (.cst (.int 60))), (.bin .sub (.loc 1) (.bin .mul (.loc 4) (.cst (.int 60)))), (.loc 2), (.loc 3)]) [some (civD q), some (.int sec), some (.int ns), some (offD off), some (.int mn), some (.int (mn + shift off)), none] =
      .ok (.tuple [.int ((mn + shift off) % 1440 / 60), .int ((mn + shift off) % 60), .int (sec - mn * 60), .int ns, offD off]) := by
    rw [evE_tup, evs_c (d := .int ((mn + shift off) % 1440 / 60)) rfl (evs_c (d := .int ((mn + shift off) % 60)) rfl (evs_c ((ev_bin (x := .int sec) (y := .int (mn * 60)) rfl ((ev_bin (x := .int mn) (y := .int 60) rfl rfl).trans (mulR rfl))).trans rfl) (evs_c (d := .int ns) rfl (evs_c (d := offD off) rfl rfl))))]; rfl
  by_cases hsec : 0 ≤ sec
  · have m0 : 0 ≤ mn ∧ mn ≤ 1439 := by rw [← hmn]; split <;> lia
    have st := @r3_stepC N (p + 4) (by lia) q ((mn + shift off) / 1440) (by lia) (by lia)
    obtain ⟨S, hS⟩ : ∃ S : St, S = ⟨cY (q + (mn + shift off) / 1440), cMo (q + (mn + shift off) / 1440), cD (q + (mn + shift off) / 1440), (mn + shift off) % 1440 / 60, (mn + shift off) % 60, sec - mn * 60, ns, off⟩ := ⟨_, rfl⟩
    refine asg_ (ρ' := [some (civD q), some (.int sec), some (.int ns), some (offD off), some (.int mn), some (.int (mn + shift off)), some S.D]) (d := S.D) ?_ rfl ?_
    · rw [hS]
      exact (ev_bin (x := civD (q + (mn + shift off) / 1440)) (ev_call2 (x := civD q) (y := .int ((mn + shift off) / 1440)) rfl rfl st) tl).trans rfl
    · refine retO_ ((ev_iteP (P := 0 ≤ sec ∧ S.valid) (x := S.D) (y := noneD) (ev_and rfl fun _ => ev_call1 (x := S.D) rfl (r3_valid (by lia) S)) (fun _ => rfl) (fun _ => rfl)).trans (congrArg R.ok ?_))
      unfold moveD
      by_cases h64 : sec ≤ 86400
      · have e : S = instSt q sec ns off := by
          have em : mnOf sec = mn := by rw [← hmn]; unfold mnOf; split <;> split <;> split <;> lia
          rw [← (@mv_eq q sec ns off hsec h64).1, hS]
          unfold mvSt
          rw [em, show (mn + shift off) % 1440 % 60 = (mn + shift off) % 60 by lia]
        by_cases hv : S.valid
        · rw [if_pos ⟨hsec, hv⟩, if_pos ((inst_valid hsec h64).mpr (e ▸ hv)), e]
        · rw [if_neg fun z => hv z.2, if_neg fun z => hv (e ▸ (inst_valid hsec h64).mp z)]
      · rw [if_neg fun z => ?_, if_neg fun z => h64 z.2.1.2]
        have e : S.se = sec - mn * 60 := by rw [hS]
        have e2 : mn = 1439 := by rw [← hmn, if_pos (by lia)]
        rcases z.2.2 with y | y <;> lia
  · obtain ⟨a, b, c, e⟩ := stepD_is (cY q) (cMo q) (cD q) ((mn + shift off) / 1440)
    have st := @r3_step N (p + 4) (by lia) (cY q) (cMo q) (cMo_bounds q).1 (cMo_bounds q).2 (cD q) ((mn + shift off) / 1440)
    rw [e] at st
    refine asg_ (ρ' := [some (civD q), some (.int sec), some (.int ns), some (offD off), some (.int mn), some (.int (mn + shift off)), some (.tuple [.int a, .int b, .int c, .int ((mn + shift off) % 1440 / 60), .int ((mn + shift off) % 60), .int (sec - mn * 60), .int ns, offD off])]) (d := .tuple [.int a, .int b, .int c, .int ((mn + shift off) % 1440 / 60), .int ((mn + shift off) % 60), .int (sec - mn * 60), .int ns, offD off]) ?_ rfl ?_
    · exact (ev_bin (x := dateD a b c) (ev_call2 (x := civD q) (y := .int ((mn + shift off) / 1440)) rfl rfl st) tl).trans rfl
    · refine retO_ ((ev_iteP (P := False) (y := noneD) (x := noneD) ?_ (fun z => z.elim) (fun _ => rfl)).trans (congrArg R.ok ?_))
      · refine ev_andF ((ev_cmp (x := .int sec) (y := .int 0) rfl rfl).trans ?_)
        rw [cmpop_6, decide_eq_false hsec]
      · unfold moveD
        rw [if_neg id, if_neg fun z => hsec z.2.1.1]
end
end Mine

namespace Mine
open PySem

noncomputable def lt3 (a b c a' b' c' : Int) : Prop := a < a' ∨ (a = a' ∧ (b < b' ∨ (b = b' ∧ c < c')))
noncomputable instance (a b c a' b' c' : Int) : Decidable (lt3 a b c a' b' c') := by unfold lt3; infer_instance
theorem tlt_3 (a b c a' b' c' : Int) : tlt [.int a, .int b, .int c] [.int a', .int b', .int c'] = some (decide (lt3 a b c a' b' c')) := by
  have st : ∀ {a a' : Int} {P : Prop} [Decidable P] {l q : List PyData}, tlt l q = some (decide P) → tlt (.int a :: l) (.int a' :: q) = some (decide (a < a' ∨ (a = a' ∧ P))) := fun {a a' P} _ {l q} h => by
    rw [tltE_cons]
    by_cases e : a = a'
    · rw [decide_eq_true e, cond_true, h]
      exact congrArg some (decide_eq_decide.mpr ⟨fun p => .inr ⟨e, p⟩, fun z => z.elim (fun w => absurd w (by lia)) fun w => w.2⟩)
    · rw [decide_eq_false e, cond_false]
      exact congrArg some (decide_eq_decide.mpr ⟨.inl, fun z => z.elim id fun w => absurd w.1 e⟩)
  have e0 : tlt [.int c] [.int c'] = some (decide (c < c')) := by
    rw [st (P := False) rfl]
    exact congrArg some (decide_eq_decide.mpr ⟨fun z => z.elim id fun w => w.2.elim, .inl⟩)
  exact st (st e0)
noncomputable def ltI (a b : St) : Prop := lt3 (a.t / 1440) (a.t % 1440 * 60 + a.se) a.ns (b.t / 1440) (b.t % 1440 * 60 + b.se) b.ns
noncomputable instance (a b : St) : Decidable (ltI a b) := by unfold ltI; infer_instance
theorem tlt_I (a b : St) : tlt [.int (a.t / 1440), .int (a.t % 1440 * 60 + a.se), .int a.ns] [.int (b.t / 1440), .int (b.t % 1440 * 60 + b.se), .int b.ns] = some (decide (ltI a b)) := tlt_3 _ _ _ _ _ _
noncomputable def eqI (a b : St) : Prop := a.t / 1440 = b.t / 1440 ∧ a.t % 1440 * 60 + a.se = b.t % 1440 * 60 + b.se ∧ a.ns = b.ns
noncomputable instance (a b : St) : Decidable (eqI a b) := by unfold eqI; infer_instance
theorem deq_I (a b : St) : deq a.I b.I = some (decide (eqI a b)) := by
  show some (decide _ && (decide _ && (decide _ && true))) = _
  rw [Bool.and_true, ← Bool.decide_and, ← Bool.decide_and]
  exact congrArg some (decide_eq_decide.mpr Iff.rfl)
noncomputable def signI (a b : St) : Int := if ltI a b then -1 else if ltI b a then 1 else 0
theorem sign_eq (a b : St) : signI a b = if eqI a b then 0 else if ltI a b then -1 else 1 := by
  have k : (eqI a b → ¬ ltI a b ∧ ¬ ltI b a) ∧ (¬ eqI a b → ¬ ltI a b → ltI b a) := by
    unfold eqI ltI lt3
    generalize a.t / 1440 = a1
    generalize a.t % 1440 * 60 + a.se = a2
    generalize a.ns = a3
    generalize b.t / 1440 = b1
    generalize b.t % 1440 * 60 + b.se = b2
    generalize b.ns = b3
    refine ⟨fun ⟨g1, g2, g3⟩ => ?_, fun h1 h2 => ?_⟩
    · subst g1 g2 g3; exact ⟨by lia, by lia⟩
    · rcases Int.lt_trichotomy a1 b1 with g | g | g
      · exact absurd (.inl g) h2
      · rcases Int.lt_trichotomy a2 b2 with g2 | g2 | g2
        · exact absurd (.inr ⟨g, .inl g2⟩) h2
        · rcases Int.lt_trichotomy a3 b3 with g3 | g3 | g3
          · exact absurd (.inr ⟨g, .inr ⟨g2, g3⟩⟩) h2
          · exact absurd ⟨g, g2, g3⟩ h1
          · exact .inr ⟨g.symm, .inr ⟨g2.symm, g3⟩⟩
        · exact .inr ⟨g.symm, .inl g2⟩
      · exact .inl g
  unfold signI
  by_cases h1 : eqI a b
  · rw [if_neg (k.1 h1).1, if_neg (k.1 h1).2, if_pos h1]
  · rw [if_neg h1]
    by_cases h2 : ltI a b
    · rw [if_pos h2, if_pos h2]
    · rw [if_neg h2, if_neg h2, if_pos (k.2 h1 h2)]
section
variable {N n : Nat}
theorem r3_compare (hn : 5 ≤ n) {a b : St} (ha : Dated a) (hb : Dated b) : run l3_T N n 15 [a.D, b.D] = .ok (.int (signI a b)) := by
  obtain ⟨k, rfl⟩ := Nat.exists_eq_add_of_le' hn
  rw [run_at (show l3_T[15]? = some p_compare from rfl) rfl]
  have e1 := @run_instant l3_T isT3 N (k + 4) (by lia) a ha.m1 ha.m2
  have e2 := @run_instant l3_T isT3 N (k + 4) (by lia) b hb.m1 hb.m2
  refine asg_ (ρ' := [some a.D, some b.D, some a.I, none]) (d := a.I) (ev_call1 (x := a.D) rfl e1) rfl ?_
  refine asg_ (ρ' := [some a.D, some b.D, some a.I, some b.I]) (d := b.I) (ev_call1 (x := b.D) rfl e2) rfl ?_
  unfold signI
  refine if_ (P := ltI a b) ?_ (fun q => ?_) (fun q => ?_)
  · refine (ev_cmp (x := a.I) (y := b.I) rfl rfl).trans ?_
    rw [cmpop_7, tlt_I]; rfl
  · rw [if_pos q]; exact retO_ rfl
  rw [if_neg q]
  refine if_ (P := ltI b a) ?_ (fun q => ?_) (fun q => ?_)
  · refine (ev_cmp (x := a.I) (y := b.I) rfl rfl).trans ?_
    rw [cmpop_8, tlt_I]; rfl
  · rw [if_pos q]; exact retO_ rfl
  · rw [if_neg q]; exact retO_ rfl

theorem ne_self {l : List Nat} : cmpop .ne (dS l) (dS l) = .ok (.bool false) := by
  rw [cmpop_2, deq_2, decide_eq_true rfl]; rfl
theorem r3_asked (hn : 9 ≤ n) (hN : 100 ≤ N) {s : St} (hr : Rng2 s) : run l3_T N n 33 [s.D] = .ok (.bool true) := by
  obtain ⟨p, rfl⟩ := Nat.exists_eq_add_of_le' hn
  rw [run_at (show l3_T[33]? = some l3_law_asked from rfl) rfl]
  have e1 := @r3_valid N (p + 8) (by lia) s
  have e2 := @run_is_valid l3_T isT3 N (p + 8) (by lia) (by lia) s
  have e3 := @run_format l3_T isT3 N (p + 8) (by lia) (by lia) s
  refine asg_ (ρ' := [some s.D, some (.bool (decide s.valid)), none, none, none, none]) (d := .bool (decide s.valid)) (ev_call1 (x := s.D) rfl e1) rfl ?_
  refine asg_ (ρ' := [some s.D, some (.bool (decide s.valid)), some (.bool (decide s.valid)), none, none, none]) (d := .bool (decide s.valid)) (ev_call1 (x := s.D) rfl e2) rfl ?_
  by_cases hv : s.valid
  · rw [if_pos hv] at e3
    rw [decide_eq_true hv]
    have e4 := @r3_text N (p + 8) (by lia) s hr 84 0 0 (by decide)
    rw [text3_zero hv hr] at e4
    have e6 := @r3_instant N (p + 8) (by lia) s (valid_dated hv)
    have e7 := @run_to_instant l3_T isT3 N (p + 8) (by lia) s hv.1.2.1.1 hv.1.2.1.2
    have e8 := @r3_move N (p + 8) (by lia) (by lia) (s.t / 1440) (s.t % 1440 * 60 + s.se) s.ns s.off
    unfold moveD at e8
    rw [if_pos (instOk_self hv), (inst_self hv).1] at e8
    have e9 := @r3_read N (p + 8) (by lia) (fmtL s) (by have := (@text3_len s 84 0 0 hv hr).2; rw [text3_zero hv hr] at this; lia)
    rw [show parseM (fmtL s) = some s by rw [← text3_zero hv hr]; exact text3_good hv hr (.inl rfl) 0 0] at e9
    have sI := @r3_same N (p + 8) (by lia) [.int (s.t / 1440), .int (s.t % 1440 * 60 + s.se), .int s.ns] rfl (show (3 : Nat) ≤ 100 by decide)
    have sD := @r3_sameD N (p + 8) (by lia) s
    refine tryOk_ (ρ' := [some s.D, some (.bool true), some (.bool true), some (dS (fmtL s)), none, none]) (v := dS (fmtL s)) (ev_call1 (x := s.D) rfl e3) rfl ?_
    refine asg_ (ρ' := [some s.D, some (.bool true), some (.bool true), some (dS (fmtL s)), some (dS (fmtL s)), none]) (d := dS (fmtL s)) ?_ rfl ?_
    · exact (ev_iteP (P := True) (x := dS (fmtL s)) (y := dS (fmtL s)) rfl (fun _ => ev_call4 (x := s.D) (y := dS [84]) (z := dS (zedL 0)) (u := .int 0) rfl rfl rfl rfl e4) (fun z => absurd trivial z)).trans rfl
    refine skip_ (ev_orF rfl (ev_orF rfl ((ev_cmp (x := dS (fmtL s)) (y := dS (fmtL s)) rfl rfl).trans ne_self))) ?_
    refine take_ rfl ?_
    refine asg_ (ρ' := [some s.D, some (.bool true), some (.bool true), some (dS (fmtL s)), some (dS (fmtL s)), some s.I]) (d := s.I) (ev_call1 (x := s.D) rfl e6) rfl ?_
    refine skip_ (ev_orF (ev_notB (b := true) (ev_call2 (x := s.I) (y := s.I) (ev_call1 (x := s.D) rfl e7) rfl sI)) (ev_notB (b := true) (ev_call2 (x := s.D) (y := s.D) (ev_call2 (x := s.I) (y := offD s.off) rfl rfl e8) rfl sD))) ?_
    refine skip_ (ev_notB (b := true) (ev_call2 (x := s.D) (y := s.D) (ev_call1 (x := dS (fmtL s)) rfl e9) rfl sD)) ?_
    exact retO_ rfl
  · rw [if_neg hv] at e3
    rw [decide_eq_false hv]
    refine tryExcC_ (ρ' := [some s.D, some (.bool false), some (.bool false), some refD, none, none]) (ev_call1 (x := s.D) rfl e3) rfl ?_
    refine asg_ (ρ' := [some s.D, some (.bool false), some (.bool false), some refD, some refD, none]) (d := refD) rfl rfl ?_
    refine skip_ (ev_orF rfl (ev_orF rfl ((ev_cmp (x := refD) (y := refD) rfl rfl).trans ne_self))) ?_
    refine skip_ rfl ?_
    exact retO_ rfl
end
end Mine

namespace Mine
open PySem

section
variable {C : Calls} {N : Nat} {ρ ρ' : Env'} {r : List PS} {w : R Fl}
theorem xasg_ {x : Nat} {e : PE} {d : PyData} (h : ev C e ρ = .ok d) (hρ : ρ.set x (some d) = ρ') (k : execs C N r ρ' = w) : execs C N (.asg x e :: r) ρ = w := by
  rw [execs_step (exec_asg h), hρ]; exact k
theorem xasgT_ {xs : List Nat} {e : PE} {l : List PyData} (h : ev C e ρ = .ok (.tuple l)) (hρ : putAll xs l ρ = some ρ') (k : execs C N r ρ' = w) : execs C N (.asgT xs e :: r) ρ = w := by
  rw [execs_step (exec_asgT h hρ)]; exact k
theorem xskip_ {t : PE} {b : List PS} (h : ev C t ρ = .ok (.bool false)) (k : execs C N r ρ = w) : execs C N (.ite t b [] :: r) ρ = w := by
  rw [execs_if h]; exact k
end
theorem ne_D (s : St) : cmpop .ne s.D noneD = .ok (.bool true) := by
  rw [cmpop_2, deq_11, D_flat]; rfl
theorem ne_N : cmpop .ne noneD noneD = .ok (.bool false) := rfl
theorem offs {i : Int} (h0 : 0 ≤ i) (h1 : i < 10) : ∃ off, index (.list [.int 0, .none, .int 1, .int (-1), .int 330, .int (-570), .int 1439, .int (-1439), .int 1440, .int (-1440)]) (.int i) = .ok (offD off) ∧ (-1440 ≤ shift off ∧ shift off ≤ 1440) ∧ (i < 8 → -1439 ≤ shift off ∧ shift off ≤ 1439) := by
  have h : i = 0 ∨ i = 1 ∨ i = 2 ∨ i = 3 ∨ i = 4 ∨ i = 5 ∨ i = 6 ∨ i = 7 ∨ i = 8 ∨ i = 9 := by lia
  rcases h with rfl | rfl | rfl | rfl | rfl | rfl | rfl | rfl | rfl | rfl
  · exact ⟨some 0, rfl, by decide, fun _ => by decide⟩
  · exact ⟨none, rfl, by decide, fun _ => by decide⟩
  · exact ⟨some 1, rfl, by decide, fun _ => by decide⟩
  · exact ⟨some (-1), rfl, by decide, fun _ => by decide⟩
  · exact ⟨some 330, rfl, by decide, fun _ => by decide⟩
  · exact ⟨some (-570), rfl, by decide, fun _ => by decide⟩
  · exact ⟨some 1439, rfl, by decide, fun _ => by decide⟩
  · exact ⟨some (-1439), rfl, by decide, fun _ => by decide⟩
  · exact ⟨some 1440, rfl, by decide, fun z => absurd z (by decide)⟩
  · exact ⟨some (-1440), rfl, by decide, fun z => absurd z (by decide)⟩
theorem valid_rng {s : St} (h : s.valid) : Rng2 s := (due_valid.mpr h).1.rng
theorem r3_offsets {N n : Nat} (hn : 1 ≤ n) : run l3_T N n 17 [] = .ok (.list [.int 0, .none, .int 1, .int (-1), .int 330, .int (-570), .int 1439, .int (-1439), .int 1440, .int (-1440)]) := by
  obtain ⟨k, rfl⟩ := Nat.exists_eq_add_of_le' hn
  rfl

theorem idxI {L : List Int} {i : Int} (h0 : 0 ≤ i) (h1 : i < L.length) : ∃ v, v ∈ L ∧ index (.tuple (L.map PyData.int)) (.int i) = .ok (.int v) := by
  obtain ⟨d, hd, e⟩ := idx_mem (l := L.map PyData.int) h0 (by rw [List.length_map]; exact h1)
  obtain ⟨v, hv, rfl⟩ := List.mem_map.mp hd
  exact ⟨v, hv, e⟩
theorem modI {a m : Int} (h : 0 < m) : 0 ≤ a % m ∧ a % m < m := ⟨Int.emod_nonneg a (by lia), Int.emod_lt_of_pos a h⟩
theorem secs {c : St} (hc : c.valid) : 0 ≤ c.t % 1440 * 60 + c.se ∧ c.t % 1440 * 60 + c.se ≤ 86400 := by
  rcases hc.2 with z | z <;> lia
noncomputable abbrev turnB : List PS := match l3_law.body[18]? with | some (PS.forTup _ _ b) => b | _ => []
noncomputable def nextS (c : St) (q sec nn : Int) (off : Option Int) : St := if instOk q sec nn off then instSt q sec nn off else c
theorem nextS_valid {c : St} (hc : c.valid) {q sec nn : Int} {off : Option Int} : (nextS c q sec nn off).valid := by
  unfold nextS; split
  · rename_i h; exact h.2.2
  · exact hc
theorem moveD_same {N n : Nat} (hn : 1 ≤ n) (q sec nn : Int) (off : Option Int) : run l3_T N n 31 [moveD q sec nn off, moveD q sec nn off] = .ok (.bool true) := by
  unfold moveD; split
  · exact r3_sameD hn _
  · exact r3_same hn rfl (show (0 : Nat) ≤ 100 by decide)
theorem ne_move {q sec nn : Int} {off : Option Int} : cmpop .ne (moveD q sec nn off) noneD = .ok (.bool (decide (instOk q sec nn off))) := by
  unfold moveD
  by_cases h : instOk q sec nn off
  · rw [if_pos h, decide_eq_true h]; exact ne_D _
  · rw [if_neg h, decide_eq_false h]; exact ne_N

theorem turn3 {c : St} (hc : c.valid) (a b n k : Int) (e0 e1 e2 e3 e4 e5 e6 e7 e8 e9 e10 e11 e12 e13 e14 e15 e16 e22 e23 e24 e25 e26 e27 e28 : Option PyData) :
    ∃ c' f1 f13 f16 f18 f19 f20 f21 f22 f23 f24 f25 f26 f27 f28, St.valid c' ∧ execs (run l3_T 600 20) 600 turnB [e0, e1, e2, e3, e4, e5, e6, e7, e8, e9, e10, e11, e12, e13, e14, e15, e16, some (c.D), some (.int a), some (.int b), some (.int n), some (.int k), e22, e23, e24, e25, e26, e27, e28] = .ok (.next [e0, f1, e2, e3, e4, e5, e6, e7, e8, e9, e10, e11, e12, f13, e14, e15, f16, some c'.D, f18, f19, f20, f21, f22, f23, f24, f25, f26, f27, f28]) := by
  have hd := valid_dated hc
  have i1 := @r3_instant 600 20 (by decide) c hd
  have i2 := @r3_utc 600 20 (by decide) c hd
  have ho := secs hc
  obtain ⟨kk, mk, ek⟩ := @idxI [0, 0, 1, -1] (a % 4) (modI (by decide)).1 (modI (by decide)).2
  have hk : -1 ≤ kk ∧ kk ≤ 1 := by simp only [List.mem_cons, List.mem_nil_iff, or_false] at mk; lia
  obtain ⟨sec, ms, es⟩ := @idxI [c.t % 1440 * 60 + c.se, c.t % 1440 * 60 + c.se, 0, 86399, 86400, 86401, -1] (b % 7) (modI (by decide)).1 (modI (by decide)).2
  have hs : -1 ≤ sec ∧ sec ≤ 86401 := by simp only [List.mem_cons, List.mem_nil_iff, or_false] at ms; lia
  obtain ⟨nn, _, en⟩ := @idxI [n, c.ns, c.ns] (n % 3) (modI (by decide)).1 (modI (by decide)).2
  obtain ⟨off, eo, hof, _⟩ := @offs (k % 10) (modI (by decide)).1 (modI (by decide)).2
  clear mk ms ho
  have v1 := @r3_moved 600 20 (by decide) (c.t / 1440 + kk) sec nn off hs.1 hs.2 hof.1 hof.2
  have v2 := @r3_move 600 20 (by decide) (by decide) (c.t / 1440 + kk) sec nn off
  have v3 := @moveD_same 600 20 (by decide) (c.t / 1440 + kk) sec nn off
  have hv := @nextS_valid c hc (c.t / 1440 + kk) sec nn off
  have hne := @ne_move (c.t / 1440 + kk) sec nn off
  obtain ⟨c', hc'⟩ : ∃ c', nextS c (c.t / 1440 + kk) sec nn off = c' := ⟨_, rfl⟩
  rw [hc'] at hv
  have hsel : (if instOk (c.t / 1440 + kk) sec nn off then moveD (c.t / 1440 + kk) sec nn off else c.D) = c'.D := by
    rw [← hc']
    unfold nextS moveD
    split <;> rfl
  have i3 := @r3_instant 600 20 (by decide) c' (valid_dated hv)
  have i4 := @r3_asked 600 20 (by decide) (by decide) c' (valid_rng hv)
  have i5 := @r3_compare 600 20 (by decide) c c' hd (valid_dated hv)
  have i6 := @r3_same 600 20 (by decide) [.int (signI c c')] rfl (show (1 : Nat) ≤ 100 by decide)
  have i7 := @r3_stepC 600 20 (by decide) (c.t / 1440) kk hk.1 hk.2
  have i8 := @r3_daysC 600 20 (by decide) (c.t / 1440 + kk)
  generalize c.t / 1440 + kk = q at *
  generalize hM : moveD q sec nn off = M at *
  refine ⟨c', some (offD off), some M, some M, some (.int a), some (.int b), some (.int n), some (.int k), some c.I, some (civD q), some (.int sec), some (.tuple [.int q, .int sec, .int nn]), some c.D, some c'.I, some (.int (signI c c')), hv, ?_⟩
  refine xasg_ (ρ' := [e0, e1, e2, e3, e4, e5, e6, e7, e8, e9, e10, e11, e12, e13, e14, e15, e16, some (c.D), some (.int a), some (.int b), some (.int n), some (.int k), some (c.I), e23, e24, e25, e26, e27, e28]) (d := c.I) (ev_call1 (x := c.D) rfl i1) rfl ?_
  refine xasg_ (ρ' := [e0, e1, e2, e3, e4, e5, e6, e7, e8, e9, e10, e11, e12, e13, e14, e15, e16, some (c.D), some (.int a), some (.int b), some (.int n), some (.int k), some (c.I), some (civD q), e24, e25, e26, e27, e28]) (d := civD q) (ev_call2 (x := civD (c.t / 1440)) (y := .int kk) ((ev_ix (ev_call1 (x := c.D) rfl i2) rfl).trans rfl) ((ev_ix rfl rfl).trans ek) i7) rfl ?_
  refine xasg_ (ρ' := [e0, e1, e2, e3, e4, e5, e6, e7, e8, e9, e10, e11, e12, e13, e14, e15, e16, some (c.D), some (.int a), some (.int b), some (.int n), some (.int k), some (c.I), some (civD q), some (.int sec), e25, e26, e27, e28]) (d := .int sec) ((ev_ix rfl rfl).trans es) rfl ?_
  refine xasg_ (ρ' := [e0, e1, e2, e3, e4, e5, e6, e7, e8, e9, e10, e11, e12, e13, e14, e15, e16, some (c.D), some (.int a), some (.int b), some (.int n), some (.int k), some (c.I), some (civD q), some (.int sec), some (.tuple [.int q, .int sec, .int nn]), e26, e27, e28]) (d := .tuple [.int q, .int sec, .int nn]) (ev_tup3 (ev_call1 (x := civD q) rfl i8) rfl ((ev_ix rfl rfl).trans en)) rfl ?_
  refine xasg_ (ρ' := [e0, some (offD off), e2, e3, e4, e5, e6, e7, e8, e9, e10, e11, e12, e13, e14, e15, e16, some (c.D), some (.int a), some (.int b), some (.int n), some (.int k), some (c.I), some (civD q), some (.int sec), some (.tuple [.int q, .int sec, .int nn]), e26, e27, e28]) (d := offD off) ((ev_ix (ev_call0 (r3_offsets (by decide))) rfl).trans eo) rfl ?_
  refine xasg_ (ρ' := [e0, some (offD off), e2, e3, e4, e5, e6, e7, e8, e9, e10, e11, e12, some (M), e14, e15, e16, some (c.D), some (.int a), some (.int b), some (.int n), some (.int k), some (c.I), some (civD q), some (.int sec), some (.tuple [.int q, .int sec, .int nn]), e26, e27, e28]) (d := M) (ev_call4 (x := civD q) (y := .int sec) (z := .int nn) (u := offD off) rfl rfl rfl rfl v1) rfl ?_
  refine xasg_ (ρ' := [e0, some (offD off), e2, e3, e4, e5, e6, e7, e8, e9, e10, e11, e12, some (M), e14, e15, some (M), some (c.D), some (.int a), some (.int b), some (.int n), some (.int k), some (c.I), some (civD q), some (.int sec), some (.tuple [.int q, .int sec, .int nn]), e26, e27, e28]) (d := M) (ev_call2 (x := .tuple [.int q, .int sec, .int nn]) (y := offD off) rfl rfl v2) rfl ?_
  refine xskip_ (ev_notB (b := true) (ev_call2 (x := M) (y := M) rfl rfl v3)) ?_
  refine xasgT_ (ρ' := [e0, some (offD off), e2, e3, e4, e5, e6, e7, e8, e9, e10, e11, e12, some (M), e14, e15, some (M), some (c'.D), some (.int a), some (.int b), some (.int n), some (.int k), some (c.I), some (civD q), some (.int sec), some (.tuple [.int q, .int sec, .int nn]), some (c.D), e27, e28]) (l := [c.D, c'.D]) (ev_tup2 rfl ((ev_iteP (P := instOk q sec nn off) (x := M) (y := c.D) ((ev_cmp (x := M) (y := noneD) rfl rfl).trans hne) (fun _ => rfl) (fun _ => rfl)).trans (congrArg R.ok hsel))) rfl ?_
  refine xasg_ (ρ' := [e0, some (offD off), e2, e3, e4, e5, e6, e7, e8, e9, e10, e11, e12, some (M), e14, e15, some (M), some (c'.D), some (.int a), some (.int b), some (.int n), some (.int k), some (c.I), some (civD q), some (.int sec), some (.tuple [.int q, .int sec, .int nn]), some (c.D), some (c'.I), e28]) (d := c'.I) (ev_call1 (x := c'.D) rfl i3) rfl ?_
  refine xasg_ (ρ' := [e0, some (offD off), e2, e3, e4, e5, e6, e7, e8, e9, e10, e11, e12, some (M), e14, e15, some (M), some (c'.D), some (.int a), some (.int b), some (.int n), some (.int k), some (c.I), some (civD q), some (.int sec), some (.tuple [.int q, .int sec, .int nn]), some (c.D), some (c'.I), some (.int (signI c c'))]) (d := .int (signI c c')) ?_ rfl ?_
  · rw [sign_eq]
    refine (ev_iteP (P := eqI c c') (x := .int 0) (y := if ltI c c' then .int (-1) else .int 1) ((ev_cmp (x := c.I) (y := c'.I) rfl rfl).trans ?_) (fun _ => rfl) (fun _ => ev_iteP (P := ltI c c') ((ev_cmp (x := c.I) (y := c'.I) rfl rfl).trans ?_) (fun _ => rfl) (fun _ => rfl))).trans ?_
    · rw [cmpop_1, deq_I]; rfl
    · rw [cmpop_7, tlt_I]; rfl
    · split
      · rfl
      · split <;> rfl
  exact xskip_ (ev_orF (ev_notB (b := true) (ev_call1 (x := c'.D) rfl i4)) (ev_notB (b := true) (ev_call2 (x := .tuple [.int (signI c c')]) (y := .tuple [.int (signI c c')]) (ev_tup1 (ev_call2 (x := c.D) (y := c'.D) rfl rfl i5)) (ev_tup1 rfl) i6))) rfl
end Mine

namespace Mine
open PySem
theorem forTup_ {C : Calls} {N : Nat} {ρ ρ' : Env'} {r b : List PS} {w : R PyData} {xs : List Nat} {e : PE} {l : List PyData} (h : ev C e ρ = .ok (.tuple l)) (hl : loopF (tset xs) (fun ρ => execs C N b ρ) l ρ = .ok (.next ρ')) (k : fin (execs C N r ρ') = w) : fin (execs C N (.forTup xs e b :: r) ρ) = w := by
  rw [execs_step (ρ' := ρ')]
  · exact k
  · rw [execE_forTup, h, R.bind_ok]
    exact (congrArg noExc hl).trans rfl
theorem ev_tup4 {C : Calls} {ρ : Env'} {a b c d : PE} {x y z u : PyData} (h1 : ev C a ρ = .ok x) (h2 : ev C b ρ = .ok y) (h3 : ev C c ρ = .ok z) (h4 : ev C d ρ = .ok u) : ev C (.tup [a, b, c, d]) ρ = .ok (.tuple [x, y, z, u]) := by
  rw [evE_tup, evs_c h1 (evs3 h2 h3 h4)]; rfl

theorem tail3 {S : PyData} {a14 a15 a16 a17 a18 a19 a20 a21 : Int} (h14 : index S (.int 14) = .ok (.int a14)) (h15 : index S (.int 15) = .ok (.int a15)) (h16 : index S (.int 16) = .ok (.int a16)) (h17 : index S (.int 17) = .ok (.int a17)) (h18 : index S (.int 18) = .ok (.int a18)) (h19 : index S (.int 19) = .ok (.int a19)) (h20 : index S (.int 20) = .ok (.int a20)) (h21 : index S (.int 21) = .ok (.int a21)) {c : St} (hc : c.valid) (e1 e2 e3 e4 e5 e6 e7 e8 e9 e10 e11 e12 e13 e14 e15 e16 e18 e19 e20 e21 e22 e23 e24 e25 e26 e27 e28 : Option PyData) :
    fin (execs (run l3_T 600 20) 600 (l3_law.body.drop 18) [some (S), e1, e2, e3, e4, e5, e6, e7, e8, e9, e10, e11, e12, e13, e14, e15, e16, some (c.D), e18, e19, e20, e21, e22, e23, e24, e25, e26, e27, e28]) = .ok (.bool true) := by
  obtain ⟨c1, f1, f13, f16, f18, f19, f20, f21, f22, f23, f24, f25, f26, f27, f28, hc1, t1⟩ := turn3 hc a14 a15 a16 a17 (some S) e1 e2 e3 e4 e5 e6 e7 e8 e9 e10 e11 e12 e13 e14 e15 e16 e22 e23 e24 e25 e26 e27 e28
  obtain ⟨c2, g1, g13, g16, g18, g19, g20, g21, g22, g23, g24, g25, g26, g27, g28, _, t2⟩ := turn3 hc1 a18 a19 a20 a21 (some S) f1 e2 e3 e4 e5 e6 e7 e8 e9 e10 e11 e12 f13 e14 e15 f16 f22 f23 f24 f25 f26 f27 f28
  refine forTup_ (ev_tup2 (ev_tup4 h14 h15 h16 h17) (ev_tup4 h18 h19 h20 h21)) ((loopF_step rfl t1).trans ((loopF_step rfl t2).trans rfl)) ?_
  exact retO_ rfl
noncomputable def c0 : St := ⟨2016, 12, 31, 23, 59, 60, 500000000, none⟩
theorem c0_valid : c0.valid := by
  have e : c0.t = dFC 2016 12 31 * 1440 + 1439 := by show (dFC 2016 12 31 * 24 + 23) * 60 + 59 - 0 = _; lia
  have e1 : c0.t / 1440 = dFC 2016 12 31 := by rw [e]; lia
  have e2 : c0.t % 1440 = 1439 := by rw [e]; lia
  have k := dFC_1231 2016
  have e3 : dFC 2016 12 31 = 736694 := by rw [k]; decide
  refine ⟨⟨⟨by decide, by decide⟩, ⟨by decide, by decide⟩, ⟨by decide, by decide⟩, ⟨by decide, by decide⟩, ⟨by decide, by decide⟩, ⟨by decide, by decide⟩, ⟨by decide, by decide⟩⟩, .inr ⟨rfl, e2, ?_, .inr ?_⟩⟩
  · rw [e1, e3]; exact ⟨by decide, by decide⟩
  · rw [e1]; exact ⟨cMo_dFC (by decide) (by decide) (by decide) (by decide), cD_dFC (by decide) (by decide) (by decide) (by decide)⟩

theorem text3_le {s : St} (hr : Rng2 s) (x : Nat) (least k : Int) : (text3 s x least k).length ≤ 300 := by
  obtain ⟨⟨ry, rmo, rd, rh, rmi, rse⟩, rn, ro⟩ := hr
  have z := (@zoneF2 s.off k ro.1 ro.2).len
  have L0 := @padL_le s.y 4 (by lia) (by lia) (by decide)
  have M1 := @padL_le s.mo 2 (by lia) (by lia) (by decide)
  have M2 := @padL_le s.d 2 (by lia) (by lia) (by decide)
  have M3 := @padL_le s.h 2 (by lia) (by lia) (by decide)
  have M4 := @padL_le s.mi 2 (by lia) (by lia) (by decide)
  have M5 := @padL_le s.se 2 (by lia) (by lia) (by decide)
  have f := @fracT_len s.ns least rn.1 rn.2
  have f2 : (fracX s.ns least).length ≤ 22 := by unfold fracX; split <;> simp only [List.length_cons, List.length_nil] <;> lia
  unfold text3 textG headG
  simp only [List.length_append, List.length_singleton]; lia
set_option maxHeartbeats 1000000 in
theorem law3_B {S : PyData} {a10 a11 a12 a13 a14 a15 a16 a17 a18 a19 a20 a21 : Int} (h10 : index S (.int 10) = .ok (.int a10)) (h11 : index S (.int 11) = .ok (.int a11)) (h12 : index S (.int 12) = .ok (.int a12)) (h13 : index S (.int 13) = .ok (.int a13)) (h14 : index S (.int 14) = .ok (.int a14)) (h15 : index S (.int 15) = .ok (.int a15)) (h16 : index S (.int 16) = .ok (.int a16)) (h17 : index S (.int 17) = .ok (.int a17)) (h18 : index S (.int 18) = .ok (.int a18)) (h19 : index S (.int 19) = .ok (.int a19)) (h20 : index S (.int 20) = .ok (.int a20)) (h21 : index S (.int 21) = .ok (.int a21)) {s : St} (hr : Rng2 s) (e1 e2 e3 e4 e5 e6 e7 e9 e10 e11 e12 e13 e14 e15 e16 e17 e18 e19 e20 e21 e22 e23 e24 e25 e26 e27 e28 : Option PyData) :
    fin (execs (run l3_T 600 20) 600 (l3_law.body.drop 11) [some (S), e1, e2, e3, e4, e5, e6, e7, some (s.D), e9, e10, e11, e12, e13, e14, e15, e16, e17, e18, e19, e20, e21, e22, e23, e24, e25, e26, e27, e28]) = .ok (.bool true) := by
  have v := @r3_valid 600 20 (by decide) s
  have ask := @r3_asked 600 20 (by decide) (by decide) s hr
  have T := fun {c : St} hc => @tail3 S a14 a15 a16 a17 a18 a19 a20 a21 h14 h15 h16 h17 h18 h19 h20 h21 c hc
  have m10 := @modI a10 10 (by decide)
  have m3 := @modI a10 3 (by decide)
  have m2 := @modI a10 2 (by decide)
  have m12 := @modI a12 12 (by decide)
  obtain ⟨x, hx, ex⟩ : ∃ x : Nat, (x = 84 ∨ x = 116) ∧ index (dS [84, 116]) (.int (a10 % 2)) = .ok (dS [x]) := by
    have : a10 % 2 = 0 ∨ a10 % 2 = 1 := by lia
    rcases this with e | e <;> rw [e]
    · exact ⟨84, .inl rfl, rfl⟩
    · exact ⟨116, .inr rfl, rfl⟩
  obtain ⟨k, ez⟩ : ∃ k, index (.tuple [dS [90], dS [122], dS plus0]) (.int (a10 % 3)) = .ok (dS (zedL k)) := by
    refine ⟨a10 % 3, ?_⟩
    have : a10 % 3 = 0 ∨ a10 % 3 = 1 ∨ a10 % 3 = 2 := by lia
    rcases this with e | e | e <;> rw [e] <;> rfl
  clear m3 m2
  have E10 : ∀ {r : Env'} {m : Int}, 0 < m → ev (run l3_T 600 20) (.bin .mod (.idx (.loc 0) (.cst (.int 10))) (.cst (.int m))) (some S :: r) = .ok (.int (a10 % m)) := fun {r m} hm => (ev_bin (x := .int a10) (y := .int m) (show ev (run l3_T 600 20) (.idx (.loc 0) (.cst (.int 10))) (some S :: r) = .ok (.int a10) from h10) rfl).trans (by rw [binop_5, decide_eq_true hm]; rfl)
  by_cases hv : s.valid
  · rw [decide_eq_true hv] at v
    refine asg_ (ρ' := [some (S), e1, e2, e3, e4, e5, e6, e7, some (s.D), e9, e10, e11, e12, some (s.D), e14, e15, e16, e17, e18, e19, e20, e21, e22, e23, e24, e25, e26, e27, e28]) (d := s.D) ((ev_iteP (P := True) (x := s.D) (y := noneD) (ev_call1 (x := s.D) rfl v) (fun _ => rfl) (fun _ => rfl)).trans rfl) rfl ?_
    refine asg_ (ρ' := [some (S), e1, e2, e3, e4, e5, e6, e7, some (s.D), e9, e10, e11, e12, some (s.D), some (.int (a10 % 10)), e15, e16, e17, e18, e19, e20, e21, e22, e23, e24, e25, e26, e27, e28]) (d := .int (a10 % 10)) ((ev_iteP (P := True) (x := .int (a10 % 10)) (y := .int 10) ((ev_cmp (x := s.D) (y := noneD) rfl rfl).trans (ne_D s)) (fun _ => E10 (by decide)) (fun _ => rfl)).trans rfl) rfl ?_
    have good := @text3_good s hv hr x hx (a10 % 10) k
    have len := (@text3_len s x (a10 % 10) k hv hr).2
    obtain ⟨t1, q28, b1, b2⟩ := @r3_harm 600 20 (by decide) s hv hr x hx (a10 % 10) k (a12 % 12) a13 m12.1 m12.2
    have q27 := @r3_text 600 20 (by decide) s hr x k (a10 % 10) m10.1
    generalize text3 s x (a10 % 10) k = t at *
    refine asg_ (ρ' := [some (S), e1, e2, e3, e4, e5, e6, e7, some (s.D), e9, e10, e11, e12, some (s.D), some (.int (a10 % 10)), some (dS t), e16, e17, e18, e19, e20, e21, e22, e23, e24, e25, e26, e27, e28]) (d := dS t) (ev_call4 (x := s.D) (y := dS [x]) (z := dS (zedL k)) (u := .int (a10 % 10)) rfl ((ev_ix rfl (E10 (by decide))).trans ex) ((ev_ix rfl (E10 (by decide))).trans ez) rfl (q27)) rfl ?_
    have tst : ev (run l3_T 600 20) (.and (.cmp .ne (.loc 13) (.tup [])) (.cmp .eq (.bin .mod (.idx (.loc 0) (.cst (.int 11))) (.cst (.int 3))) (.cst (.int 1)))) [some (S), e1, e2, e3, e4, e5, e6, e7, some (s.D), e9, e10, e11, e12, some (s.D), some (.int (a10 % 10)), some (dS t), e16, e17, e18, e19, e20, e21, e22, e23, e24, e25, e26, e27, e28] = .ok (.bool (decide (a11 % 3 = 1))) := ev_andT ((ev_cmp (x := s.D) (y := noneD) rfl rfl).trans (ne_D s)) ((ev_cmp (x := .int (a11 % 3)) (y := .int 1) ((ev_bin (x := .int a11) (y := .int 3) (by exact h11) rfl).trans rfl) rfl).trans rfl)
    refine if_ tst (fun _ => ?_) (fun _ => ?_)
    · have rd := @r3_read 600 20 (by decide) t1 (by lia)
      rw [b1] at rd
      have sm := @r3_same 600 20 (by decide) [] rfl (show (0 : Nat) ≤ 100 by decide)
      refine asgT_ (ρ' := [some (S), e1, e2, e3, e4, e5, e6, e7, some (s.D), e9, e10, e11, e12, some (noneD), some (.int (a10 % 10)), some (dS t1), e16, e17, e18, e19, e20, e21, e22, e23, e24, e25, e26, e27, e28]) (l := [dS t1, noneD]) (ev_tup2 (ev_call3 (x := dS t) (y := .int (a12 % 12)) (z := .int a13) rfl ((ev_bin (x := .int a12) (y := .int 12) (by exact h12) rfl).trans rfl) h13 q28) rfl) rfl ?_
      refine asg_ (ρ' := [some (S), e1, e2, e3, e4, e5, e6, e7, some (s.D), e9, e10, e11, e12, some (noneD), some (.int (a10 % 10)), some (dS t1), some (noneD), e17, e18, e19, e20, e21, e22, e23, e24, e25, e26, e27, e28]) (d := noneD) (ev_call1 (x := dS t1) rfl rd) rfl ?_
      refine skip_ (ev_orF (ev_notB (b := true) (ev_call1 (x := s.D) rfl ask)) (ev_notB (b := true) (ev_call2 (x := noneD) (y := noneD) rfl rfl sm))) ?_
      refine asg_ (ρ' := [some (S), e1, e2, e3, e4, e5, e6, e7, some (s.D), e9, e10, e11, e12, some (noneD), some (.int (a10 % 10)), some (dS t1), some (noneD), some (c0.D), e18, e19, e20, e21, e22, e23, e24, e25, e26, e27, e28]) (d := c0.D) ((ev_iteP (P := False) (x := c0.D) (y := c0.D) ((ev_cmp (x := noneD) (y := noneD) rfl rfl).trans ne_N) (fun z => z.elim) (fun _ => rfl)).trans rfl) rfl ?_
      exact T c0_valid _ _ _ _ _ _ _ _ _ _ _ _ _ _ _ _ _ _ _ _ _ _ _ _ _ _ _
    · have rd := @r3_read 600 20 (by decide) t (by lia)
      rw [good] at rd
      have sm := @r3_sameD 600 20 (by decide) s
      refine asg_ (ρ' := [some (S), e1, e2, e3, e4, e5, e6, e7, some (s.D), e9, e10, e11, e12, some (s.D), some (.int (a10 % 10)), some (dS t), some (s.D), e17, e18, e19, e20, e21, e22, e23, e24, e25, e26, e27, e28]) (d := s.D) (ev_call1 (x := dS t) rfl rd) rfl ?_
      refine skip_ (ev_orF (ev_notB (b := true) (ev_call1 (x := s.D) rfl ask)) (ev_notB (b := true) (ev_call2 (x := s.D) (y := s.D) rfl rfl sm))) ?_
      refine asg_ (ρ' := [some (S), e1, e2, e3, e4, e5, e6, e7, some (s.D), e9, e10, e11, e12, some (s.D), some (.int (a10 % 10)), some (dS t), some (s.D), some (s.D), e18, e19, e20, e21, e22, e23, e24, e25, e26, e27, e28]) (d := s.D) ((ev_iteP (P := True) (x := s.D) (y := s.D) ((ev_cmp (x := s.D) (y := noneD) rfl rfl).trans (ne_D s)) (fun _ => rfl) (fun z => absurd trivial z)).trans rfl) rfl ?_
      exact T hv _ _ _ _ _ _ _ _ _ _ _ _ _ _ _ _ _ _ _ _ _ _ _ _ _ _ _
  · rw [decide_eq_false hv] at v
    have bad := @text3_bad s hr hv x hx k
    have q27 := @r3_text 600 20 (by decide) s hr x k 10 (by decide)
    have len : (text3 s x 10 k).length ≤ 300 := text3_le hr x 10 k
    generalize text3 s x 10 k = t at *
    refine asg_ (ρ' := [some (S), e1, e2, e3, e4, e5, e6, e7, some (s.D), e9, e10, e11, e12, some (noneD), e14, e15, e16, e17, e18, e19, e20, e21, e22, e23, e24, e25, e26, e27, e28]) (d := noneD) ((ev_iteP (P := False) (x := s.D) (y := noneD) (ev_call1 (x := s.D) rfl v) (fun _ => rfl) (fun _ => rfl)).trans rfl) rfl ?_
    refine asg_ (ρ' := [some (S), e1, e2, e3, e4, e5, e6, e7, some (s.D), e9, e10, e11, e12, some (noneD), some (.int 10), e15, e16, e17, e18, e19, e20, e21, e22, e23, e24, e25, e26, e27, e28]) (d := .int 10) rfl rfl ?_
    refine asg_ (ρ' := [some (S), e1, e2, e3, e4, e5, e6, e7, some (s.D), e9, e10, e11, e12, some (noneD), some (.int 10), some (dS t), e16, e17, e18, e19, e20, e21, e22, e23, e24, e25, e26, e27, e28]) (d := dS t) (ev_call4 (x := s.D) (y := dS [x]) (z := dS (zedL k)) (u := .int 10) rfl ((ev_ix rfl (E10 (by decide))).trans ex) ((ev_ix rfl (E10 (by decide))).trans ez) rfl (q27)) rfl ?_
    refine skip_ (ev_andF rfl) ?_
    have rd := @r3_read 600 20 (by decide) t (by lia)
    rw [bad] at rd
    have sm := @r3_same 600 20 (by decide) [] rfl (show (0 : Nat) ≤ 100 by decide)
    refine asg_ (ρ' := [some (S), e1, e2, e3, e4, e5, e6, e7, some (s.D), e9, e10, e11, e12, some (noneD), some (.int 10), some (dS t), some (noneD), e17, e18, e19, e20, e21, e22, e23, e24, e25, e26, e27, e28]) (d := noneD) (ev_call1 (x := dS t) rfl rd) rfl ?_
    refine skip_ (ev_orF (ev_notB (b := true) (ev_call1 (x := s.D) rfl ask)) (ev_notB (b := true) (ev_call2 (x := noneD) (y := noneD) rfl rfl sm))) ?_
    refine asg_ (ρ' := [some (S), e1, e2, e3, e4, e5, e6, e7, some (s.D), e9, e10, e11, e12, some (noneD), some (.int 10), some (dS t), some (noneD), some (c0.D), e18, e19, e20, e21, e22, e23, e24, e25, e26, e27, e28]) (d := c0.D) ((ev_iteP (P := False) (x := c0.D) (y := c0.D) ((ev_cmp (x := noneD) (y := noneD) rfl rfl).trans ne_N) (fun z => z.elim) (fun _ => rfl)).trans rfl) rfl ?_
    exact T c0_valid _ _ _ _ _ _ _ _ _ _ _ _ _ _ _ _ _ _ _ _ _ _ _ _ _ _ _
end Mine

namespace Mine
open PySem
structure Made3 (s : St) : Prop where
  y : 0 ≤ s.y ∧ s.y ≤ 9999
  mo : 1 ≤ s.mo ∧ s.mo ≤ 12
  d : 0 ≤ s.d ∧ s.d ≤ 32
  h : 0 ≤ s.h ∧ s.h ≤ 23
  mi : 0 ≤ s.mi ∧ s.mi ≤ 59
  se : 0 ≤ s.se ∧ s.se ≤ 60
  n : 0 ≤ s.ns ∧ s.ns ≤ 999999999
  o : -1439 ≤ shift s.off ∧ shift s.off ≤ 1439
theorem le_ {a b c d x : Int} (h : a ≤ x ∧ x ≤ b) (h1 : c ≤ a) (h2 : b ≤ d) : c ≤ x ∧ x ≤ d := ⟨Int.le_trans h1 h.1, Int.le_trans h.2 h2⟩
theorem val_ok {v0 lo hi j : Int} (h : lo ≤ hi) (j0 : 0 ≤ j) (j1 : j < 8) : ∃ v, index (.tuple [.int v0, .int v0, .int v0, .int v0, .int (lo - 1), .int lo, .int hi, .int (hi + 1)]) (.int j) = .ok (.int v) ∧ (v = v0 ∨ (lo - 1 ≤ v ∧ v ≤ hi + 1)) := by
  obtain ⟨v, m, e⟩ := @idxI [v0, v0, v0, v0, lo - 1, lo, hi, hi + 1] j j0 j1
  refine ⟨v, e, ?_⟩
  simp only [List.mem_cons, List.mem_nil_iff, or_false] at m
  lia
theorem Made3.rng {s : St} (h : Made3 s) : Rng2 s :=
  ⟨⟨le_ h.y (by decide) (by decide), le_ h.mo (by decide) (by decide), le_ h.d (by decide) (by decide), le_ h.h (by decide) (by decide), le_ h.mi (by decide) (by decide), le_ h.se (by decide) (by decide)⟩, le_ h.n (by decide) (by decide), le_ h.o (by decide) (by decide)⟩
theorem in_ {v v0 lo hi : Int} (h : v = v0 ∨ (lo ≤ v ∧ v ≤ hi)) (w : lo ≤ v0 ∧ v0 ≤ hi) : lo ≤ v ∧ v ≤ hi := h.elim (fun e => e ▸ w) id
noncomputable abbrev listD (s : St) : List PyData := [.int s.y, .int s.mo, .int s.d, .int s.h, .int s.mi, .int s.se, .int s.ns, offD s.off]
theorem set3 {s : St} (hs : Made3 s) {i j : Int} (i0 : 0 ≤ i) (i1 : i < 8) (j0 : 0 ≤ j) (j1 : j < 8) : ∃ (lo hi : Int) (x v : PyData) (A : List PyData) (s' : St), index (.list boundsL) (.int i) = .ok (bnd i lo hi) ∧ index s.D (.int i) = .ok x ∧ index (.tuple [x, x, x, x, .int (lo - 1), .int lo, .int hi, .int (hi + 1)]) (.int j) = .ok v ∧
    binop .add (.tuple (cut (listD s) 0 (bound i 8))) (.tuple [v]) = .ok (.tuple A) ∧ binop .add (.tuple A) (.tuple (cut (listD s) (bound (i + 1) 8) 8)) = .ok s'.D ∧ Rng2 s' := by
  have w := hs.rng
  have h : i = 0 ∨ i = 1 ∨ i = 2 ∨ i = 3 ∨ i = 4 ∨ i = 5 ∨ i = 6 ∨ i = 7 := by lia
  clear i0 i1
  rcases h with rfl | rfl | rfl | rfl | rfl | rfl | rfl | rfl
  · obtain ⟨v, e, hv⟩ := @val_ok s.y 0 9999 j (by decide) j0 j1
    exact ⟨0, 9999, .int s.y, .int v, _, { s with y := v }, rfl, rfl, e, rfl, rfl, ⟨⟨in_ hv w.r.y, w.r.mo, w.r.d, w.r.h, w.r.mi, w.r.se⟩, w.n, w.o⟩⟩
  · obtain ⟨v, e, hv⟩ := @val_ok s.mo 1 12 j (by decide) j0 j1
    exact ⟨1, 12, .int s.mo, .int v, _, { s with mo := v }, rfl, rfl, e, rfl, rfl, ⟨⟨w.r.y, in_ hv w.r.mo, w.r.d, w.r.h, w.r.mi, w.r.se⟩, w.n, w.o⟩⟩
  · obtain ⟨v, e, hv⟩ := @val_ok s.d 1 31 j (by decide) j0 j1
    exact ⟨1, 31, .int s.d, .int v, _, { s with d := v }, rfl, rfl, e, rfl, rfl, ⟨⟨w.r.y, w.r.mo, in_ hv w.r.d, w.r.h, w.r.mi, w.r.se⟩, w.n, w.o⟩⟩
  · obtain ⟨v, e, hv⟩ := @val_ok s.h 0 23 j (by decide) j0 j1
    exact ⟨0, 23, .int s.h, .int v, _, { s with h := v }, rfl, rfl, e, rfl, rfl, ⟨⟨w.r.y, w.r.mo, w.r.d, in_ hv w.r.h, w.r.mi, w.r.se⟩, w.n, w.o⟩⟩
  · obtain ⟨v, e, hv⟩ := @val_ok s.mi 0 59 j (by decide) j0 j1
    exact ⟨0, 59, .int s.mi, .int v, _, { s with mi := v }, rfl, rfl, e, rfl, rfl, ⟨⟨w.r.y, w.r.mo, w.r.d, w.r.h, in_ hv w.r.mi, w.r.se⟩, w.n, w.o⟩⟩
  · obtain ⟨v, e, hv⟩ := @val_ok s.se 0 60 j (by decide) j0 j1
    exact ⟨0, 60, .int s.se, .int v, _, { s with se := v }, rfl, rfl, e, rfl, rfl, ⟨⟨w.r.y, w.r.mo, w.r.d, w.r.h, w.r.mi, in_ hv w.r.se⟩, w.n, w.o⟩⟩
  · obtain ⟨v, e, hv⟩ := @val_ok s.ns 0 999999999 j (by decide) j0 j1
    exact ⟨0, 999999999, .int s.ns, .int v, _, { s with ns := v }, rfl, rfl, e, rfl, rfl, ⟨⟨w.r.y, w.r.mo, w.r.d, w.r.h, w.r.mi, w.r.se⟩, in_ hv w.n, w.o⟩⟩
  · obtain ⟨v, m, e⟩ := idx_mem (l := [offD s.off, offD s.off, offD s.off, offD s.off, .int (-1439 - 1), .int (-1439), .int 1439, .int (1439 + 1)]) j0 j1
    obtain ⟨o, rfl, ho⟩ : ∃ o, v = offD o ∧ -1440 ≤ shift o ∧ shift o ≤ 1440 := by
      simp only [List.mem_cons, List.mem_nil_iff, or_false] at m
      rcases m with rfl | rfl | rfl | rfl | rfl | rfl | rfl | rfl
      · exact ⟨s.off, rfl, w.o⟩
      · exact ⟨s.off, rfl, w.o⟩
      · exact ⟨s.off, rfl, w.o⟩
      · exact ⟨s.off, rfl, w.o⟩
      · exact ⟨some (-1440), rfl, by decide⟩
      · exact ⟨some (-1439), rfl, by decide⟩
      · exact ⟨some 1439, rfl, by decide⟩
      · exact ⟨some 1440, rfl, by decide⟩
    exact ⟨-1439, 1439, offD s.off, offD o, _, { s with off := o }, rfl, rfl, e, rfl, rfl, ⟨⟨w.r.y, w.r.mo, w.r.d, w.r.h, w.r.mi, w.r.se⟩, w.n, ho⟩⟩
noncomputable abbrev datesL : List PyData := [dateD 0 1 1, dateD 0 1 1, dateD 9999 12 31, dateD 96 12 31, dateD 1904 1 1, dateD 1900 2 29, dateD 2000 2 29, dateD 2016 6 30, dateD 2015 7 1, dateD 2001 1 1, dateD 2024 3 1, dateD 2023 2 28]
theorem dates {i : Int} (h0 : 0 ≤ i) (h1 : i < 12) : ∃ y m d, index (.list datesL) (.int i) = .ok (dateD y m d) ∧ (0 ≤ y ∧ y ≤ 9999) ∧ (1 ≤ m ∧ m ≤ 12) ∧ (0 ≤ d ∧ d ≤ 32) := by
  have h : i = 0 ∨ i = 1 ∨ i = 2 ∨ i = 3 ∨ i = 4 ∨ i = 5 ∨ i = 6 ∨ i = 7 ∨ i = 8 ∨ i = 9 ∨ i = 10 ∨ i = 11 := by lia
  rcases h with rfl | rfl | rfl | rfl | rfl | rfl | rfl | rfl | rfl | rfl | rfl | rfl <;> exact ⟨_, _, _, rfl, by decide, by decide, by decide⟩
theorem r3_dates {N n : Nat} (hn : 1 ≤ n) : run l3_T N n 16 [] = .ok (.list datesL) := by
  obtain ⟨k, rfl⟩ := Nat.exists_eq_add_of_le' hn
  rfl

theorem law3_A {S : PyData} {a0 a1 a2 a3 a4 a5 a6 a7 a8 a9 a10 a11 a12 a13 a14 a15 a16 a17 a18 a19 a20 a21 : Int} (h0 : index S (.int 0) = .ok (.int a0)) (h1 : index S (.int 1) = .ok (.int a1)) (h2 : index S (.int 2) = .ok (.int a2)) (h3 : index S (.int 3) = .ok (.int a3)) (h4 : index S (.int 4) = .ok (.int a4)) (h5 : index S (.int 5) = .ok (.int a5)) (h6 : index S (.int 6) = .ok (.int a6)) (h7 : index S (.int 7) = .ok (.int a7)) (h8 : index S (.int 8) = .ok (.int a8)) (h9 : index S (.int 9) = .ok (.int a9)) (h10 : index S (.int 10) = .ok (.int a10)) (h11 : index S (.int 11) = .ok (.int a11)) (h12 : index S (.int 12) = .ok (.int a12)) (h13 : index S (.int 13) = .ok (.int a13)) (h14 : index S (.int 14) = .ok (.int a14)) (h15 : index S (.int 15) = .ok (.int a15)) (h16 : index S (.int 16) = .ok (.int a16)) (h17 : index S (.int 17) = .ok (.int a17)) (h18 : index S (.int 18) = .ok (.int a18)) (h19 : index S (.int 19) = .ok (.int a19)) (h20 : index S (.int 20) = .ok (.int a20)) (h21 : index S (.int 21) = .ok (.int a21)) :
    fin (execs (run l3_T 600 20) 600 (l3_law.body.drop 1) [some (S), none, none, none, none, none, none, none, none, none, none, none, none, none, none, none, none, none, none, none, none, none, none, none, none, none, none, none, none]) = .ok (.bool true) := by
  have EM : ∀ {i m a : Int} {r : Env'}, index S (.int i) = .ok (.int a) → 0 < m → ev (run l3_T 600 20) (.bin .mod (.idx (.loc 0) (.cst (.int i))) (.cst (.int m))) (some S :: r) = .ok (.int (a % m)) := fun {i m a r} h hm => (ev_bin (x := .int a) (y := .int m) (show ev (run l3_T 600 20) (.idx (.loc 0) (.cst (.int i))) (some S :: r) = .ok (.int a) from h) rfl).trans (by rw [binop_5, decide_eq_true hm]; rfl)
  have sh := fun off => @r3_shift 600 20 (by decide) off
  obtain ⟨off, eo, _, ho⟩ := @offs (a4 % 8) (modI (by decide)).1 (Int.lt_trans (modI (by decide)).2 (by decide))
  replace ho := ho (modI (by decide)).2
  obtain ⟨y, m, d, eb, b1, b2, b3⟩ := @dates (a0 % 12) (modI (by decide)).1 (modI (by decide)).2
  obtain ⟨d2, md, ed⟩ := @idxI [1, 15, 28, 29, 30, 31, 32, 0] (a3 % 8) (modI (by decide)).1 (modI (by decide)).2
  have hd2 : 0 ≤ d2 ∧ d2 ≤ 32 := by simp only [List.mem_cons, List.mem_nil_iff, or_false] at md; lia
  have m0 := @modI a0 10000 (by decide)
  have m2 := @modI a2 12 (by decide)
  obtain ⟨Y, M, D, eD, c1, c2, c3⟩ : ∃ Y M D, index (.tuple [dateD y m d, dateD y (1 + a2 % 12) d2, dateD (a0 % 10000) (1 + a2 % 12) d2]) (.int (a1 % 3)) = .ok (dateD Y M D) ∧ (0 ≤ Y ∧ Y ≤ 9999) ∧ (1 ≤ M ∧ M ≤ 12) ∧ (0 ≤ D ∧ D ≤ 32) := by
    obtain ⟨v, mv, ev⟩ := idx_mem (l := [dateD y m d, dateD y (1 + a2 % 12) d2, dateD (a0 % 10000) (1 + a2 % 12) d2]) (@modI a1 3 (by decide)).1 (@modI a1 3 (by decide)).2
    simp only [List.mem_cons, List.mem_nil_iff, or_false] at mv
    rcases mv with rfl | rfl | rfl
    · exact ⟨_, _, _, ev, b1, b2, b3⟩
    · exact ⟨_, _, _, ev, b1, by lia, hd2⟩
    · exact ⟨_, _, _, ev, by lia, by lia, hd2⟩
  have m5 := @modI a5 1440 (by decide)
  have m6 := @modI (1439 + shift off) 1440 (by decide)
  obtain ⟨mn, mm, em⟩ := @idxI [(1439 + shift off) % 1440, 0, a5 % 1440] (a5 % 3) (modI (by decide)).1 (modI (by decide)).2
  have hmn : 0 ≤ mn ∧ mn ≤ 1439 := by simp only [List.mem_cons, List.mem_nil_iff, or_false] at mm; lia
  have m7 := @modI a7 1000000000 (by decide)
  obtain ⟨na, mna, en⟩ := @idxI [0, 120000000, a7 % 1000000000] (a7 % 3) (modI (by decide)).1 (modI (by decide)).2
  have hna : 0 ≤ na ∧ na ≤ 999999999 := by simp only [List.mem_cons, List.mem_nil_iff, or_false] at mna; lia
  obtain ⟨se, mse, es⟩ := @idxI [0, 59, 60, 42] (a6 % 4) (modI (by decide)).1 (modI (by decide)).2
  have hse : 0 ≤ se ∧ se ≤ 60 := by simp only [List.mem_cons, List.mem_nil_iff, or_false] at mse; lia
  clear md mm mna mse m0 m2 m5 m6 m7 b1 b2 b3 hd2
  obtain ⟨s, hs⟩ : ∃ s : St, s = ⟨Y, M, D, mn / 60, mn % 60, se, na, off⟩ := ⟨_, rfl⟩
  have hm : Made3 s := by rw [hs]; exact ⟨c1, c2, c3, by lia, by lia, hse, hna, ho⟩
  have hD : s.D = .tuple [.int Y, .int M, .int D, .int (mn / 60), .int (mn % 60), .int se, .int na, offD off] := by rw [hs]
  obtain ⟨lo, hi, x, v, A, s', f1, f2, f3, f4, f5, hr⟩ := @set3 s hm (a8 % 8) (a9 % 8) (modI (by decide)).1 (modI (by decide)).2 (modI (by decide)).1 (modI (by decide)).2
  clear hm c1 c2 c3 hse hna ho hmn
  refine asg_ (ρ' := [some (S), some (offD off), none, none, none, none, none, none, none, none, none, none, none, none, none, none, none, none, none, none, none, none, none, none, none, none, none, none, none]) (d := offD off) ((ev_ix (ev_call0 (r3_offsets (by decide))) (EM h4 (by decide))).trans eo) rfl ?_
  refine asg_ (ρ' := [some (S), some (offD off), some (dateD y m d), none, none, none, none, none, none, none, none, none, none, none, none, none, none, none, none, none, none, none, none, none, none, none, none, none, none]) (d := dateD y m d) ((ev_ix (ev_call0 (r3_dates (by decide))) (EM h0 (by decide))).trans eb) rfl ?_
  refine asgT_ (ρ' := [some (S), some (offD off), some (dateD y m d), some (.int (1 + a2 % 12)), some (.int d2), none, none, none, none, none, none, none, none, none, none, none, none, none, none, none, none, none, none, none, none, none, none, none, none]) (l := [.int (1 + a2 % 12), .int d2]) (ev_tup2 ((ev_bin (x := .int 1) (y := .int (a2 % 12)) rfl (EM h2 (by decide))).trans rfl) ((ev_ix rfl (EM h3 (by decide))).trans ed)) rfl ?_
  refine asg_ (ρ' := [some (S), some (offD off), some (dateD y m d), some (.int (1 + a2 % 12)), some (.int d2), some (dateD Y M D), none, none, none, none, none, none, none, none, none, none, none, none, none, none, none, none, none, none, none, none, none, none, none]) (d := dateD Y M D) ((ev_ix (ev_tup3 (x := dateD y m d) (y := dateD y (1 + a2 % 12) d2) (z := dateD (a0 % 10000) (1 + a2 % 12) d2) rfl rfl (ev_tup3 (EM h0 (by decide)) rfl rfl)) (EM h1 (by decide))).trans eD) rfl ?_
  refine asg_ (ρ' := [some (S), some (offD off), some (dateD y m d), some (.int (1 + a2 % 12)), some (.int d2), some (dateD Y M D), some (.int mn), none, none, none, none, none, none, none, none, none, none, none, none, none, none, none, none, none, none, none, none, none, none]) (d := .int mn) ((ev_ix (ev_tup3 (x := .int ((1439 + shift off) % 1440)) (y := .int 0) (z := .int (a5 % 1440)) ((ev_bin (x := .int (1439 + shift off)) (y := .int 1440) ((ev_bin (x := .int 1439) (y := .int (shift off)) rfl (ev_call1 (x := offD off) rfl (sh off))).trans rfl) rfl).trans rfl) rfl (EM h5 (by decide))) (EM h5 (by decide))).trans em) rfl ?_
  refine asg_ (ρ' := [some (S), some (offD off), some (dateD y m d), some (.int (1 + a2 % 12)), some (.int d2), some (dateD Y M D), some (.int mn), some (.int na), none, none, none, none, none, none, none, none, none, none, none, none, none, none, none, none, none, none, none, none, none]) (d := .int na) ((ev_ix (ev_tup3 (x := .int 0) (y := .int 120000000) (z := .int (a7 % 1000000000)) rfl rfl (EM h7 (by decide))) (EM h7 (by decide))).trans en) rfl ?_
  refine asg_ (ρ' := [some (S), some (offD off), some (dateD y m d), some (.int (1 + a2 % 12)), some (.int d2), some (dateD Y M D), some (.int mn), some (.int na), some (s.D), none, none, none, none, none, none, none, none, none, none, none, none, none, none, none, none, none, none, none, none]) (d := s.D) (by rw [hD]; exact (ev_bin (x := dateD Y M D) (y := .tuple [.int (mn / 60), .int (mn % 60), .int se, .int na, offD off]) rfl ((evE_tup _ _ _).trans (congrArg (fun r => R.bind r fun l => R.ok (PyData.tuple l)) (evs_c (d := .int (mn / 60)) rfl (evs_c (d := .int (mn % 60)) rfl (evs_c ((ev_ix rfl (EM h6 (by decide))).trans es) (evs_c (d := .int na) rfl (evs_c (d := offD off) rfl rfl)))))))).trans rfl) rfl ?_
  clear hD hs eo eb ed eD em en es
  refine asgT_ (ρ' := [some (S), some (offD off), some (dateD y m d), some (.int (1 + a2 % 12)), some (.int d2), some (dateD Y M D), some (.int mn), some (.int na), some (s.D), some (.int (a8 % 8)), some (.int lo), some (.int hi), none, none, none, none, none, none, none, none, none, none, none, none, none, none, none, none, none]) (l := [.int (a8 % 8), .int lo, .int hi]) ((ev_ix (ev_call0 (r3_bounds (by decide))) (EM h8 (by decide))).trans f1) rfl ?_
  have ix : ev (run l3_T 600 20) (.idx (.loc 8) (.loc 9)) [some (S), some (offD off), some (dateD y m d), some (.int (1 + a2 % 12)), some (.int d2), some (dateD Y M D), some (.int mn), some (.int na), some (s.D), some (.int (a8 % 8)), some (.int lo), some (.int hi), none, none, none, none, none, none, none, none, none, none, none, none, none, none, none, none, none] = .ok x := f2
  refine asg_ (ρ' := [some (S), some (offD off), some (dateD y m d), some (.int (1 + a2 % 12)), some (.int d2), some (dateD Y M D), some (.int mn), some (.int na), some (s.D), some (.int (a8 % 8)), some (.int lo), some (.int hi), some (v), none, none, none, none, none, none, none, none, none, none, none, none, none, none, none, none]) (d := v) ((ev_ix ((evE_tup _ _ _).trans (congrArg (fun r => R.bind r fun l => R.ok (PyData.tuple l)) (evs_c ix (evs_c ix (evs_c ix (evs_c ix (evs_c (d := .int (lo - 1)) rfl (evs_c (d := .int lo) rfl (evs_c (d := .int hi) rfl (evs_c (d := .int (hi + 1)) rfl rfl)))))))))) (EM h9 (by decide))).trans f3) rfl ?_
  refine asg_ (ρ' := [some (S), some (offD off), some (dateD y m d), some (.int (1 + a2 % 12)), some (.int d2), some (dateD Y M D), some (.int mn), some (.int na), some (s'.D), some (.int (a8 % 8)), some (.int lo), some (.int hi), some (v), none, none, none, none, none, none, none, none, none, none, none, none, none, none, none, none]) (d := s'.D) ((ev_bin (x := .tuple A) (y := .tuple (cut (listD s) (bound (a8 % 8 + 1) 8) 8)) ((ev_bin (x := .tuple (cut (listD s) 0 (bound (a8 % 8) 8))) (y := .tuple [v]) rfl rfl).trans f4) rfl).trans f5) rfl ?_
  exact law3_B h10 h11 h12 h13 h14 h15 h16 h17 h18 h19 h20 h21 hr _ _ _ _ _ _ _ _ _ _ _ _ _ _ _ _ _ _ _ _ _ _ _ _ _ _ _

theorem law3_run (ns : List Int) (h : ¬ (63 : Int) < ns.length) : run l3_T 600 21 34 [.list (ns.map PyData.int)] = .ok (.bool true) := by
  rw [run_at (show l3_T[34]? = some l3_law from rfl) rfl]
  refine if_ (P := ((ns.map PyData.int).length : Int) < 22) rfl (fun _ => retO_ rfl) (fun hl => ?_)
  rw [List.length_map] at hl
  have H : ∀ i : Nat, (hi : i < 22) → index (.list (ns.map PyData.int)) (.int i) = .ok (.int (ns[i]'(by lia))) := fun i hi => idxS (by lia)
  exact law3_A (H 0 (by decide)) (H 1 (by decide)) (H 2 (by decide)) (H 3 (by decide)) (H 4 (by decide)) (H 5 (by decide)) (H 6 (by decide)) (H 7 (by decide)) (H 8 (by decide)) (H 9 (by decide)) (H 10 (by decide)) (H 11 (by decide)) (H 12 (by decide)) (H 13 (by decide)) (H 14 (by decide)) (H 15 (by decide)) (H 16 (by decide)) (H 17 (by decide)) (H 18 (by decide)) (H 19 (by decide)) (H 20 (by decide)) (H 21 (by decide))
end Mine

noncomputable def Mine.chk3 (K : PySem.W.Frag) : Bool := Mine.chk Mine.l3_fns Mine.l3_gl Mine.l3_nss Mine.l3_T 25 31 K
set_option maxRecDepth 100000 in
set_option maxHeartbeats 8000000 in
theorem PySem.Challenge.cw_sx_r042_3o_holds : PySem.Challenge.rw_sx_r042_3o.Holds := by
  open PySem PySem.W PyProof.Rows in
  w_on; o_law; o_head (Mine.ownHook (List.range 400) Mine.chk3); (case hw => w_witness2)
  intro w s₀ s₁ mg mb G Y fa o pm cd doc dV kV ho hd hcd hD hmg hg args vals as hpre hlay hrd hwl hlo
  obtain ⟨K, KX, hchk⟩ := Y
  obtain ⟨c4, h4⟩ := Mine.both hchk
  obtain ⟨c3, h3⟩ := Mine.both c4
  obtain ⟨c2, h0⟩ := Mine.both c3
  obtain ⟨h1, h2⟩ := Mine.both c2
  refine Ground.open G ?_
  intro T B D TE TW
  clear hd hcd hD B D TE TW ho hchk c4 c3 c2
  have hmg' : mg (Str.ofString "law") = some (Value.ref fa) := hmg
  clear hmg
  wrow_args hpre hlay hrd hwl hlo
  rename_i ns _ _ _ _ _ _ _ a vs _ hl _ _ _ hI _ hlen _
  refine Mine.law_call3 (fns := Mine.l3_fns) (gl := Mine.l3_gl) (nss := Mine.l3_nss) (T := Mine.l3_T) (N := 600) (g := 25) (g' := 31) (k := 34) (n := 20) KX T hg h1 h2 h0 h3 h4 rfl hmg' ⟨_, rfl⟩ ⟨_, rfl⟩ rfl rfl rfl rfl rfl hl hI hlen (by decide) (Mine.law3_run ns hlen) ?_
  intro s' hk hos hb
  refine ⟨.inl ⟨_, .bool true, [], rfl, fun cls => ?_, .bool true, ?_, fun _ => ⟨List.nodup_nil, fun _ q => by cases q⟩⟩, hk, hos, hb⟩
  · rfl
  · exact postW_of (by wrow_shape) (by wtm_val) (by first | rfl | (str_meet; first | done | w_fin))

