import PyProof.Rows.All
import HandS.ForMost
import HandS.ForExc
import HandS.Deep
import HandS.TryMany
import KE.DataMinMax
import KE.DataEq
import KE.DataCmp
import KE.DataIsa
import KE.DataAny
import KE.SortData
import HandS.TupAny
import HandS.TupLen
import KE.KDictDisplayH
import HandS.Conv
import HandS.Defaults
import HandS.More
import HandS.Head0
import HandS.Head1
import HandS.Head2
import HandS.HeadEnd
import HandS.HeadHook1
import HandS.HeadHook2
import PySem.Challenge.RW_everypurse_k40_exchanges_and_chains
section
set_option Elab.async false
set_option linter.all false
set_option maxRecDepth 100000
/-! DL: a small evaluator over plain data (PyData) for the part of Python that the program uses. Slots hold frozen data, owned lists and dicts, or lent ones. -/
namespace DL
open PySem PySem.W
abbrev D := PyData

inductive Sl where
  | no
  | fz (d : D)
  | ow (d : D)
  /-- owned by the caller: may be changed, not given away -/
  | io (d : D)
  | lent (d : D)
abbrev Rho := List Sl
inductive Out where
  | fz (d : D)
  | fresh (d : D)
  | slot (i : Nat)
inductive R (α : Type) where
  | bad
  | exc (c : Nat) (ρ : Rho)
  | ok (a : α) (ρ : Rho)
def R.bind {α β : Type} : R α → (α → Rho → R β) → R β
  | .bad, _ => .bad
  | .exc c ρ, _ => .exc c ρ
  | .ok a ρ, f => f a ρ
def R.opt {α : Type} (o : Option α) (ρ : Rho) : R α := match o with
  | some a => .ok a ρ
  | none => .bad
@[simp] theorem R.bind_ok {α β : Type} (a : α) (ρ : Rho) (f : α → Rho → R β) : R.bind (.ok a ρ) f = f a ρ := rfl
@[simp] theorem R.bind_bad {α β : Type} (f : α → Rho → R β) : R.bind (.bad : R α) f = .bad := rfl
@[simp] theorem R.bind_exc {α β : Type} (c : Nat) (ρ : Rho) (f : α → Rho → R β) : R.bind (.exc c ρ : R α) f = .exc c ρ := rfl
@[simp] theorem R.opt_some {α : Type} (a : α) (ρ : Rho) : R.opt (some a) ρ = .ok a ρ := rfl
@[simp] theorem R.opt_none {α : Type} (ρ : Rho) : (R.opt none ρ : R α) = .bad := rfl
inductive FR where
  | ret (fr : Bool) (d : D) (outs : List (Option D))
  | exc (c : Nat) (outs : List (Option D))
structure Cal where
  Φ : Nat → List D → Option FR
  md : Nat → List Bool

/-! ### operators on data -/
inductive Bop where | add | sub | mul | fdiv | mod | pow
inductive Cop where | lt | le | gt | ge | eq | ne | isin | notin | isN | notN
inductive Bi where | len | tup | lst | sum | max | min | sorted | abs | max2 | min2
inductive Ty0 where | int | bool | str | tuple | list | dict
def LIM : Nat := 1000000
def DEP : Nat := 40
def small64 (i : Int) : Bool := decide (-(2 ^ 64) < i) && decide (i < 2 ^ 64)
/-- the value and whether it is a new object of its own -/
def binD : Bop → D → D → Option (Bool × D)
  | .add, .int i, .int j => some (false, .int (i + j))
  | .add, .list xs, .list ys => if xs.length + ys.length ≤ LIM then some (true, .list (xs ++ ys)) else none
  | .add, .tuple xs, .tuple ys => if xs.length + ys.length ≤ LIM then some (false, .tuple (xs ++ ys)) else none
  | .sub, .int i, .int j => some (false, .int (i - j))
  | .mul, .int i, .int j => if small64 i || small64 j then some (false, .int (i * j)) else none
  | .mul, .list xs, .int k => if -(2 ^ 63) ≤ k ∧ k < 2 ^ 63 ∧ xs.length * k.toNat ≤ LIM then some (true, .list (List.replicate k.toNat xs).flatten) else none
  | .fdiv, .int i, .int j => if j ≠ 0 ∧ j.natAbs < 1073741824 then some (false, .int (i.fdiv j)) else none
  | .mod, .int i, .int j => if j ≠ 0 then some (false, .int (i.fmod j)) else none
  | .pow, .int i, .int j => if 0 ≤ j ∧ j ≤ 1000000 ∧ i.natAbs < 2 ^ 64 then some (false, .int (i ^ j.toNat)) else none
  | _, _, _ => none
def okD (d : D) : Bool := d.plain && decide (d.depth ≤ DEP)
def notNone : D → Bool
  | .none => false
  | _ => true
def inD (d : D) : D → Option Bool
  | .list xs => if okD d && okD (.list xs) then some (xs.any fun y => PyData.eqv y d) else none
  | .tuple xs => if okD d && okD (.tuple xs) then some (xs.any fun y => PyData.eqv y d) else none
  | _ => none
def ltD (x y : D) : Option Bool := if alike x y && notNone x && okD x && okD y then some (dataLt x y) else none
def gtD (x y : D) : Option Bool := if alike x y && notNone x && okD x && okD y then some (dataLt y x) else none
def cmpD (o : Cop) (x y : D) : Option Bool := match o with
  | .lt => ltD x y
  | .gt => gtD x y
  | .le => (gtD x y).map (!·)
  | .ge => (ltD x y).map (!·)
  | .eq => if okD x && okD y then some (PyData.eqv x y) else none
  | .ne => if okD x && okD y then some (!PyData.eqv x y) else none
  | .isin => inD x y
  | .notin => (inD x y).map (!·)
  | .isN => if notNone y then none else some (!notNone x)
  | .notN => if notNone y then none else some (notNone x)
def isaD : Ty0 → D → Bool
  | .int, d => d.isInt
  | .bool, d => d.isBool
  | .str, d => d.isStr
  | .tuple, d => d.isTuple
  | .list, d => d.isList
  | .dict, d => d.isDict
/-! dicts: kvs with keys of ints and texts; with (none, none) ahead: keys are tuples of these -/
def dlen : List (D × D) → Nat
  | (.none, .none) :: r => r.length
  | r => r.length
def intsD : List D → Option (List Int)
  | [] => some []
  | .int i :: r => (intsD r).map (i :: ·)
  | _ :: _ => none
def seqD : D → Option (List D)
  | .list xs => some xs
  | .tuple xs => some xs
  | _ => none
def alikeAllB (xs : List D) : Bool := xs.all fun x => xs.all fun y => alike x y
def sortableB (xs : List D) : Bool := (xs.all fun | .tuple (_ :: _) => true | _ => false) || xs.all fun | .none => false | .tuple _ => false | _ => true
def one1 (f : D → Option (Bool × D)) : List D → Option (Bool × D)
  | [d] => f d
  | _ => none
def two2 (f : D → D → Option (Bool × D)) : List D → Option (Bool × D)
  | [d, e] => f d e
  | _ => none
def lenD : D → Option (Bool × D)
  | .list xs => some (false, .int xs.length)
  | .tuple xs => some (false, .int xs.length)
  | .dict kvs => some (false, .int (dlen kvs))
  | _ => none
def sumD (d : D) : Option (Bool × D) := (seqD d).bind fun xs => (intsD xs).map fun ns => (false, .int ns.sum)
def pickD (g : D → List D → D) : List D → Option (Bool × D)
  | x :: xs => if alikeAllB (x :: xs) && okD (.list (x :: xs)) && notNone x then some (false, g x xs) else none
  | [] => none
def absD : D → Option (Bool × D)
  | .int i => some (false, .int (if i < 0 then -i else i))
  | _ => none
def int2 (g : Int → Int → Int) : D → D → Option (Bool × D)
  | .int i, .int j => some (false, .int (g i j))
  | _, _ => none
def listD : D → Option (List D)
  | .list xs => some xs
  | _ => none
def sortD (xs : List D) : Option (Bool × D) := if alikeAllB xs && sortableB xs && okD (.list xs) && decide (xs.length ≤ LIM) then some (true, .list (xs.mergeSort (dataLe false id))) else none
def biD (b : Bi) (ds : List D) : Option (Bool × D) := match b with
  | .len => one1 lenD ds
  | .tup => one1 (fun d => (seqD d).map fun xs => (false, .tuple xs)) ds
  | .lst => one1 (fun d => (seqD d).map fun xs => (true, .list xs)) ds
  | .sum => one1 sumD ds
  | .max => one1 (fun d => (seqD d).bind (pickD maxD)) ds
  | .min => one1 (fun d => (seqD d).bind (pickD minD)) ds
  | .abs => one1 absD ds
  | .max2 => two2 (int2 fun i j => if j > i then j else i) ds
  | .min2 => two2 (int2 fun i j => if j < i then j else i) ds
  | .sorted => one1 (fun d => (listD d).bind sortD) ds
def subD : D → D → Option D
  | .list xs, .int i => L2.atI xs i
  | .tuple xs, .int i => L2.atI xs i
  | _, _ => none
def sliceD : D → Option Int → Option Int → Option (Bool × D)
  | .list xs, lo, hi => some (true, .list ((xs.drop (HT.sIx xs.length 0 lo)).take (HT.sIx xs.length xs.length hi - HT.sIx xs.length 0 lo)))
  | .tuple xs, lo, hi => some (false, .tuple ((xs.drop (HT.sIx xs.length 0 lo)).take (HT.sIx xs.length xs.length hi - HT.sIx xs.length 0 lo)))
  | _, _, _ => none
def truD : D → Option Bool
  | .none => some false
  | .bool b => some b
  | .int n => some (n != 0)
  | .list xs => some (!xs.isEmpty)
  | .tuple xs => some (!xs.isEmpty)
  | .dict _ => none
  | .str _ => none

/-! dicts -/
def key1 : D → Bool
  | .int _ => true
  | .str _ => true
  | _ => false
def keyT : D → Bool
  | .tuple ks => ks.all key1
  | _ => false
def dlook (kvs : List (D × D)) (k : D) : Option D := (kvs.find? fun p => PyData.eqv p.1 k).map (·.2)
def dput (kvs : List (D × D)) (k v : D) : List (D × D) :=
  if (kvs.any fun p => PyData.eqv p.1 k) = true then kvs.map (fun p => if PyData.eqv p.1 k = true then (p.1, v) else p) else kvs ++ [(k, v)]
def lookD : D → D → Option (Option D)
  | .dict ((.none, .none) :: kvs), k => if keyT k then some (dlook kvs k) else none
  | .dict kvs, k => if key1 k then some (dlook kvs k) else none
  | _, _ => none
def putD : D → D → D → Option D
  | .dict ((.none, .none) :: kvs), k, v => if keyT k && decide (kvs.length < LIM) then some (.dict ((.none, .none) :: dput kvs k v)) else none
  | .dict kvs, k, v => if key1 k && decide (kvs.length < LIM) then some (.dict (dput kvs k v)) else none
  | _, _, _ => none
def dictD : D → Option (List (D × D))
  | .dict kvs => some kvs
  | _ => none
def keysD : D → Option (List D)
  | .dict ((.none, .none) :: kvs) => some (kvs.map (·.1))
  | .dict kvs => some (kvs.map (·.1))
  | _ => none
mutual
def flat : D → Bool
  | .tuple xs => flats xs
  | .list _ => false
  | .dict _ => false
  | _ => true
def flats : List D → Bool
  | [] => true
  | x :: xs => flat x && flats xs
end

/-! ### slots -/
def deref (o : Out) (ρ : Rho) : Option D := match o with
  | .fz d => some d
  | .fresh d => some d
  | .slot i => match ρ[i]? with
    | some (.fz d) => some d
    | some (.ow d) => some d
    | some (.io d) => some d
    | some (.lent d) => some d
    | _ => none
def settle : Out → Out
  | .fresh d => .fz d
  | o => o
/-- the value goes where it may stay: an owned slot is frozen -/
def esc (o : Out) (ρ : Rho) : R D := match o with
  | .fz d => .ok d ρ
  | .fresh d => .ok d ρ
  | .slot i => match ρ[i]? with
    | some (.fz d) => .ok d ρ
    | some (.ow d) => .ok d (ρ.set i (.fz d))
    | _ => .bad
def setS (i : Nat) (s : Sl) (ρ : Rho) : R Unit := match ρ[i]? with
  | some (.lent _) => .bad
  | some (.io _) => .bad
  | some _ => .ok () (ρ.set i s)
  | none => .bad
def setO (i : Nat) (o : Out) (ρ : Rho) : R Unit := match o with
  | .fresh d => setS i (.ow d) ρ
  | o => (esc o ρ).bind fun d ρ' => setS i (.fz d) ρ'
inductive Tg where
  | nm (i : Nat)
  | tp (is : List Nat)
def setAll : List Nat → List D → Rho → R Unit
  | [], [], ρ => .ok () ρ
  | i :: is, d :: ds, ρ => (setS i (.fz d) ρ).bind fun _ ρ' => setAll is ds ρ'
  | _, _, _ => .bad
def bindT (t : Tg) (d : D) (ρ : Rho) : R Unit := match t with
  | .nm i => setS i (.fz d) ρ
  | .tp is => match d with
    | .tuple ds => setAll is ds ρ
    | _ => .bad
def bindO (t : Tg) (o : Out) (ρ : Rho) : R Unit := match t with
  | .nm i => setO i o ρ
  | .tp is => match deref o ρ with
    | some (.tuple ds) => setAll is ds ρ
    | _ => .bad
def Tg.slots : Tg → List Nat
  | .nm i => [i]
  | .tp is => is
def mayLend (o : Out) (ρ : Rho) : Bool := match o with
  | .slot i => match ρ[i]? with
    | some (.io _) => false
    | _ => true
  | _ => true
def lendS (o : Out) (ρ : Rho) : Rho := match o with
  | .slot i => match ρ[i]? with
    | some (.ow d) => ρ.set i (.lent d)
    | _ => ρ
  | _ => ρ
/-- ρ0: ahead of lending -/
def unlend (o : Out) (ρ0 ρ : Rho) : Rho := match o with
  | .slot i => match ρ0[i]?, ρ[i]? with
    | some (.ow _), some (.lent d) => ρ.set i (.ow d)
    | _, _ => ρ
  | _ => ρ
inductive ItK where | seq | rng1 | rng2 | keys
def rngD (lo hi : Int) : Option (List D) := if -(2 ^ 60) < lo ∧ lo < 2 ^ 60 ∧ -(2 ^ 60) < hi ∧ hi < 2 ^ 60 ∧ (hi - lo).toNat ≤ LIM then some ((List.range (hi - lo).toNat).map fun (i : Nat) => .int (lo + i)) else none
def intD : D → Option Int
  | .int n => some n
  | _ => none
/-- what is walked, and what is lent meanwhile -/
def itemsD (k : ItK) (os : List Out) (ρ : Rho) : Option (List D × Out) := match k, os with
  | .seq, [o] => (deref o ρ).bind fun d => (seqD d).map fun xs => (xs, o)
  | .rng1, [o] => (deref o ρ).bind fun d => (intD d).bind fun n => (rngD 0 n).map fun xs => (xs, .fz .none)
  | .rng2, [a, b] => (deref a ρ).bind fun d => (intD d).bind fun i => (deref b ρ).bind fun e => (intD e).bind fun j => (rngD i j).map fun xs => (xs, .fz .none)
  | .keys, [o] => (deref o ρ).bind fun d => (keysD d).map fun xs => (xs, o)
  | _, _ => none
def isOw (o : Out) (ρ : Rho) : Bool := match o with
  | .slot i => match ρ[i]? with
    | some (.ow _) => true
    | _ => false
  | _ => false
def isKeys : ItK → Bool
  | .keys => true
  | _ => false
def cLoop (turn : D → Rho → R (Option D)) : List D → List D → Rho → R (List D)
  | [], acc, ρ => .ok acc ρ
  | x :: xs, acc, ρ => (turn x ρ).bind fun o ρ' => cLoop turn xs (match o with | some y => acc ++ [y] | none => acc) ρ'
def noexc {α : Type} : R α → R α
  | .exc _ _ => .bad
  | r => r
def wipeR (ρ : Rho) : List Nat → Rho
  | [] => ρ
  | v :: vs => (wipeR ρ vs).set v .no
/-- a comprehension's own slots hold nothing that is owned or lent -/
def idle (ρ : Rho) (vs : List Nat) : Bool := vs.all fun v => match ρ[v]? with
  | some .no => true
  | some (.fz _) => true
  | _ => false
def giveBack (ρ0 ρ : Rho) : List Nat → Rho
  | [] => ρ
  | v :: vs => (giveBack ρ0 ρ vs).set v (ρ0.getD v .no)
def inSlots : List Bool → List Out → List Nat
  | true :: ms, .slot i :: os => i :: inSlots ms os
  | _ :: ms, _ :: os => inSlots ms os
  | _, _ => []
def valSlots : List Bool → List Out → List Nat
  | false :: ms, .slot i :: os => i :: valSlots ms os
  | _ :: ms, _ :: os => valSlots ms os
  | _, _ => []
def okSlots (ms : List Bool) (os : List Out) : Bool := decide (inSlots ms os).Nodup && (inSlots ms os).all fun i => !(valSlots ms os).contains i
def argsD : List Bool → List Out → Rho → Option (List D)
  | [], [], _ => some []
  | true :: ms, .slot i :: os, ρ => match ρ[i]? with
    | some (.ow d) => (argsD ms os ρ).map (d :: ·)
    | some (.io d) => (argsD ms os ρ).map (d :: ·)
    | _ => none
  | false :: ms, o :: os, ρ => (deref o ρ).bind fun d => (argsD ms os ρ).map (d :: ·)
  | _, _, _ => none
def setOuts : List Bool → List Out → List (Option D) → Rho → Option Rho
  | [], [], [], ρ => some ρ
  | true :: ms, .slot i :: os, some d :: ds, ρ => match ρ[i]? with
    | some (.ow _) => setOuts ms os ds (ρ.set i (.ow d))
    | some (.io _) => setOuts ms os ds (ρ.set i (.io d))
    | _ => none
  | false :: ms, _ :: os, _ :: ds, ρ => setOuts ms os ds ρ
  | _, _, _, _ => none
def freezeAll : List Nat → Rho → Option Rho
  | [], ρ => some ρ
  | i :: is, ρ => match ρ[i]? with
    | some (.ow d) => freezeAll is (ρ.set i (.fz d))
    | some (.fz _) => freezeAll is ρ
    | _ => none
def flatR (fr : Bool) (d : D) : Bool := match fr, d with
  | true, .list xs => flats xs
  | _, d => flat d
def retD (fr : Bool) (d : D) : Out := if fr then .fresh d else .fz d
def flatO : List (Option D) → Bool
  | [] => true
  | some (.list xs) :: r => flats xs && flatO r
  | some d :: r => flat d && flatO r
  | none :: r => flatO r
/-- behind a call: what was only handed over stays owned if nothing of it can lie in what comes back -/
def afterC (fl : Bool) (is : List Nat) (ρ : Rho) : Option Rho := if fl then some ρ else freezeAll is ρ
def callF (c : Cal) (f : Nat) (os : List Out) (ρ : Rho) : R Out :=
  if okSlots (c.md f) os then
    match argsD (c.md f) os ρ with
    | none => .bad
    | some ds => match c.Φ f ds with
      | none => .bad
      | some (.exc x outs) => match (afterC (flatO outs) (valSlots (c.md f) os) ρ).bind (setOuts (c.md f) os outs) with
        | some ρ' => .exc x ρ'
        | none => .bad
      | some (.ret fr d outs) => match (afterC (flatR fr d && flatO outs) (valSlots (c.md f) os) ρ).bind (setOuts (c.md f) os outs) with
        | some ρ' => .ok (retD fr d) ρ'
        | none => .bad
  else .bad

/-! ### expressions -/
inductive E where
  | con (d : D)
  | var (i : Nat)
  | bin (o : Bop) (a b : E)
  | neg (a : E)
  | cmp (o : Cop) (a b : E)
  | chain (o1 o2 : Cop) (a b c : E)
  | din (neg : Bool) (k d : E)
  | and (a b : E)
  | or (a b : E)
  | not (a : E)
  | ite (c a b : E)
  | tup (es : List E)
  | lst (es : List E)
  | dnew (t : Bool)
  | dsp1 (t : Bool) (k v : E)
  | sub (a i : E)
  | dsub (a k : E)
  | slice (a lo hi : E)
  | nop
  | isa (a : E) (t : Ty0)
  | bi (b : Bi) (es : List E)
  | skeys (d : E)
  | call (f : Nat) (es : List E)
  | dget1 (d k : E)
  | dget2 (d k x : E)
  | app (a e : E)
  | comp (k : ItK) (src : List E) (t : Tg) (own : List Nat) (cond : E) (elt : E)

def out1 (fr : Bool) (d : D) (ρ : Rho) : R Out := .ok (retD fr d) ρ
def R.optO (o : Option (Bool × D)) (ρ : Rho) : R Out := match o with
  | some (fr, d) => .ok (retD fr d) ρ
  | none => .bad
def derefR (o : Out) (ρ : Rho) : R D := R.opt (deref o ρ) ρ
def derefs : List Out → Rho → Option (List D)
  | [], _ => some []
  | o :: os, ρ => (deref o ρ).bind fun d => (derefs os ρ).map (d :: ·)
structure Ev where
  P : Rho → R Out
  T : Rho → R Bool
def Ev.of (p : Rho → R Out) : Ev := ⟨p, fun ρ => (p ρ).bind fun x ρ1 => (derefR (settle x) ρ1).bind fun d _ => R.opt (truD d) ρ1⟩
def isNop : E → Bool
  | .nop => true
  | _ => false
def optI (e : E) (v : Ev) (ρ : Rho) : R (Option Int) := if isNop e then .ok none ρ else (v.P ρ).bind fun x ρ1 => (derefR (settle x) ρ1).bind fun d _ => (R.opt (intD d) ρ1).bind fun i _ => .ok (some i) ρ1
def condT (e : E) (v : Ev) (ρ : Rho) : R Bool := if isNop e then .ok true ρ else v.T ρ
/-- the list in an owned slot grows -/
def appR (x : Out) (d : D) (ρ : Rho) : R Out := match x with
  | .slot i => match ρ[i]? with
    | some (.ow (.list xs)) => if xs.length < LIM then .ok (.fz .none) (ρ.set i (.ow (.list (xs ++ [d])))) else .bad
    | some (.io (.list xs)) => if xs.length < LIM then .ok (.fz .none) (ρ.set i (.io (.list (xs ++ [d])))) else .bad
    | _ => .bad
  | _ => .bad
/-- one turn of a comprehension -/
def cTurn (t : Tg) (own : List Nat) (cond : Rho → R Bool) (elt : Rho → R Out) (x : D) (ρ : Rho) : R (Option D) :=
  (bindT t x ρ).bind fun _ ρ' => (cond ρ').bind fun k ρ'' =>
    if k then (elt ρ'').bind fun y ρ3 => (esc (settle y) ρ3).bind fun d ρ4 => .ok (some d) (wipeR ρ4 own) else .ok none (wipeR ρ'' own)
def cRun (k : ItK) (t : Tg) (own : List Nat) (cond : Rho → R Bool) (elt : Rho → R Out) (os : List Out) (ρ1 : Rho) : R Out :=
  match itemsD k os ρ1 with
  | none => .bad
  | some (xs, o) => if mayLend o ρ1 && !isKeys k && idle ρ1 own && (t.slots.all fun i => own.contains i) && decide (xs.length ≤ LIM) then
      (noexc (cLoop (cTurn t own cond elt) xs [] (wipeR (lendS o ρ1) own))).bind fun ds ρ2 => .ok (.fresh (.list ds)) (unlend o ρ1 (giveBack ρ1 ρ2 own))
    else .bad
mutual
noncomputable def ev (c : Cal) : E → Ev
  | .con d => .of fun ρ => .ok (.fz d) ρ
  | .var i => .of fun ρ => match ρ[i]? with
    | some (.fz d) => .ok (.fz d) ρ
    | some (.ow _) => .ok (.slot i) ρ
    | some (.io _) => .ok (.slot i) ρ
    | some (.lent _) => .ok (.slot i) ρ
    | _ => .bad
  | .bin o a b => .of fun ρ => ((ev c a).P ρ).bind fun x ρ1 => ((ev c b).P ρ1).bind fun y ρ2 => (derefR (settle x) ρ2).bind fun d _ => (derefR (settle y) ρ2).bind fun e _ => R.optO (binD o d e) ρ2
  | .neg a => .of fun ρ => ((ev c a).P ρ).bind fun x ρ1 => (derefR (settle x) ρ1).bind fun d _ => (R.opt (intD d) ρ1).bind fun i _ => .ok (.fz (.int (-i))) ρ1
  | .cmp o a b => .of fun ρ => ((ev c a).P ρ).bind fun x ρ1 => ((ev c b).P ρ1).bind fun y ρ2 => (derefR (settle x) ρ2).bind fun d _ => (derefR (settle y) ρ2).bind fun e _ => (R.opt (cmpD o d e) ρ2).bind fun k _ => .ok (.fz (.bool k)) ρ2
  | .chain o1 o2 a b e => .of fun ρ => ((ev c a).P ρ).bind fun x ρ1 => ((ev c b).P ρ1).bind fun y ρ2 => (derefR (settle x) ρ2).bind fun d1 _ => (derefR (settle y) ρ2).bind fun d2 _ => (R.opt (cmpD o1 d1 d2) ρ2).bind fun k _ =>
      if k then ((ev c e).P ρ2).bind fun z ρ3 => (derefR (settle y) ρ3).bind fun d2 _ => (derefR (settle z) ρ3).bind fun d3 _ => (R.opt (cmpD o2 d2 d3) ρ3).bind fun k _ => .ok (.fz (.bool k)) ρ3
      else .ok (.fz (.bool false)) ρ2
  | .din neg k d => .of fun ρ => ((ev c k).P ρ).bind fun x ρ1 => ((ev c d).P ρ1).bind fun y ρ2 => (derefR (settle x) ρ2).bind fun kd _ => (derefR (settle y) ρ2).bind fun dd _ => (R.opt (lookD dd kd) ρ2).bind fun o _ => .ok (.fz (.bool (if neg then !o.isSome else o.isSome))) ρ2
  | .and a b => ⟨fun ρ => ((ev c a).P ρ).bind fun x ρ1 => match settle x with
      | .fz (.bool true) => ((ev c b).P ρ1).bind fun y ρ2 => .ok (settle y) ρ2
      | .fz (.bool false) => .ok (.fz (.bool false)) ρ1
      | _ => .bad, fun ρ => ((ev c a).T ρ).bind fun k ρ1 => if k then (ev c b).T ρ1 else .ok false ρ1⟩
  | .or a b => ⟨fun ρ => ((ev c a).P ρ).bind fun x ρ1 => match settle x with
      | .fz (.bool true) => .ok (.fz (.bool true)) ρ1
      | .fz (.bool false) => ((ev c b).P ρ1).bind fun y ρ2 => .ok (settle y) ρ2
      | _ => .bad, fun ρ => ((ev c a).T ρ).bind fun k ρ1 => if k then .ok true ρ1 else (ev c b).T ρ1⟩
  | .not a => ⟨fun ρ => ((ev c a).P ρ).bind fun x ρ1 => match settle x with
      | .fz (.bool k) => .ok (.fz (.bool (!k))) ρ1
      | _ => .bad, fun ρ => ((ev c a).T ρ).bind fun k ρ1 => .ok (!k) ρ1⟩
  | .ite t a b => .of fun ρ => ((ev c t).T ρ).bind fun k ρ1 => if k then ((ev c a).P ρ1).bind fun y ρ2 => .ok (settle y) ρ2 else ((ev c b).P ρ1).bind fun y ρ2 => .ok (settle y) ρ2
  | .tup es => .of fun ρ => (evX c es ρ).bind fun ds ρ1 => if ds.length ≤ LIM then .ok (.fz (.tuple ds)) ρ1 else .bad
  | .lst es => .of fun ρ => (evX c es ρ).bind fun ds ρ1 => if ds.length ≤ LIM then .ok (.fresh (.list ds)) ρ1 else .bad
  | .dnew t => .of fun ρ => .ok (.fresh (.dict (if t then [(.none, .none)] else []))) ρ
  | .dsp1 t k v => .of fun ρ => ((ev c k).P ρ).bind fun x ρ1 => (esc (settle x) ρ1).bind fun kd ρ1 => ((ev c v).P ρ1).bind fun y ρ2 => (esc (settle y) ρ2).bind fun vd ρ3 =>
      if (if t then keyT kd else key1 kd) then .ok (.fresh (.dict (if t then [(.none, .none), (kd, vd)] else [(kd, vd)]))) ρ3 else .bad
  | .sub a i => .of fun ρ => ((ev c a).P ρ).bind fun x ρ1 => ((ev c i).P ρ1).bind fun y ρ2 => (derefR (settle x) ρ2).bind fun d _ => (derefR (settle y) ρ2).bind fun e _ => (R.opt (subD d e) ρ2).bind fun v _ => .ok (.fz v) ρ2
  | .dsub a k => .of fun ρ => ((ev c a).P ρ).bind fun x ρ1 => ((ev c k).P ρ1).bind fun y ρ2 => (derefR (settle x) ρ2).bind fun d _ => (derefR (settle y) ρ2).bind fun e _ => (R.opt (lookD d e) ρ2).bind fun o _ => (R.opt o ρ2).bind fun v _ => .ok (.fz v) ρ2
  | .slice a lo hi => .of fun ρ => ((ev c a).P ρ).bind fun x ρ1 => (optI lo (ev c lo) ρ1).bind fun l ρ2 => (optI hi (ev c hi) ρ2).bind fun h ρ3 => (derefR (settle x) ρ3).bind fun d _ => R.optO (sliceD d l h) ρ3
  | .nop => .of fun _ => .bad
  | .isa a t => .of fun ρ => ((ev c a).P ρ).bind fun x ρ1 => (derefR (settle x) ρ1).bind fun d _ => if d.plain then .ok (.fz (.bool (isaD t d))) ρ1 else .bad
  | .bi b es => .of fun ρ => (evA c es ρ).bind fun os ρ1 => (R.opt (derefs os ρ1) ρ1).bind fun ds _ => R.optO (biD b ds) ρ1
  | .skeys d => .of fun ρ => ((ev c d).P ρ).bind fun x ρ1 => (derefR (settle x) ρ1).bind fun dd _ => (R.opt (keysD dd) ρ1).bind fun ks _ => R.optO (biD .sorted [.list ks]) ρ1
  | .call f es => .of fun ρ => (evA c es ρ).bind fun os ρ1 => callF c f os ρ1
  | .dget1 d k => .of fun ρ => ((ev c d).P ρ).bind fun x ρ1 => (R.opt ((deref x ρ1).bind dictD) ρ1).bind fun _ _ => ((ev c k).P ρ1).bind fun y ρ2 => (derefR (settle x) ρ2).bind fun dd _ => (derefR (settle y) ρ2).bind fun kd _ => (R.opt (lookD dd kd) ρ2).bind fun o _ => .ok (.fz (o.getD .none)) ρ2
  | .dget2 d k z => .of fun ρ => ((ev c d).P ρ).bind fun x ρ1 => (R.opt ((deref x ρ1).bind dictD) ρ1).bind fun _ _ => ((ev c k).P ρ1).bind fun y ρ2 => ((ev c z).P ρ2).bind fun w ρ3 => (esc (settle w) ρ3).bind fun zd ρ3 => (derefR (settle x) ρ3).bind fun dd _ => (derefR (settle y) ρ3).bind fun kd _ => (R.opt (lookD dd kd) ρ3).bind fun o _ => .ok (.fz (o.getD zd)) ρ3
  | .app a e => .of fun ρ => ((ev c a).P ρ).bind fun x ρ1 => (R.opt ((deref x ρ1).bind listD) ρ1).bind fun _ _ => ((ev c e).P ρ1).bind fun y ρ2 => (esc (settle y) ρ2).bind fun d ρ3 => appR x d ρ3
  | .comp k src t own cond elt => .of fun ρ => (evA c src ρ).bind fun os ρ1 => cRun k t own (condT cond (ev c cond)) (ev c elt).P os ρ1
/-- arguments: owned slots stay references -/
noncomputable def evA (c : Cal) : List E → Rho → R (List Out)
  | [], ρ => .ok [] ρ
  | e :: es, ρ => ((ev c e).P ρ).bind fun x ρ1 => (evA c es ρ1).bind fun xs ρ2 => .ok (settle x :: xs) ρ2
/-- items that stay -/
noncomputable def evX (c : Cal) : List E → Rho → R (List D)
  | [], ρ => .ok [] ρ
  | e :: es, ρ => ((ev c e).P ρ).bind fun x ρ1 => (esc (settle x) ρ1).bind fun d ρ1 => (evX c es ρ1).bind fun ds ρ2 => .ok (d :: ds) ρ2
end

/-! ### statements -/
inductive S where
  | asg (t : Tg) (e : E)
  | par (is : List Nat) (es : List E)
  | setix (a i e : E)
  | dset (a k e : E)
  | expr (e : E)
  | ret (e : E)
  | retN
  | ifS (c : E) (a b : List S)
  | forS (k : ItK) (src : List E) (t : Tg) (body : List S)
  | whileS (c : E) (body : List S)
  | brk
  | cont
  | pass
  | raise (c : Nat)
  | blk (ss : List S)
  | tryS (body : List S) (cs : List Nat) (hs : List S)
inductive Fl where
  | next
  | brk
  | cont
  | ret (fr : Bool) (d : D)
def retO (o : Out) (ρ : Rho) : R Fl := match o with
  | .fz d => .ok (.ret false d) ρ
  | .fresh d => .ok (.ret true d) ρ
  | .slot i => match ρ[i]? with
    | some (.ow d) => .ok (.ret true d) (ρ.set i .no)
    | _ => .bad
def fLoop (turn : D → Rho → R Fl) : List D → Rho → R Fl
  | [], ρ => .ok .next ρ
  | x :: xs, ρ => match turn x ρ with
    | .bad => .bad
    | .exc c ρ' => .exc c ρ'
    | .ok .next ρ' => fLoop turn xs ρ'
    | .ok .cont ρ' => fLoop turn xs ρ'
    | .ok .brk ρ' => .ok .next ρ'
    | .ok (.ret fr d) ρ' => .ok (.ret fr d) ρ'
def onR {α : Type} (f : Rho → Rho) : R α → R α
  | .bad => .bad
  | .exc c ρ => .exc c (f ρ)
  | .ok a ρ => .ok a (f ρ)
def fRun (k : ItK) (t : Tg) (body : Rho → R Fl) (os : List Out) (ρ1 : Rho) : R Fl :=
  match itemsD k os ρ1 with
  | none => .bad
  | some (xs, o) => if isKeys k then
      if isOw o ρ1 then onR (unlend o ρ1) (noexc (fLoop (fun x ρ => (bindT t x ρ).bind fun _ ρ' => body ρ') xs (lendS o ρ1))) else .bad
    else if mayLend o ρ1 then onR (unlend o ρ1) (fLoop (fun x ρ => (bindT t x ρ).bind fun _ ρ' => body ρ') xs (lendS o ρ1)) else .bad
/-- one turn of a while: over, or on -/
def wStep (t : Rho → R Bool) (body : Rho → R Fl) (ρ : Rho) : R Fl ⊕ Rho := match t ρ with
  | .bad => .inl .bad
  | .exc c ρ' => .inl (.exc c ρ')
  | .ok false ρ' => .inl (.ok .next ρ')
  | .ok true ρ' => match body ρ' with
    | .bad => .inl .bad
    | .exc c ρ' => .inl (.exc c ρ')
    | .ok .next ρ' => .inr ρ'
    | .ok .cont ρ' => .inr ρ'
    | .ok .brk ρ' => .inl (.ok .next ρ')
    | .ok (.ret fr d) ρ' => .inl (.ok (.ret fr d) ρ')
def wIter (step : Rho → R Fl ⊕ Rho) : Nat → Rho → Option (R Fl)
  | 0, _ => none
  | n + 1, ρ => match step ρ with
    | .inl r => some r
    | .inr ρ' => wIter step n ρ'
open Classical in
noncomputable def wRun (step : Rho → R Fl ⊕ Rho) (ρ : Rho) : R Fl :=
  if h : ∃ n r, wIter step n ρ = some r then h.choose_spec.choose else .bad
theorem wIter_one {step : Rho → R Fl ⊕ Rho} : ∀ {n m : Nat} {ρ : Rho} {r r' : R Fl}, wIter step n ρ = some r → wIter step m ρ = some r' → r = r'
  | 0, _, _, _, _, h, _ => nomatch h
  | _, 0, _, _, _, _, h => nomatch h
  | n + 1, m + 1, ρ, r, r', h, h' => by
    unfold wIter at h h'
    cases e : step ρ with
    | inl x =>
      rw [e] at h h'
      cases h
      cases h'
      rfl
    | inr ρ' =>
      rw [e] at h h'
      exact wIter_one h h'
theorem wRun_of {step : Rho → R Fl ⊕ Rho} {n : Nat} {ρ : Rho} {r : R Fl} (h : wIter step n ρ = some r) : wRun step ρ = r := by
  have hx : ∃ n r, wIter step n ρ = some r := ⟨n, r, h⟩
  unfold wRun
  rw [dif_pos hx]
  exact wIter_one hx.choose_spec.choose_spec h
theorem wRun_done {step : Rho → R Fl ⊕ Rho} {ρ : Rho} {r : R Fl} (h : step ρ = .inl r) : wRun step ρ = r := wRun_of (n := 1) (by
  unfold wIter
  rw [h])
theorem wRun_on {step : Rho → R Fl ⊕ Rho} {ρ ρ' : Rho} (h : step ρ = .inr ρ') : wRun step ρ = wRun step ρ' := by
  by_cases hx : ∃ n r, wIter step n ρ' = some r
  · obtain ⟨n, r, e⟩ := hx
    rw [wRun_of e]
    refine wRun_of (n := n + 1) ?_
    unfold wIter
    rw [h]
    exact e
  · have hy : ¬ ∃ n r, wIter step n ρ = some r := fun ⟨n, r, e⟩ => by
      cases n with
      | zero => exact nomatch e
      | succ n =>
        unfold wIter at e
        rw [h] at e
        exact hx ⟨n, r, e⟩
    unfold wRun
    rw [dif_neg hx, dif_neg hy]
/-- a run that ends well has a number of turns -/
theorem wRun_iter {step : Rho → R Fl ⊕ Rho} {ρ : Rho} (h : wRun step ρ ≠ .bad) : ∃ n, wIter step n ρ = some (wRun step ρ) := by
  by_cases hx : ∃ n r, wIter step n ρ = some r
  · obtain ⟨n, r, e⟩ := hx
    exact ⟨n, by rw [wRun_of e]; exact e⟩
  · unfold wRun at h
    rw [dif_neg hx] at h
    exact absurd rfl h
structure Env0 where
  cal : Cal
  sub : Nat → Nat → Bool
def pick (sub : Nat → Nat → Bool) (c : Nat) : List Nat → List (Rho → R Fl) → Option (Rho → R Fl)
  | x :: cs, h :: hs => if sub c x then some h else pick sub c cs hs
  | _, _ => none
def caught (sub : Nat → Nat → Bool) (cs : List Nat) (hs : List (Rho → R Fl)) : R Fl → R Fl
  | .exc c ρ => match pick sub c cs hs with
    | some h => noexc (h ρ)
    | none => .exc c ρ
  | r => r
mutual
noncomputable def exec (c : Env0) : S → Rho → R Fl
  | .asg t e, ρ => ((ev c.cal e).P ρ).bind fun o ρ1 => (bindO t o ρ1).bind fun _ ρ2 => .ok .next ρ2
  | .par is es, ρ => (evX c.cal es ρ).bind fun ds ρ1 => (setAll is ds ρ1).bind fun _ ρ2 => .ok .next ρ2
  | .setix a i e, ρ => ((ev c.cal e).P ρ).bind fun y ρ1 => (esc (settle y) ρ1).bind fun d ρ1 => ((ev c.cal a).P ρ1).bind fun x ρ2 => match x with
    | .slot j => ((ev c.cal i).P ρ2).bind fun z ρ3 => (derefR (settle z) ρ3).bind fun zd _ => (R.opt (intD zd) ρ3).bind fun n _ => match ρ3[j]? with
      | some (.ow (.list xs)) => (R.opt (L2.ixN xs.length n) ρ3).bind fun k _ => .ok .next (ρ3.set j (.ow (.list (xs.set k d))))
      | some (.io (.list xs)) => (R.opt (L2.ixN xs.length n) ρ3).bind fun k _ => .ok .next (ρ3.set j (.io (.list (xs.set k d))))
      | _ => .bad
    | _ => .bad
  | .dset a k e, ρ => ((ev c.cal e).P ρ).bind fun y ρ1 => (esc (settle y) ρ1).bind fun d ρ1 => ((ev c.cal a).P ρ1).bind fun x ρ2 => match x with
    | .slot j => ((ev c.cal k).P ρ2).bind fun z ρ3 => (esc (settle z) ρ3).bind fun kd ρ3 => match ρ3[j]? with
      | some (.ow dd) => (R.opt (putD dd kd d) ρ3).bind fun dd' _ => .ok .next (ρ3.set j (.ow dd'))
      | some (.io dd) => (R.opt (putD dd kd d) ρ3).bind fun dd' _ => .ok .next (ρ3.set j (.io dd'))
      | _ => .bad
    | _ => .bad
  | .expr e, ρ => ((ev c.cal e).P ρ).bind fun _ ρ1 => .ok .next ρ1
  | .ret e, ρ => ((ev c.cal e).P ρ).bind fun o ρ1 => retO o ρ1
  | .retN, ρ => .ok (.ret false .none) ρ
  | .ifS t a b, ρ => ((ev c.cal t).T ρ).bind fun k ρ1 => if k then execs c a ρ1 else execs c b ρ1
  | .forS k src t body, ρ => (evA c.cal src ρ).bind fun os ρ1 => fRun k t (execs c body) os ρ1
  | .whileS t body, ρ => wRun (wStep (ev c.cal t).T (execs c body)) ρ
  | .brk, ρ => .ok .brk ρ
  | .cont, ρ => .ok .cont ρ
  | .pass, ρ => .ok .next ρ
  | .raise x, ρ => .exc x ρ
  | .blk ss, ρ => execs c ss ρ
  | .tryS body cs hs, ρ => caught c.sub cs (execHs c hs) (execs c body ρ)
noncomputable def execs (c : Env0) : List S → Rho → R Fl
  | [], ρ => .ok .next ρ
  | s :: ss, ρ => match exec c s ρ with
    | .ok .next ρ1 => execs c ss ρ1
    | r => r
noncomputable def execHs (c : Env0) : List S → List (Rho → R Fl)
  | [] => []
  | s :: ss => exec c s :: execHs c ss
end

/-! ### defs -/
structure FDef where
  md : List Bool
  slots : Nat
  body : List S
def startR (fd : FDef) (ds : List D) : Rho := (fd.md.zip ds).map (fun p => if p.1 then Sl.io p.2 else Sl.fz p.2) ++ List.replicate (fd.slots - ds.length) .no
def outsR : List Bool → Rho → Option (List (Option D))
  | [], _ => some []
  | true :: ms, .io d :: ρ => (outsR ms ρ).map (some d :: ·)
  | false :: ms, _ :: ρ => (outsR ms ρ).map (none :: ·)
  | _, _ => none
def finish (md : List Bool) : R Fl → Option FR
  | .bad => none
  | .exc c ρ => (outsR md ρ).map (.exc c ·)
  | .ok (.ret fr d) ρ => (outsR md ρ).map (.ret fr d ·)
  | .ok .next ρ => (outsR md ρ).map (.ret false .none ·)
  | .ok _ _ => none
structure Tab where
  defs : List FDef
  sub : Nat → Nat → Bool
def Tab.md (T : Tab) (f : Nat) : List Bool := match T.defs[f]? with
  | some fd => fd.md
  | none => []
noncomputable def runF (T : Tab) : Nat → Nat → List D → Option FR
  | 0, _, _ => none
  | n + 1, f, ds => match T.defs[f]? with
    | some fd => if ds.length = fd.md.length then finish fd.md (execs ⟨⟨runF T n, T.md⟩, T.sub⟩ fd.body (startR fd ds)) else none
    | none => none
end DL
end

section
set_option Elab.async false
set_option linter.all false
set_option maxRecDepth 100000
namespace DL
open PySem PySem.W L2

/-! ### what a value stands for -/
def keyD : Key → D
  | .inl i => .int i
  | .inr x => .str x
mutual
inductive Rp (S : Hp) : V → D → Prop
  | non : Rp S .non .none
  | bl (b : Bool) : Rp S (.bl b) (.bool b)
  | int (i : Int) : Rp S (.int i) (.int i)
  | str (x : Str) : Rp S (.str x) (.str x)
  | tup {a : Addr} {xs : List V} {ds : List D} : S a = some (.tup xs) → RpL S xs ds → Rp S (.ref a) (.tuple ds)
  | lst {a : Addr} {xs : List V} {ds : List D} : Rd S a (.lst xs) → RpL S xs ds → Rp S (.ref a) (.list ds)
  | dK {a : Addr} {ps : List (Key × V)} {kvs : List (D × D)} : Rd S a (.dK ps) → RpK S ps kvs → Rp S (.ref a) (.dict kvs)
  | dT {a : Addr} {ps : List (List Key × V)} {kvs : List (D × D)} : Rd S a (.dT ps) → RpT S ps kvs → Rp S (.ref a) (.dict ((.none, .none) :: kvs))
inductive RpL (S : Hp) : List V → List D → Prop
  | nil : RpL S [] []
  | cons {v : V} {vs : List V} {d : D} {ds : List D} : Rp S v d → RpL S vs ds → RpL S (v :: vs) (d :: ds)
inductive RpK (S : Hp) : List (Key × V) → List (D × D) → Prop
  | nil : RpK S [] []
  | cons {k : Key} {v : V} {ps : List (Key × V)} {d : D} {kvs : List (D × D)} : Rp S v d → RpK S ps kvs → RpK S ((k, v) :: ps) ((keyD k, d) :: kvs)
inductive RpT (S : Hp) : List (List Key × V) → List (D × D) → Prop
  | nil : RpT S [] []
  | cons {k : List Key} {v : V} {ps : List (List Key × V)} {d : D} {kvs : List (D × D)} : Rp S v d → RpT S ps kvs → RpT S ((k, v) :: ps) ((.tuple (k.map keyD), d) :: kvs)
end

def Ex (H H' : Hp) : Prop := ∀ a o, H a = some o → H' a = some o
theorem Ex.refl (H : Hp) : Ex H H := fun _ _ h => h
theorem Ex.trans {H H1 H2 : Hp} (a : Ex H H1) (b : Ex H1 H2) : Ex H H2 := fun x o h => b x o (a x o h)
theorem Ex.new {H : Hp} {p : Addr} {o : HO} (h : H p = none) : Ex H (upd H p o) := fun a u e => by
  rw [upd_ne (ne_of_none e h)]
  exact e
theorem Ex.rd {H H' : Hp} {a : Addr} {u : HO} (e : Ex H H') (h : Rd H a u) : Rd H' a u := by
  rcases h with h | ⟨o, h⟩
  · exact Or.inl (e a _ h)
  · exact Or.inr ⟨o, e a _ h⟩
theorem Ex.none {H H' : Hp} {p : Addr} (e : Ex H H') (h : H' p = none) : H p = none := by
  cases h1 : H p with
  | none => rfl
  | some o =>
    rw [e p o h1] at h
    cases h
mutual
theorem Rp.mono {S S' : Hp} (e : Ex S S') : ∀ {v : V} {d : D}, Rp S v d → Rp S' v d
  | _, _, .non => .non
  | _, _, .bl b => .bl b
  | _, _, .int i => .int i
  | _, _, .str x => .str x
  | _, _, .tup h r => .tup (e _ _ h) (RpL.mono e r)
  | _, _, .lst h r => .lst (e.rd h) (RpL.mono e r)
  | _, _, .dK h r => .dK (e.rd h) (RpK.mono e r)
  | _, _, .dT h r => .dT (e.rd h) (RpT.mono e r)
theorem RpL.mono {S S' : Hp} (e : Ex S S') : ∀ {v : List V} {d : List D}, RpL S v d → RpL S' v d
  | _, _, .nil => .nil
  | _, _, .cons h r => .cons (Rp.mono e h) (RpL.mono e r)
theorem RpK.mono {S S' : Hp} (e : Ex S S') : ∀ {v : List (Key × V)} {d : List (D × D)}, RpK S v d → RpK S' v d
  | _, _, .nil => .nil
  | _, _, .cons h r => .cons (Rp.mono e h) (RpK.mono e r)
theorem RpT.mono {S S' : Hp} (e : Ex S S') : ∀ {v : List (List Key × V)} {d : List (D × D)}, RpT S v d → RpT S' v d
  | _, _, .nil => .nil
  | _, _, .cons h r => .cons (Rp.mono e h) (RpT.mono e r)
end
theorem RpL.length {S : Hp} : ∀ {v : List V} {d : List D}, RpL S v d → v.length = d.length
  | _, _, .nil => rfl
  | _, _, .cons _ r => by
    rw [List.length_cons, List.length_cons, r.length]
theorem RpL.append {S : Hp} : ∀ {v v' : List V} {d d' : List D}, RpL S v d → RpL S v' d' → RpL S (v ++ v') (d ++ d')
  | _, _, _, _, .nil, h => h
  | _, _, _, _, .cons h r, h' => .cons h (r.append h')
theorem RpL.get {S : Hp} : ∀ {v : List V} {d : List D} {i : Nat} {x : D}, RpL S v d → d[i]? = some x → ∃ u, v[i]? = some u ∧ Rp S u x
  | _, _, _, _, .nil, e => by simp at e
  | _, _, 0, _, .cons h _, e => by
    simp at e
    subst e
    exact ⟨_, rfl, h⟩
  | _, _, i + 1, x, .cons _ r, e => by
    obtain ⟨u, h1, h2⟩ := r.get (i := i) (x := x) (by simpa using e)
    exact ⟨u, by simpa using h1, h2⟩
theorem RpL.getV {S : Hp} : ∀ {v : List V} {d : List D} {i : Nat} {u : V}, RpL S v d → v[i]? = some u → ∃ x, d[i]? = some x ∧ Rp S u x
  | _, _, _, _, .nil, e => by simp at e
  | _, _, 0, _, .cons h _, e => by
    simp at e
    subst e
    exact ⟨_, rfl, h⟩
  | _, _, i + 1, x, .cons _ r, e => by
    obtain ⟨u, h1, h2⟩ := r.getV (i := i) (u := x) (by simpa using e)
    exact ⟨u, by simpa using h1, h2⟩
theorem RpL.drop {S : Hp} : ∀ (n : Nat) {v : List V} {d : List D}, RpL S v d → RpL S (v.drop n) (d.drop n)
  | 0, _, _, h => h
  | _ + 1, _, _, .nil => .nil
  | n + 1, _, _, .cons _ r => RpL.drop n r
theorem RpL.take {S : Hp} : ∀ (n : Nat) {v : List V} {d : List D}, RpL S v d → RpL S (v.take n) (d.take n)
  | 0, _, _, _ => .nil
  | _ + 1, _, _, .nil => .nil
  | n + 1, _, _, .cons h r => .cons h (RpL.take n r)
theorem RpL.set {S : Hp} {x : V} {y : D} (hx : Rp S x y) : ∀ (n : Nat) {v : List V} {d : List D}, RpL S v d → RpL S (v.set n x) (d.set n y)
  | _, _, _, .nil => .nil
  | 0, _, _, .cons _ r => .cons hx r
  | n + 1, _, _, .cons h r => .cons h (RpL.set hx n r)
theorem RpL.rep {S : Hp} {v : List V} {d : List D} (h : RpL S v d) : ∀ k : Nat, RpL S (List.replicate k v).flatten (List.replicate k d).flatten
  | 0 => .nil
  | k + 1 => by
    rw [List.replicate_succ, List.replicate_succ, List.flatten_cons, List.flatten_cons]
    exact h.append (h.rep k)
theorem RpL.ints {S : Hp} : ∀ {v : List V} {d : List D} {ns : List Int}, RpL S v d → intsD d = some ns → v = ns.map V.int
  | _, _, _, .nil, e => by
    cases e
    rfl
  | _, _, ns, .cons (d := d) h r, e => by
    cases d with
    | int i =>
      cases h
      unfold intsD at e
      cases q : intsD _ with
      | none =>
        rw [q] at e
        cases e
      | some ms =>
        rw [q] at e
        cases e
        rw [r.ints q]
        rfl
    | none => cases e
    | bool b => cases e
    | str s => cases e
    | list xs => cases e
    | tuple xs => cases e
    | dict xs => cases e
theorem RpL.of_ints {S : Hp} : ∀ ns : List Int, RpL S (ns.map V.int) (ns.map PyData.int)
  | [] => .nil
  | n :: ns => .cons (.int n) (RpL.of_ints ns)

/-- what stands at an owned address -/
inductive Own (S : Hp) : HO → D → Prop
  | lst {xs : List V} {ds : List D} : RpL S xs ds → Own S (.lst xs) (.list ds)
  | dK {ps : List (Key × V)} {kvs : List (D × D)} : RpK S ps kvs → Own S (.dK ps) (.dict kvs)
  | dT {ps : List (List Key × V)} {kvs : List (D × D)} : RpT S ps kvs → Own S (.dT ps) (.dict ((.none, .none) :: kvs))
theorem Own.mono {S S' : Hp} (e : Ex S S') {o : HO} {d : D} : Own S o d → Own S' o d
  | .lst h => .lst (h.mono e)
  | .dK h => .dK (h.mono e)
  | .dT h => .dT (h.mono e)
/-- a lent object may be locked -/
def OwnL (S : Hp) (o : HO) (d : D) : Prop := Own S o d ∨ ∃ ob u, o = .frz ob u ∧ Own S u d
theorem OwnL.mono {S S' : Hp} (e : Ex S S') {o : HO} {d : D} (h : OwnL S o d) : OwnL S' o d := by
  rcases h with h | ⟨ob, u, q, h⟩
  · exact .inl (h.mono e)
  · exact .inr ⟨ob, u, q, h.mono e⟩
theorem Own.rp {S : Hp} {a : Addr} {o : HO} {d : D} (h : Own S o d) (e : Rd S a o) : Rp S (.ref a) d := by
  cases h with
  | lst r => exact .lst e r
  | dK r => exact .dK e r
  | dT r => exact .dT e r
theorem Own.mut {S : Hp} {o : HO} {d : D} (h : Own S o d) : Mut (some o) := by
  cases h <;> trivial
theorem Own.notTup {S : Hp} {o : HO} {d : D} (h : Own S o d) (xs : List V) : o ≠ .tup xs := by
  cases h <;> intro z <;> cases z
theorem OwnL.rp {S : Hp} {a : Addr} {o : HO} {d : D} (h : OwnL S o d) (e : S a = some o) : Rp S (.ref a) d := by
  rcases h with h | ⟨ob, u, q, h⟩
  · exact h.rp (.inl e)
  · subst q
    exact h.rp (.inr ⟨ob, e⟩)
theorem OwnL.notTup {S : Hp} {o : HO} {d : D} (h : OwnL S o d) (xs : List V) : o ≠ .tup xs := by
  rcases h with h | ⟨ob, u, q, h⟩
  · exact h.notTup xs
  · subst q
    intro z
    cases z
/-- what may be read now: the object itself in H, all within it in S -/
inductive Top (S H : Hp) : V → D → Prop
  | rp {v : V} {d : D} : Rp S v d → Top S H v d
  | ob {a : Addr} {o : HO} {d : D} : Rd H a o → Own S o d → Top S H (.ref a) d
theorem Top.mono {S S' H : Hp} (e : Ex S S') {v : V} {d : D} : Top S H v d → Top S' H v d
  | .rp h => .rp (h.mono e)
  | .ob h o => .ob h (o.mono e)
theorem Top.full {S H : Hp} (e : Ex S H) {v : V} {d : D} : Top S H v d → Rp H v d
  | .rp h => h.mono e
  | .ob h o => (o.mono e).rp h
theorem Top.list {S H : Hp} (e : Ex S H) {v : V} {ds : List D} (h : Top S H v (.list ds)) : ∃ a xs, v = .ref a ∧ Rd H a (.lst xs) ∧ RpL S xs ds := by
  cases h with
  | rp h =>
    cases h with
    | lst h r => exact ⟨_, _, rfl, e.rd h, r⟩
  | ob h o =>
    cases o with
    | lst r => exact ⟨_, _, rfl, h, r⟩
theorem Top.tuple {S H : Hp} {v : V} {ds : List D} (h : Top S H v (.tuple ds)) : ∃ a xs, v = .ref a ∧ S a = some (.tup xs) ∧ RpL S xs ds := by
  cases h with
  | rp h =>
    cases h with
    | tup h r => exact ⟨_, _, rfl, h, r⟩
  | ob h o => cases o
theorem Top.int {S H : Hp} {v : V} {i : Int} (h : Top S H v (.int i)) : v = .int i := by
  cases h with
  | rp h => cases h; rfl
  | ob h o => cases o
theorem Top.bool {S H : Hp} {v : V} {b : Bool} (h : Top S H v (.bool b)) : v = .bl b := by
  cases h with
  | rp h => cases h; rfl
  | ob h o => cases o
theorem Top.none {S H : Hp} {v : V} (h : Top S H v .none) : v = .non := by
  cases h with
  | rp h => cases h; rfl
  | ob h o => cases o
theorem Top.str {S H : Hp} {v : V} {x : Str} (h : Top S H v (.str x)) : v = .str x := by
  cases h with
  | rp h => cases h; rfl
  | ob h o => cases o

/-! ### into the library's readings -/
mutual
theorem Rp.dp {K : PySem.W.Frag} {H : Hp} : ∀ {v : V} {d : D}, Rp H v d → d.plain = true → Dp K H v d
  | _, _, .non, _ => .non
  | _, _, .bl b, _ => .bl b
  | _, _, .int i, _ => .int i
  | _, _, .str x, _ => .str x
  | _, _, .tup h r, p => .tup (.inl (.inl h)) (RpL.dp r (by simpa [PyData.plain] using p))
  | _, _, .lst h r, p => .lst (.inl h) (RpL.dp r (by simpa [PyData.plain] using p))
  | _, _, .dK _ _, p => by simp [PyData.plain] at p
  | _, _, .dT _ _, p => by simp [PyData.plain] at p
theorem RpL.dp {K : PySem.W.Frag} {H : Hp} : ∀ {v : List V} {d : List D}, RpL H v d → PyData.plainAll d = true → DpAll K H v d
  | _, _, .nil, _ => .nil
  | _, _, .cons h r, p => by
    rw [PyData.plainAll, Bool.and_eq_true] at p
    exact .cons (Rp.dp h p.1) (RpL.dp r p.2)
end
end DL
end

section
set_option Elab.async false
set_option linter.all false
set_option maxRecDepth 100000
set_option autoImplicit false
namespace DL
open PySem PySem.W L2

/-- the entry: the frozen part, the heap; what is pinned: a lent object (with its content), or one of the caller's that may change (none) -/
structure Gam where
  S0 : Hp
  H0 : Hp
  L : List (Nat × Addr × Option HO)
  /-- what nobody touches meanwhile -/
  F : List (Addr × HO)
inductive SlOk (Γ : Gam) (S H : Hp) (σ : St) (i : Nat) : Sl → Prop
  | no : SlOk Γ S H σ i .no
  | fz {v : V} {d : D} : σ[i]? = some (some v) → Rp S v d → SlOk Γ S H σ i (.fz d)
  | ow {a : Addr} {o : HO} {d : D} : σ[i]? = some (some (.ref a)) → H a = some o → Own S o d → S a = none → Γ.H0 a = none → SlOk Γ S H σ i (.ow d)
  | io {a : Addr} {o : HO} {d : D} : σ[i]? = some (some (.ref a)) → H a = some o → Own S o d → (i, a, none) ∈ Γ.L → SlOk Γ S H σ i (.io d)
  | lent {a : Addr} {o : HO} {d : D} : σ[i]? = some (some (.ref a)) → OwnL S o d → (i, a, some o) ∈ Γ.L → SlOk Γ S H σ i (.lent d)
def Bare (ρ : Rho) (σ : St) (a : Addr) : Prop := ∀ (j : Nat) (d : D), ρ[j]? = some (Sl.ow d) → σ[j]? ≠ some (some (V.ref a))
structure PinOk (S H : Hp) (ρ : Rho) (σ : St) (i : Nat) (a : Addr) (q : Option HO) : Prop where
  s : S a = none
  at_ : σ[i]? = some (some (.ref a))
  bare : Bare ρ σ a
  ob : ∀ o, q = some o → H a = some o ∧ ∃ d, ρ[i]? = some (.lent d)
  io : q = none → ∃ d, ρ[i]? = some (.io d)
structure Kept (Γ : Gam) (S H : Hp) (ρ : Rho) (σ : St) (a : Addr) (o : HO) : Prop where
  ob : H a = some o
  s : S a = none
  bare : Bare ρ σ a
  nopin : ∀ i q, (i, a, q) ∉ Γ.L
  nt : ∀ xs, o ≠ .tup xs
structure Sat (Γ : Gam) (S : Hp) (ρ : Rho) (σ : St) (H : Hp) : Prop where
  len : ρ.length = σ.length
  sub : Ex S H
  old : Ex Γ.S0 S
  new : ∀ a o, S a = some o → Γ.S0 a = some o ∨ Γ.H0 a = none ∨ ∃ xs, Γ.H0 a = some (.tup xs)
  fr : ∀ a o, Γ.H0 a = some o → (∀ i, (i, a, none) ∉ Γ.L) → H a = some o
  slot : ∀ (i : Nat) (s : Sl), ρ[i]? = some s → SlOk Γ S H σ i s
  one : ∀ (i j : Nat) (d e : D) (a : Addr), i ≠ j → ρ[i]? = some (Sl.ow d) → ρ[j]? = some (Sl.ow e) → σ[i]? = some (some (V.ref a)) → σ[j]? ≠ some (some (V.ref a))
  pin : ∀ i a q, (i, a, q) ∈ Γ.L → PinOk S H ρ σ i a q
  dis : ∀ i a q j b r, (i, a, q) ∈ Γ.L → (j, b, r) ∈ Γ.L → i ≠ j → a ≠ b
  kept : ∀ a o, (a, o) ∈ Γ.F → Kept Γ S H ρ σ a o

section
variable {Γ : Gam} {S S' : Hp} {ρ ρ' : Rho} {σ : St} {H : Hp}
theorem SlOk.ext {H' : Hp} {i : Nat} {s : Sl} (h : SlOk Γ S H σ i s) (e : Ex S S') (eh : ∀ a, σ[i]? = some (some (.ref a)) → (∃ d, s = .ow d ∨ s = .io d) → H' a = H a) (es : ∀ a, σ[i]? = some (some (.ref a)) → (∃ d, s = .ow d) → S a = none → S' a = none) : SlOk Γ S' H' σ i s := by
  cases h with
  | no => exact .no
  | fz h r => exact .fz h (r.mono e)
  | ow h1 h2 h3 h4 h5 => exact .ow h1 (by rw [eh _ h1 ⟨_, .inl rfl⟩]; exact h2) (h3.mono e) (es _ h1 ⟨_, rfl⟩ h4) h5
  | io h1 h2 h3 h4 => exact .io h1 (by rw [eh _ h1 ⟨_, .inr rfl⟩]; exact h2) (h3.mono e) h4
  | lent h1 h2 h3 => exact .lent h1 (h2.mono e) h3
theorem Sat.io_at (s : Sat Γ S ρ σ H) {i : Nat} {d : D} (h : ρ[i]? = some (.io d)) : ∃ a o, σ[i]? = some (some (.ref a)) ∧ H a = some o ∧ Own S o d ∧ (i, a, none) ∈ Γ.L ∧ S a = none := by
  cases s.slot i _ h with
  | io h1 h2 h3 h4 => exact ⟨_, _, h1, h2, h3, h4, (s.pin _ _ _ h4).s⟩
theorem Sat.ow_at (s : Sat Γ S ρ σ H) {i : Nat} {d : D} (h : ρ[i]? = some (.ow d)) : ∃ a o, σ[i]? = some (some (.ref a)) ∧ H a = some o ∧ Own S o d ∧ S a = none ∧ Γ.H0 a = none := by
  cases s.slot i _ h with
  | ow h1 h2 h3 h4 h5 => exact ⟨_, _, h1, h2, h3, h4, h5⟩
theorem Sat.fz_at (s : Sat Γ S ρ σ H) {i : Nat} {d : D} (h : ρ[i]? = some (.fz d)) : ∃ v, σ[i]? = some (some v) ∧ Rp S v d := by
  cases s.slot i _ h with
  | fz h1 h2 => exact ⟨_, h1, h2⟩
theorem Sat.lent_at (s : Sat Γ S ρ σ H) {i : Nat} {d : D} (h : ρ[i]? = some (.lent d)) : ∃ a o, σ[i]? = some (some (.ref a)) ∧ H a = some o ∧ OwnL S o d ∧ (i, a, some o) ∈ Γ.L ∧ S a = none := by
  cases s.slot i _ h with
  | lent h1 h2 h3 => exact ⟨_, _, h1, ((s.pin _ _ _ h3).ob _ rfl).1, h2, h3, (s.pin _ _ _ h3).s⟩
/-- a pinned object stands in the heap -/
theorem Sat.pin_at (s : Sat Γ S ρ σ H) {i : Nat} {a : Addr} {q : Option HO} (h : (i, a, q) ∈ Γ.L) : ∃ o, H a = some o := by
  cases q with
  | some o => exact ⟨o, ((s.pin _ _ _ h).ob o rfl).1⟩
  | none =>
    obtain ⟨d, e⟩ := (s.pin _ _ _ h).io rfl
    obtain ⟨b, o, h1, h2, _⟩ := s.io_at e
    have z := (s.pin _ _ _ h).at_
    rw [h1] at z
    cases z
    exact ⟨o, h2⟩
/-- two pinned slots of one place -/
theorem Sat.pin_one (s : Sat Γ S ρ σ H) {i : Nat} {a b : Addr} {q r : Option HO} (h : (i, a, q) ∈ Γ.L) (h' : (i, b, r) ∈ Γ.L) : a = b := by
  have z := (s.pin _ _ _ h).at_
  rw [(s.pin _ _ _ h').at_] at z
  cases z
  rfl
/-- the frozen part may grow by what is new, or by tuples -/
theorem Sat.grow (s : Sat Γ S ρ σ H) {H' : Hp} (e : Ex S S') (sub : Ex S' H') (kp : ∀ a o, H a = some o → H' a = some o) (nw : ∀ a o, S' a = some o → S a = some o ∨ H a = none ∨ ∃ xs, H a = some (.tup xs)) : Sat Γ S' ρ σ H' := by
  have no : ∀ a o, S a = none → H a = some o → (∀ xs, o ≠ .tup xs) → S' a = none := fun a o h1 h2 h3 => by
    cases z : S' a with
    | none => rfl
    | some u =>
      rcases nw a u z with h | h | ⟨xs, h⟩
      · rw [h1] at h; cases h
      · rw [h2] at h; cases h
      · rw [h2] at h; cases h; exact absurd rfl (h3 xs)
  refine ⟨s.len, sub, s.old.trans e, fun a o h => ?_, fun a o h1 h2 => kp a o (s.fr a o h1 h2), fun i x h => ?_, s.one, fun i a q h => ?_, s.dis, fun a o h => ?_⟩
  · rcases nw a o h with h | h | ⟨xs, h⟩
    · exact s.new a o h
    · by_cases hL : ∀ i, (i, a, none) ∉ Γ.L
      · cases z : Γ.H0 a with
        | none => exact .inr (.inl rfl)
        | some u =>
          rw [s.fr a u z hL] at h
          cases h
      · exact absurd (fun i hi => by
          obtain ⟨o, ho⟩ := s.pin_at hi
          rw [h] at ho
          cases ho) hL
    · by_cases hL : ∀ i, (i, a, none) ∉ Γ.L
      · cases z : Γ.H0 a with
        | none => exact .inr (.inl rfl)
        | some u =>
          rw [s.fr a u z hL] at h
          cases h
          exact .inr (.inr ⟨xs, rfl⟩)
      · exact absurd (fun i hi => by
          obtain ⟨d, e⟩ := (s.pin _ _ _ hi).io rfl
          obtain ⟨b, o, h1, h2, h3, h4, _⟩ := s.io_at e
          have z := s.pin_one hi h4
          subst z
          rw [h] at h2
          cases h2
          exact absurd rfl (h3.notTup xs)) hL
  · refine (s.slot i x h).ext e (fun a ha hx => ?_) (fun a ha ⟨d, hx⟩ hs => ?_)
    · obtain ⟨d, hx | hx⟩ := hx
      · subst hx
        obtain ⟨b, o, h1, h2, _⟩ := s.ow_at h
        rw [h1] at ha
        cases ha
        rw [h2]
        exact kp _ _ h2
      · subst hx
        obtain ⟨b, o, h1, h2, _⟩ := s.io_at h
        rw [h1] at ha
        cases ha
        rw [h2]
        exact kp _ _ h2
    · subst hx
      obtain ⟨b, o, h1, h2, h3, h4, _⟩ := s.ow_at h
      rw [h1] at ha
      cases ha
      exact no _ _ hs h2 h3.notTup
  · obtain ⟨h1, h2, h3, h4, h5⟩ := s.pin i a q h
    refine ⟨?_, h2, h3, fun o ho => ⟨kp _ _ (h4 o ho).1, (h4 o ho).2⟩, h5⟩
    cases q with
    | none =>
      obtain ⟨d, e⟩ := h5 rfl
      obtain ⟨b, o, k1, k2, k3, k4, _⟩ := s.io_at e
      have z := s.pin_one h k4
      subst z
      exact no _ _ h1 k2 k3.notTup
    | some o =>
      obtain ⟨k1, d, k2⟩ := h4 o rfl
      obtain ⟨b, u, g1, g2, g3, g4, _⟩ := s.lent_at k2
      have z := s.pin_one h g4
      subst z
      exact no _ _ h1 g2 g3.notTup
  · obtain ⟨k1, k2, k3, k4, k5⟩ := s.kept a o h
    exact ⟨kp _ _ k1, no _ _ k2 k1 k5, k3, k4, k5⟩
/-- a new frozen object -/
theorem Sat.newFz (s : Sat Γ S ρ σ H) {p : Addr} {o : HO} (h : H p = none) : Sat Γ (upd S p o) ρ σ (upd H p o) := by
  have hs : S p = none := s.sub.none h
  refine s.grow (Ex.new hs) (fun a u e => ?_) (Ex.new h) fun a u e => ?_
  · by_cases z : a = p
    · subst z
      rw [upd_same] at e ⊢
      exact e
    · rw [upd_ne z] at e ⊢
      exact s.sub a u e
  · by_cases z : a = p
    · subst z
      exact .inr (.inl h)
    · rw [upd_ne z] at e
      exact .inl e
/-- a new object that nobody holds yet -/
theorem Sat.newOb (s : Sat Γ S ρ σ H) {p : Addr} {o : HO} (h : H p = none) : Sat Γ S ρ σ (upd H p o) :=
  s.grow (Ex.refl S) (s.sub.trans (Ex.new h)) (Ex.new h) fun a u e => .inl e
/-- an object that nobody holds is frozen -/
theorem Sat.freeze (s : Sat Γ S ρ σ H) {p : Addr} {o : HO} (h : H p = some o) (hs : S p = none) (h0 : Γ.H0 p = none) (hb : Bare ρ σ p) (hp : ∀ i q, (i, p, q) ∉ Γ.L) (hF : ∀ u, (p, u) ∉ Γ.F) : Sat Γ (upd S p o) ρ σ H := by
  have ex : Ex S (upd S p o) := Ex.new hs
  refine ⟨s.len, fun a u e => ?_, s.old.trans ex, fun a u e => ?_, s.fr, fun i x e => ?_, s.one, fun i a q e => ?_, s.dis, fun a u e => ?_⟩
  · by_cases z : a = p
    · subst z
      rw [upd_same] at e
      cases e
      exact h
    · rw [upd_ne z] at e
      exact s.sub a u e
  · by_cases z : a = p
    · subst z
      exact .inr (.inl h0)
    · rw [upd_ne z] at e
      exact s.new a u e
  · refine (s.slot i x e).ext ex (fun _ _ _ => rfl) fun a ha ⟨d, hx⟩ hn => ?_
    subst hx
    have z : a ≠ p := fun z => by
      subst z
      exact hb i d e ha
    rw [upd_ne z]
    exact hn
  · obtain ⟨h1, h2, h3, h4, h5⟩ := s.pin i a q e
    have z : a ≠ p := fun z => by
      subst z
      exact hp i q e
    exact ⟨by rw [upd_ne z]; exact h1, h2, h3, h4, h5⟩
  · obtain ⟨k1, k2, k3, k4, k5⟩ := s.kept a u e
    have z : a ≠ p := fun z => by
      subst z
      exact hF u e
    exact ⟨k1, by rw [upd_ne z]; exact k2, k3, k4, k5⟩
theorem get_set_self {α : Type} {l : List α} {i : Nat} {x y : α} (h : l[i]? = some x) : (l.set i y)[i]? = some y := by
  rw [List.getElem?_set_self]
  exact (List.getElem?_eq_some_iff.mp h).1
theorem get_set {α : Type} {l : List α} {i j : Nat} {y z : α} (h : (l.set i y)[j]? = some z) : (i = j ∧ z = y) ∨ (i ≠ j ∧ l[j]? = some z) := by
  by_cases e : i = j
  · subst e
    have hl : i < l.length := by
      have := (List.getElem?_eq_some_iff.mp h).1
      rw [List.length_set] at this
      exact this
    rw [List.getElem?_set_self hl] at h
    cases h
    exact .inl ⟨rfl, rfl⟩
  · rw [List.getElem?_set_ne e] at h
    exact .inr ⟨e, h⟩
/-- an owned slot is frozen -/
theorem Sat.fzSlot (s : Sat Γ S ρ σ H) {i : Nat} {d : D} (h : ρ[i]? = some (.ow d)) : ∃ a S', σ[i]? = some (some (.ref a)) ∧ Ex S S' ∧ Rp S' (.ref a) d ∧ Sat Γ S' (ρ.set i (.fz d)) σ H := by
  obtain ⟨a, o, h1, h2, h3, h4, h5⟩ := s.ow_at h
  have ex : Ex S (upd S a o) := Ex.new h4
  have rp : Rp (upd S a o) (.ref a) d := (h3.mono ex).rp (.inl upd_same)
  have np : ∀ j q, (j, a, q) ∉ Γ.L := fun j q hj => (s.pin j a q hj).bare i d h h1
  have bare : ∀ b, Bare ρ σ b → Bare (ρ.set i (.fz d)) σ b := fun b hb j e hj => by
    rcases get_set hj with ⟨_, z⟩ | ⟨_, z⟩
    · cases z
    · exact hb j e z
  refine ⟨a, upd S a o, h1, ex, rp, ⟨by rw [List.length_set]; exact s.len, fun b u e => ?_, s.old.trans ex, fun b u e => ?_, s.fr, fun j x e => ?_, fun j k e1 e2 b hjk q1 q2 => ?_, fun j b q e => ?_, s.dis, fun b u e => ?_⟩⟩
  · by_cases z : b = a
    · subst z
      rw [upd_same] at e
      cases e
      exact h2
    · rw [upd_ne z] at e
      exact s.sub b u e
  · by_cases z : b = a
    · subst z
      exact .inr (.inl h5)
    · rw [upd_ne z] at e
      exact s.new b u e
  · rcases get_set e with ⟨z1, z2⟩ | ⟨z1, z2⟩
    · subst z1
      subst z2
      exact .fz h1 rp
    · refine (s.slot j x z2).ext ex (fun _ _ _ => rfl) fun b hb ⟨d', hx⟩ hn => ?_
      subst hx
      have z : b ≠ a := fun z => by
        subst z
        exact s.one i j d d' b z1 h z2 h1 hb
      rw [upd_ne z]
      exact hn
  · rcases get_set q1 with ⟨_, z⟩ | ⟨_, q1⟩
    · cases z
    · rcases get_set q2 with ⟨_, z⟩ | ⟨_, q2⟩
      · cases z
      · exact s.one j k e1 e2 b hjk q1 q2
  · obtain ⟨g1, g2, g3, g4, g5⟩ := s.pin j b q e
    have z : b ≠ a := fun z => by
      subst z
      exact np j q e
    have hij : i ≠ j := fun z => by
      subst z
      rw [h1] at g2
      cases g2
      exact z rfl
    exact ⟨by rw [upd_ne z]; exact g1, g2, bare b g3, fun o ho => ⟨(g4 o ho).1, by rw [List.getElem?_set_ne hij]; exact (g4 o ho).2⟩, fun ho => by rw [List.getElem?_set_ne hij]; exact g5 ho⟩
  · obtain ⟨k1, k2, k3, k4, k5⟩ := s.kept b u e
    have z : b ≠ a := fun z => by
      subst z
      exact k3 i d h h1
    exact ⟨k1, by rw [upd_ne z]; exact k2, bare b k3, k4, k5⟩
/-- the object of an owned slot changes -/
theorem Sat.mutOw (s : Sat Γ S ρ σ H) {i : Nat} {d d' : D} {a : Addr} {o' : HO} (h : ρ[i]? = some (.ow d)) (ha : σ[i]? = some (some (.ref a))) (ho : Own S o' d') : Sat Γ S (ρ.set i (.ow d')) σ (upd H a o') := by
  obtain ⟨b, o, h1, h2, h3, h4, h5⟩ := s.ow_at h
  rw [h1] at ha
  cases ha
  have np : ∀ j q, (j, a, q) ∉ Γ.L := fun j q hj => (s.pin j a q hj).bare i d h h1
  have bare : ∀ c, Bare ρ σ c → Bare (ρ.set i (.ow d')) σ c := fun c hb j e hj => by
    rcases get_set hj with ⟨z, _⟩ | ⟨_, z⟩
    · subst z
      exact hb i d h
    · exact hb j e z
  refine ⟨by rw [List.length_set]; exact s.len, fun c u e => ?_, s.old, s.new, fun c u e hc => ?_, fun j x e => ?_, fun j k e1 e2 c hjk q1 q2 => ?_, fun j c q e => ?_, s.dis, fun c u e => ?_⟩
  · have z : c ≠ a := fun z => by
      subst z
      rw [h4] at e
      cases e
    rw [upd_ne z]
    exact s.sub c u e
  · have z : c ≠ a := fun z => by
      subst z
      rw [h5] at e
      cases e
    rw [upd_ne z]
    exact s.fr c u e hc
  · rcases get_set e with ⟨z1, z2⟩ | ⟨z1, z2⟩
    · subst z1
      subst z2
      exact .ow h1 upd_same ho h4 h5
    · refine (s.slot j x z2).ext (Ex.refl S) (fun c hc hx => ?_) (fun _ _ _ z => z)
      have z : c ≠ a := fun z => by
        subst z
        obtain ⟨dd, hx | hx⟩ := hx
        · subst hx
          exact s.one i j d dd c z1 h z2 h1 hc
        · subst hx
          obtain ⟨e2, _, k1, _, _, k4, _⟩ := s.io_at z2
          rw [k1] at hc
          cases hc
          exact np _ _ k4
      rw [upd_ne z]
  · rcases get_set q1 with ⟨z1, _⟩ | ⟨_, q1⟩
    · rcases get_set q2 with ⟨z2, _⟩ | ⟨_, q2⟩
      · exact absurd (z1.symm.trans z2) hjk
      · subst z1
        exact s.one i k d e2 c hjk h q2
    · rcases get_set q2 with ⟨z2, _⟩ | ⟨_, q2⟩
      · subst z2
        exact s.one j i e1 d c hjk q1 h
      · exact s.one j k e1 e2 c hjk q1 q2
  · obtain ⟨g1, g2, g3, g4, g5⟩ := s.pin j c q e
    have z : c ≠ a := fun z => by
      subst z
      exact np j q e
    have hij : i ≠ j := fun z => by
      subst z
      rw [h1] at g2
      cases g2
      exact z rfl
    exact ⟨g1, g2, bare c g3, fun o ho => ⟨by rw [upd_ne z]; exact (g4 o ho).1, by rw [List.getElem?_set_ne hij]; exact (g4 o ho).2⟩, fun ho => by rw [List.getElem?_set_ne hij]; exact g5 ho⟩
  · obtain ⟨k1, k2, k3, k4, k5⟩ := s.kept c u e
    have z : c ≠ a := fun z => by
      subst z
      exact k3 i d h h1
    exact ⟨by rw [upd_ne z]; exact k1, k2, bare c k3, k4, k5⟩
/-- .. of a slot that the caller owns -/
theorem Sat.mutIo (s : Sat Γ S ρ σ H) {i : Nat} {d d' : D} {a : Addr} {o' : HO} (h : ρ[i]? = some (.io d)) (ha : σ[i]? = some (some (.ref a))) (ho : Own S o' d') : Sat Γ S (ρ.set i (.io d')) σ (upd H a o') := by
  obtain ⟨b, o, h1, h2, h3, h4, h5⟩ := s.io_at h
  rw [h1] at ha
  cases ha
  have pb := s.pin _ _ _ h4
  have bare : ∀ c, Bare ρ σ c → Bare (ρ.set i (.io d')) σ c := fun c hb j e hj => by
    rcases get_set hj with ⟨_, z⟩ | ⟨_, z⟩
    · cases z
    · exact hb j e z
  refine ⟨by rw [List.length_set]; exact s.len, fun c u e => ?_, s.old, s.new, fun c u e hc => ?_, fun j x e => ?_, fun j k e1 e2 c hjk q1 q2 => ?_, fun j c q e => ?_, s.dis, fun c u e => ?_⟩
  · have z : c ≠ a := fun z => by
      subst z
      rw [h5] at e
      cases e
    rw [upd_ne z]
    exact s.sub c u e
  · have z : c ≠ a := fun z => by
      subst z
      exact hc i h4
    rw [upd_ne z]
    exact s.fr c u e hc
  · rcases get_set e with ⟨z1, z2⟩ | ⟨z1, z2⟩
    · subst z1
      subst z2
      exact .io h1 upd_same ho h4
    · refine (s.slot j x z2).ext (Ex.refl S) (fun c hc hx => ?_) (fun _ _ _ z => z)
      have z : c ≠ a := fun z => by
        subst z
        obtain ⟨dd, hx | hx⟩ := hx
        · subst hx
          exact pb.bare j dd z2 hc
        · subst hx
          obtain ⟨e2, _, k1, _, _, k4, _⟩ := s.io_at z2
          rw [k1] at hc
          cases hc
          exact s.dis _ _ _ _ _ _ h4 k4 z1 rfl
      rw [upd_ne z]
  · rcases get_set q1 with ⟨_, z⟩ | ⟨_, q1⟩
    · cases z
    · rcases get_set q2 with ⟨_, z⟩ | ⟨_, q2⟩
      · cases z
      · exact s.one j k e1 e2 c hjk q1 q2
  · obtain ⟨g1, g2, g3, g4, g5⟩ := s.pin j c q e
    by_cases hij : i = j
    · subst hij
      refine ⟨g1, g2, bare c g3, fun o ho => ?_, fun _ => ⟨d', get_set_self h⟩⟩
      obtain ⟨_, dd, z⟩ := g4 o ho
      rw [h] at z
      cases z
    · have z : c ≠ a := fun z => s.dis _ _ _ _ _ _ h4 e hij z.symm
      exact ⟨g1, g2, bare c g3, fun o ho => ⟨by rw [upd_ne z]; exact (g4 o ho).1, by rw [List.getElem?_set_ne hij]; exact (g4 o ho).2⟩, fun ho => by rw [List.getElem?_set_ne hij]; exact g5 ho⟩
  · obtain ⟨k1, k2, k3, k4, k5⟩ := s.kept c u e
    have z : c ≠ a := fun z => by
      subst z
      exact k4 i none h4
    exact ⟨by rw [upd_ne z]; exact k1, k2, bare c k3, k4, k5⟩
/-- a slot that is not pinned -/
theorem Sat.notPin (s : Sat Γ S ρ σ H) {i : Nat} {x : Sl} (h : ρ[i]? = some x) (h1 : ∀ d, x ≠ .lent d) (h2 : ∀ d, x ≠ .io d) {a : Addr} {q : Option HO} {j : Nat} (hj : (j, a, q) ∈ Γ.L) : i ≠ j := fun z => by
  subst z
  have p := s.pin _ _ _ hj
  cases q with
  | none =>
    obtain ⟨d, e⟩ := p.io rfl
    rw [h] at e
    cases e
    exact h2 _ rfl
  | some o =>
    obtain ⟨_, d, e⟩ := p.ob o rfl
    rw [h] at e
    cases e
    exact h1 _ rfl
/-- a slot takes something else -/
theorem Sat.put (s : Sat Γ S ρ σ H) {i : Nat} {x y : Sl} {v : Option V} (h : ρ[i]? = some x) (h1 : ∀ d, x ≠ .lent d) (h2 : ∀ d, x ≠ .io d) (hy : SlOk Γ S H (σ.set i v) i y) (hb : ∀ d a, y = .ow d → v = some (.ref a) → Bare ρ σ a ∧ (∀ j q, (j, a, q) ∉ Γ.L) ∧ ∀ u, (a, u) ∉ Γ.F) : Sat Γ S (ρ.set i y) (σ.set i v) H := by
  have np := fun {a : Addr} {q : Option HO} {j : Nat} (hj : (j, a, q) ∈ Γ.L) => s.notPin h h1 h2 hj
  have hi : i < σ.length := by
    rw [← s.len]
    exact (List.getElem?_eq_some_iff.mp h).1
  have ow : ∀ {j : Nat} {d : D} {c : Addr}, (ρ.set i y)[j]? = some (.ow d) → (σ.set i v)[j]? = some (some (.ref c)) → (i = j ∧ y = .ow d ∧ v = some (.ref c)) ∨ (i ≠ j ∧ ρ[j]? = some (.ow d) ∧ σ[j]? = some (some (.ref c))) := fun {j d c} e1 e2 => by
    rcases get_set e1 with ⟨z1, z2⟩ | ⟨z1, z2⟩
    · subst z1
      rw [List.getElem?_set_self hi] at e2
      cases e2
      exact .inl ⟨rfl, z2.symm, rfl⟩
    · rw [List.getElem?_set_ne z1] at e2
      exact .inr ⟨z1, z2, e2⟩
  refine ⟨by rw [List.length_set, List.length_set]; exact s.len, s.sub, s.old, s.new, s.fr, fun j z e => ?_, fun j k e1 e2 a hjk q1 q2 z1 z2 => ?_, fun j a q e => ?_, s.dis, fun a u e => ?_⟩
  · rcases get_set e with ⟨z1, z2⟩ | ⟨z1, z2⟩
    · subst z1
      subst z2
      exact hy
    · have g : (σ.set i v)[j]? = σ[j]? := List.getElem?_set_ne z1
      cases s.slot j z z2 with
      | no => exact .no
      | fz a b => exact .fz (g.trans a) b
      | ow p1 p2 p3 p4 p5 => exact .ow (g.trans p1) p2 p3 p4 p5
      | io a b c d => exact .io (g.trans a) b c d
      | lent a b c => exact .lent (g.trans a) b c
  · rcases ow q1 z1 with ⟨a1, a2, a3⟩ | ⟨a1, a2, a3⟩
    · rcases ow q2 z2 with ⟨b1, b2, b3⟩ | ⟨b1, b2, b3⟩
      · exact hjk (a1.symm.trans b1)
      · exact (hb _ _ a2 a3).1 _ _ b2 b3
    · rcases ow q2 z2 with ⟨b1, b2, b3⟩ | ⟨b1, b2, b3⟩
      · exact (hb _ _ b2 b3).1 _ _ a2 a3
      · exact s.one _ _ _ _ _ hjk a2 b2 a3 b3
  · obtain ⟨g1, g2, g3, g4, g5⟩ := s.pin j a q e
    have hij := np e
    refine ⟨g1, by rw [List.getElem?_set_ne hij]; exact g2, fun k d hk z => ?_, fun o ho => ⟨(g4 o ho).1, by rw [List.getElem?_set_ne hij]; exact (g4 o ho).2⟩, fun ho => by rw [List.getElem?_set_ne hij]; exact g5 ho⟩
    rcases ow hk z with ⟨b1, b2, b3⟩ | ⟨b1, b2, b3⟩
    · exact (hb _ _ b2 b3).2.1 _ _ e
    · exact g3 _ _ b2 b3
  · obtain ⟨k1, k2, k3, k4, k5⟩ := s.kept a u e
    refine ⟨k1, k2, fun j d hj z => ?_, k4, k5⟩
    rcases ow hj z with ⟨b1, b2, b3⟩ | ⟨b1, b2, b3⟩
    · exact (hb _ _ b2 b3).2.2 _ e
    · exact k3 _ _ b2 b3
/-- something more that nobody touches -/
def Gam.keep (Γ : Gam) (a : Addr) (o : HO) : Gam := { Γ with F := (a, o) :: Γ.F }
theorem Sat.keep (s : Sat Γ S ρ σ H) {a : Addr} {o : HO} (k : Kept Γ S H ρ σ a o) : Sat (Γ.keep a o) S ρ σ H :=
  ⟨s.len, s.sub, s.old, s.new, s.fr, fun i x e => by
    cases s.slot i x e with
    | no => exact .no
    | fz p1 p2 => exact .fz p1 p2
    | ow p1 p2 p3 p4 p5 => exact .ow p1 p2 p3 p4 p5
    | io p1 p2 p3 p4 => exact .io p1 p2 p3 p4
    | lent p1 p2 p3 => exact .lent p1 p2 p3, s.one, s.pin, s.dis, fun b u e => by
    rcases List.mem_cons.mp e with e | e
    · cases e
      exact ⟨k.ob, k.s, k.bare, k.nopin, k.nt⟩
    · obtain ⟨k1, k2, k3, k4, k5⟩ := s.kept b u e
      exact ⟨k1, k2, k3, k4, k5⟩⟩
theorem Sat.unkeep {a : Addr} {o : HO} (s : Sat (Γ.keep a o) S ρ σ H) : Sat Γ S ρ σ H ∧ Kept Γ S H ρ σ a o :=
  ⟨⟨s.len, s.sub, s.old, s.new, s.fr, fun i x e => by
    cases s.slot i x e with
    | no => exact .no
    | fz p1 p2 => exact .fz p1 p2
    | ow p1 p2 p3 p4 p5 => exact .ow p1 p2 p3 p4 p5
    | io p1 p2 p3 p4 => exact .io p1 p2 p3 p4
    | lent p1 p2 p3 => exact .lent p1 p2 p3, s.one, s.pin, s.dis, fun b u e => by
    obtain ⟨k1, k2, k3, k4, k5⟩ := s.kept b u (List.mem_cons_of_mem _ e)
    exact ⟨k1, k2, k3, k4, k5⟩⟩, by
    obtain ⟨k1, k2, k3, k4, k5⟩ := s.kept a o List.mem_cons_self
    exact ⟨k1, k2, k3, k4, k5⟩⟩
/-- a kept object turns into another one, which is kept on (an update of what nobody else holds) -/
theorem Sat.turn {a : Addr} {o o' : HO} (s : Sat (Γ.keep a o) S ρ σ H) (hn : ∀ xs, o' ≠ .tup xs) (hF : ∀ u, (a, u) ∉ Γ.F) (h0 : Γ.H0 a = none) : Sat (Γ.keep a o') S ρ σ (upd H a o') := by
  obtain ⟨s, k⟩ := s.unkeep
  have nb : ∀ {b : Addr}, (∃ (i : Nat) (d : D), ρ[i]? = some (Sl.ow d) ∧ σ[i]? = some (some (V.ref b))) → b ≠ a := fun ⟨i, d, h1, h2⟩ z => by
    subst z
    exact k.bare i d h1 h2
  have np : ∀ {b : Addr} {i : Nat} {q : Option HO}, (i, b, q) ∈ Γ.L → b ≠ a := fun h z => by
    subst z
    exact k.nopin _ _ h
  have s' : Sat Γ S ρ σ (upd H a o') := by
    refine ⟨s.len, fun b u e => ?_, s.old, s.new, fun b u e hb => ?_, fun i x e => ?_, s.one, fun i b q e => ?_, s.dis, fun b u e => ?_⟩
    · have z : b ≠ a := fun z => by
        subst z
        rw [k.s] at e
        cases e
      rw [upd_ne z]
      exact s.sub b u e
    · have z : b ≠ a := fun z => by
        subst z
        rw [h0] at e
        cases e
      rw [upd_ne z]
      exact s.fr b u e hb
    · refine (s.slot i x e).ext (Ex.refl S) (fun b hb ⟨d, hx⟩ => ?_) (fun _ _ _ z => z)
      rcases hx with hx | hx
      · subst hx
        rw [upd_ne (nb ⟨i, d, e, hb⟩)]
      · subst hx
        obtain ⟨c, u, g1, g2, g3, g4, _⟩ := s.io_at e
        rw [g1] at hb
        cases hb
        rw [upd_ne (np g4)]
    · obtain ⟨g1, g2, g3, g4, g5⟩ := s.pin i b q e
      exact ⟨g1, g2, g3, fun u hu => ⟨by rw [upd_ne (np e)]; exact (g4 u hu).1, (g4 u hu).2⟩, g5⟩
    · obtain ⟨k1, k2, k3, k4, k5⟩ := s.kept b u e
      have z : b ≠ a := fun z => by
        subst z
        exact hF u e
      exact ⟨by rw [upd_ne z]; exact k1, k2, k3, k4, k5⟩
  exact s'.keep ⟨upd_same, k.s, k.bare, k.nopin, hn⟩
theorem Sat.noKept (s : Sat Γ S ρ σ H) {a : Addr} (h : H a = none) : ∀ u, (a, u) ∉ Γ.F := fun u hu => by
  have k := (s.kept a u hu).ob
  rw [h] at k
  cases k
end
end DL
end

section
set_option Elab.async false
set_option linter.all false
set_option maxRecDepth 100000
set_option autoImplicit false
namespace DL
open PySem PySem.W L2

/-- the evaluator's tables; where the exception classes stand -/
structure Par where
  c : Env0
  cl : Nat → Addr
section
variable {p : Par} {W : WX} {Γ : Gam} {S S' : Hp} {ρ ρ' : Rho} {σ : St} {H : Hp} {α β : Type}
def Aft (p : Par) (W : WX) (Γ : Gam) (S : Hp) (σ : St) {α : Type} (r : R α) (k : α → Hp → Rho → Hp → Prop) : Prop := match r with
  | .bad => False
  | .exc x ρ' => ∀ S' H', Ex S S' → Sat Γ S' ρ' σ H' → W (.ref (p.cl x)) none σ H'
  | .ok a ρ' => ∀ S' H', Ex S S' → Sat Γ S' ρ' σ H' → k a S' ρ' H'
theorem Aft.weak {r : R α} {k : α → Hp → Rho → Hp → Prop} (e : Ex S S') (h : Aft p W Γ S σ r k) : Aft p W Γ S' σ r k := by
  cases r with
  | bad => exact h
  | exc x ρ' => exact fun S1 H1 e1 s1 => h S1 H1 (e.trans e1) s1
  | ok a ρ' => exact fun S1 H1 e1 s1 => h S1 H1 (e.trans e1) s1
theorem Aft.mono {r : R α} {k k' : α → Hp → Rho → Hp → Prop} (h : Aft p W Γ S σ r k) (f : ∀ a S' ρ' H', Ex S S' → Sat Γ S' ρ' σ H' → k a S' ρ' H' → k' a S' ρ' H') : Aft p W Γ S σ r k' := by
  cases r with
  | bad => exact h
  | exc x ρ' => exact h
  | ok a ρ' => exact fun S1 H1 e1 s1 => f _ _ _ _ e1 s1 (h S1 H1 e1 s1)
theorem Aft.bind {r : R α} {f : α → Rho → R β} {k : β → Hp → Rho → Hp → Prop} (h : Aft p W Γ S σ (r.bind f) k) : Aft p W Γ S σ r (fun a S1 ρ1 _ => Aft p W Γ S1 σ (f a ρ1) k) := by
  cases r with
  | bad => exact h
  | exc x ρ' => exact h
  | ok a ρ' => exact fun S1 H1 e1 s1 => Aft.weak e1 h
theorem Aft.opt {o : Option α} {f : α → Rho → R β} {k : β → Hp → Rho → Hp → Prop} (h : Aft p W Γ S σ ((R.opt o ρ).bind f) k) : ∃ a, o = some a ∧ Aft p W Γ S σ (f a ρ) k := by
  cases o with
  | none => exact h.elim
  | some a => exact ⟨a, rfl, h⟩
theorem Aft.dref {o : Out} {f : D → Rho → R β} {k : β → Hp → Rho → Hp → Prop} (h : Aft p W Γ S σ ((derefR o ρ).bind f) k) : ∃ d, deref o ρ = some d ∧ Aft p W Γ S σ (f d ρ) k := Aft.opt h
theorem Aft.now {a : α} {k : α → Hp → Rho → Hp → Prop} (h : Aft p W Γ S σ (.ok a ρ) k) (s : Sat Γ S ρ σ H) : k a S ρ H := h S H (Ex.refl S) s
theorem Aft.at_ {a : α} {k : α → Hp → Rho → Hp → Prop} (h : Aft p W Γ S σ (.ok a ρ) k) (e : Ex S S') (s : Sat Γ S' ρ σ H) : k a S' ρ H := h S' H e s

def Live (ρ : Rho) (i : Nat) : Prop := ∃ d, deref (.slot i) ρ = some d
/-- what is wanted of a value that came -/
def Pout (Γ : Gam) (S : Hp) (ρ : Rho) (σ : St) (H : Hp) (o : Out) (Q : VK) : Prop := match o with
  | .fz d => ∀ v, Rp S v d → Q v H
  | .slot i => ∀ v, σ[i]? = some (some v) → Q v H
  | .fresh d => ∀ a ob, H a = some ob → Own S ob d → S a = none → Γ.H0 a = none → Bare ρ σ a → (∀ i q, (i, a, q) ∉ Γ.L) → (∀ u, (a, u) ∉ Γ.F) → Q (.ref a) H
def OutV (S : Hp) (σ : St) (o : Out) (v : V) : Prop := match o with
  | .fz d => Rp S v d
  | .slot i => σ[i]? = some (some v)
  | .fresh _ => False
theorem OutV.mono {o : Out} {v : V} (e : Ex S S') (h : OutV S σ o v) : OutV S' σ o v := by
  cases o with
  | fz d => exact Rp.mono e h
  | slot i => exact h
  | fresh d => exact h
theorem Pout.settle {o : Out} {Q : VK} (s : Sat Γ S ρ σ H) (h : ∀ S', Ex S S' → Sat Γ S' ρ σ H → ∀ v, OutV S' σ (settle o) v → Q v H) : Pout Γ S ρ σ H o Q := by
  cases o with
  | fz d => exact fun v hv => h S (Ex.refl S) s v hv
  | slot i => exact fun v hv => h S (Ex.refl S) s v hv
  | fresh d =>
    intro a ob h1 h2 h3 h4 h5 h6 h7
    have ex : Ex S (upd S a ob) := Ex.new h3
    exact h (upd S a ob) ex (s.freeze h1 h3 h4 h5 h6 h7) (.ref a) ((h2.mono ex).rp (.inl upd_same))
theorem top_of {o : Out} {v : V} {d : D} (s : Sat Γ S ρ σ H) (hv : OutV S σ o v) (hd : deref o ρ = some d) : Top S H v d := by
  cases o with
  | fz e =>
    cases hd
    exact .rp hv
  | fresh e => exact hv.elim
  | slot i =>
    have hv : σ[i]? = some (some v) := hv
    unfold deref at hd
    cases e : ρ[i]? with
    | none =>
      simp only [e] at hd
      cases hd
    | some x =>
      cases x with
      | no =>
        simp only [e] at hd
        cases hd
      | fz y =>
        simp only [e] at hd
        cases hd
        obtain ⟨u, h1, h2⟩ := s.fz_at e
        rw [hv] at h1
        cases h1
        exact .rp h2
      | ow y =>
        simp only [e] at hd
        cases hd
        obtain ⟨a, o, h1, h2, h3, _⟩ := s.ow_at e
        rw [hv] at h1
        cases h1
        exact .ob (.inl h2) h3
      | io y =>
        simp only [e] at hd
        cases hd
        obtain ⟨a, o, h1, h2, h3, _⟩ := s.io_at e
        rw [hv] at h1
        cases h1
        exact .ob (.inl h2) h3
      | lent y =>
        simp only [e] at hd
        cases hd
        obtain ⟨a, o, h1, h2, h3, _⟩ := s.lent_at e
        rw [hv] at h1
        cases h1
        rcases h3 with h3 | ⟨ob, u, q, h3⟩
        · exact .ob (.inl h2) h3
        · subst q
          exact .ob (.inr ⟨ob, h2⟩) h3
theorem settle_not_fresh (o : Out) (d : D) : settle o ≠ .fresh d := by
  cases o <;> intro z <;> cases z
theorem esc_of {Δ : Gam} {o : Out} {v : V} {f : D → Rho → R β} {k : β → Hp → Rho → Hp → Prop} (s : Sat Γ S ρ σ H) (hv : OutV S σ o v) (h : Aft p W Δ S σ ((esc o ρ).bind f) k) :
    ∃ d S' ρ', Ex S S' ∧ Sat Γ S' ρ' σ H ∧ Rp S' v d ∧ esc o ρ = .ok d ρ' ∧ Aft p W Δ S' σ (f d ρ') k := by
  cases o with
  | fz e => exact ⟨e, S, ρ, Ex.refl S, s, hv, rfl, h⟩
  | fresh e => exact hv.elim
  | slot i =>
    have hv : σ[i]? = some (some v) := hv
    unfold esc at h ⊢
    cases e : ρ[i]? with
    | none =>
      simp only [e] at h
      exact h.elim
    | some x =>
      cases x with
      | no =>
        simp only [e] at h
        exact h.elim
      | fz y =>
        simp only [e] at h ⊢
        obtain ⟨u, h1, h2⟩ := s.fz_at e
        rw [hv] at h1
        cases h1
        exact ⟨y, S, ρ, Ex.refl S, s, h2, rfl, h⟩
      | ow y =>
        simp only [e] at h ⊢
        obtain ⟨a, S1, h1, ex, rp, s1⟩ := s.fzSlot e
        rw [hv] at h1
        cases h1
        exact ⟨y, S1, _, ex, s1, rp, rfl, Aft.weak ex h⟩
      | io y =>
        simp only [e] at h
        exact h.elim
      | lent y =>
        simp only [e] at h
        exact h.elim

/-! ### the readings -/
def tE (p : Par) (W : WX) (e : E) : TE := fun σ H Q => ∃ Γ S ρ, Sat Γ S ρ σ H ∧ Aft p W Γ S σ ((ev p.c.cal e).P ρ) (fun o S' ρ' H' => Pout Γ S' ρ' σ H' o Q)
def tT (p : Par) (W : WX) (e : E) : TT := fun σ H Q => ∃ Γ S ρ, Sat Γ S ρ σ H ∧ Aft p W Γ S σ ((ev p.c.cal e).T ρ) (fun k _ _ H' => Q k H')
inductive OutVs (S : Hp) (σ : St) : List Out → List V → Prop
  | nil : OutVs S σ [] []
  | cons {o : Out} {v : V} {os : List Out} {vs : List V} : OutV S σ o v → OutVs S σ os vs → OutVs S σ (o :: os) (v :: vs)
theorem OutVs.mono {os : List Out} {vs : List V} (e : Ex S S') (h : OutVs S σ os vs) : OutVs S' σ os vs := by
  induction h with
  | nil => exact .nil
  | cons a _ ih => exact .cons (a.mono e) ih
def tAr (p : Par) (W : WX) (es : List E) : TA := fun σ H Q => ∃ Γ S ρ, Sat Γ S ρ σ H ∧ Aft p W Γ S σ (evA p.c.cal es ρ) (fun os S' _ H' => ∀ vs, OutVs S' σ os vs → Q vs H')
def tXs (p : Par) (W : WX) (es : List E) : TA := fun σ H Q => ∃ Γ S ρ, Sat Γ S ρ σ H ∧ Aft p W Γ S σ (evX p.c.cal es ρ) (fun ds S' _ H' => ∀ vs, RpL S' vs ds → Q vs H')
/-- evaluate, then go on -/
theorem go_E {e : E} {Q : VK} {f : Out → Rho → R β} {k : β → Hp → Rho → Hp → Prop} (s : Sat Γ S ρ σ H) (h : Aft p W Γ S σ (((ev p.c.cal e).P ρ).bind f) k)
    (cont : ∀ o S1 ρ1 H1 v, Ex S S1 → Sat Γ S1 ρ1 σ H1 → OutV S1 σ (settle o) v → Aft p W Γ S1 σ (f o ρ1) k → Q v H1) : tE p W e σ H Q :=
  ⟨Γ, S, ρ, s, (Aft.bind h).mono fun o S1 ρ1 H1 ex s1 ha => Pout.settle s1 fun S2 e2 s2 v hv => cont o S2 ρ1 H1 v (ex.trans e2) s2 hv (ha.weak e2)⟩
theorem go_T {e : E} {Q : Bool → Hp → Prop} {f : Bool → Rho → R β} {k : β → Hp → Rho → Hp → Prop} (s : Sat Γ S ρ σ H) (h : Aft p W Γ S σ (((ev p.c.cal e).T ρ).bind f) k)
    (cont : ∀ b S1 ρ1 H1, Ex S S1 → Sat Γ S1 ρ1 σ H1 → Aft p W Γ S1 σ (f b ρ1) k → Q b H1) : tT p W e σ H Q :=
  ⟨Γ, S, ρ, s, (Aft.bind h).mono fun b S1 ρ1 H1 ex s1 ha => cont b S1 ρ1 H1 ex s1 ha⟩
theorem go_A {es : List E} {Q : List V → Hp → Prop} {f : List Out → Rho → R β} {k : β → Hp → Rho → Hp → Prop} (s : Sat Γ S ρ σ H) (h : Aft p W Γ S σ ((evA p.c.cal es ρ).bind f) k)
    (cont : ∀ os S1 ρ1 H1 vs, Ex S S1 → Sat Γ S1 ρ1 σ H1 → OutVs S1 σ os vs → Aft p W Γ S1 σ (f os ρ1) k → Q vs H1) : tAr p W es σ H Q :=
  ⟨Γ, S, ρ, s, (Aft.bind h).mono fun os S1 ρ1 H1 ex s1 ha => fun vs hv => cont os S1 ρ1 H1 vs ex s1 hv ha⟩
theorem go_X {es : List E} {Q : List V → Hp → Prop} {f : List D → Rho → R β} {k : β → Hp → Rho → Hp → Prop} (s : Sat Γ S ρ σ H) (h : Aft p W Γ S σ ((evX p.c.cal es ρ).bind f) k)
    (cont : ∀ ds S1 ρ1 H1 vs, Ex S S1 → Sat Γ S1 ρ1 σ H1 → RpL S1 vs ds → Aft p W Γ S1 σ (f ds ρ1) k → Q vs H1) : tXs p W es σ H Q :=
  ⟨Γ, S, ρ, s, (Aft.bind h).mono fun ds S1 ρ1 H1 ex s1 ha => fun vs hv => cont ds S1 ρ1 H1 vs ex s1 hv ha⟩

/-! ### what comes out -/
def POk (Γ : Gam) (σ : St) (Q : VK) : Out → Hp → Rho → Hp → Prop := fun o S' ρ' H' => Pout Γ S' ρ' σ H' o Q
theorem Bare.of_none (s : Sat Γ S ρ σ H) {a : Addr} (h : H a = none) : Bare ρ σ a := fun j d hj z => by
  obtain ⟨b, o, h1, h2, _⟩ := s.ow_at hj
  rw [h1] at z
  cases z
  rw [h] at h2
  cases h2
theorem Sat.noPin (s : Sat Γ S ρ σ H) {a : Addr} (h : H a = none) : ∀ i q, (i, a, q) ∉ Γ.L := fun i q hi => by
  obtain ⟨o, ho⟩ := s.pin_at hi
  rw [h] at ho
  cases ho
theorem Sat.h0none (s : Sat Γ S ρ σ H) {a : Addr} (h : H a = none) : Γ.H0 a = none := by
  cases z : Γ.H0 a with
  | none => rfl
  | some u =>
    have := s.fr a u z fun i => s.noPin h i _
    rw [h] at this
    cases this
theorem fin_fz {d : D} {Q : VK} {v : V} (s : Sat Γ S ρ σ H) (h : Aft p W Γ S σ (.ok (.fz d) ρ) (POk Γ σ Q)) (hv : Rp S v d) : Q v H := h.now s v hv
theorem fin_tup {ds : List D} {vs : List V} {Q : VK} {a : Addr} (s : Sat Γ S ρ σ H) (h : Aft p W Γ S σ (.ok (.fz (.tuple ds)) ρ) (POk Γ σ Q)) (hv : RpL S vs ds) (ha : H a = none) : Q (.ref a) (upd H a (.tup vs)) := by
  have hs : S a = none := s.sub.none ha
  exact h.at_ (Ex.new hs) (s.newFz ha) (.ref a) (.tup upd_same (hv.mono (Ex.new hs)))
theorem fin_new {d : D} {ob : HO} {Q : VK} {a : Addr} (s : Sat Γ S ρ σ H) (h : Aft p W Γ S σ (.ok (.fresh d) ρ) (POk Γ σ Q)) (hv : Own S ob d) (ha : H a = none) : Q (.ref a) (upd H a ob) := by
  refine h.at_ (Ex.refl S) (s.newOb ha) a ob upd_same hv (s.sub.none ha) (s.h0none ha) ?_ (s.noPin ha) (s.noKept ha)
  exact Bare.of_none s ha
/-- a result: a value that stands, or a new object -/
def ResK (S H : Hp) (fr : Bool) (d : D) (Q : VK) : Prop := (fr = false ∧ ((∀ v, Rp S v d → Q v H) ∧ ∀ ds, d = .tuple ds → ∀ a vs, H a = none → RpL S vs ds → Q (.ref a) (upd H a (.tup vs)))) ∨
  (fr = true ∧ ∀ a ob, H a = none → Own S ob d → Q (.ref a) (upd H a ob))
theorem fin_res {r : Option (Bool × D)} {Q : VK} (s : Sat Γ S ρ σ H) (h : Aft p W Γ S σ (R.optO r ρ) (POk Γ σ Q)) : ∃ fr d, r = some (fr, d) ∧ ResK S H fr d Q := by
  cases r with
  | none => exact h.elim
  | some x =>
    obtain ⟨fr, d⟩ := x
    refine ⟨fr, d, rfl, ?_⟩
    cases fr with
    | false =>
      refine .inl ⟨rfl, fun v hv => fin_fz s h hv, fun ds e a vs ha hv => ?_⟩
      subst e
      exact fin_tup s h hv ha
    | true => exact .inr ⟨rfl, fun a ob ha ho => fin_new s h ho ha⟩
def rD2 (g : D → D → Option (Bool × D)) : R2 := fun x y H Q => ∃ S d e fr res, Ex S H ∧ Top S H x d ∧ Top S H y e ∧ g d e = some (fr, res) ∧ ResK S H fr res Q
def rC2 (g : D → D → Option Bool) : R2 := fun x y H Q => ∃ S d e k, Ex S H ∧ Top S H x d ∧ Top S H y e ∧ g d e = some k ∧ Q (.bl k) H
inductive TopL (S H : Hp) : List V → List D → Prop
  | nil : TopL S H [] []
  | cons {v : V} {d : D} {vs : List V} {ds : List D} : Top S H v d → TopL S H vs ds → TopL S H (v :: vs) (d :: ds)
def rDL (g : List D → Option (Bool × D)) : List V → Hp → VK → Prop := fun vs H Q => ∃ S ds fr res, Ex S H ∧ TopL S H vs ds ∧ g ds = some (fr, res) ∧ ResK S H fr res Q
theorem topL_of (s : Sat Γ S ρ σ H) : ∀ {os : List Out} {vs : List V} {ds : List D}, OutVs S σ os vs → derefs os ρ = some ds → TopL S H vs ds
  | [], _, _, .nil, e => by
    cases e
    exact .nil
  | o :: os, _, ds, .cons h r, e => by
    unfold derefs at e
    cases q : deref o ρ with
    | none =>
      rw [q] at e
      cases e
    | some d =>
      rw [q] at e
      cases q2 : derefs os ρ with
      | none =>
        rw [q2] at e
        cases e
      | some es =>
        rw [q2] at e
        cases e
        exact .cons (top_of s h q) (topL_of s r q2)
end
/-! ### weaker readings -/
section
variable {X : Cx} {e : Expr} {es : List Expr}
theorem PE.of {t t' : TE} (h : PE X e t) (i : ∀ σ H Q, t' σ H Q → t σ H Q) : PE X e t' := ⟨fun pins s σ H Q I q => h.run pins s σ H Q I (i σ H Q q)⟩
theorem PT.of {t t' : TT} (h : PT X e t) (i : ∀ σ H Q, t' σ H Q → t σ H Q) : PT X e t' := ⟨fun pins s σ H Q I q => h.run pins s σ H Q I (i σ H Q q)⟩
theorem PW.of {t t' : TT} (h : PW X e t) (i : ∀ σ H Q, t' σ H Q → t σ H Q) : PW X e t' := ⟨fun wh pins s σ H Q I q => h.run wh pins s σ H Q I (i σ H Q q)⟩
theorem PA.of {t t' : TA} (h : PA X es t) (i : ∀ σ H Q, t' σ H Q → t σ H Q) : PA X es t' := ⟨fun pos pins s σ H Q I q => h.run pos pins s σ H Q I (i σ H Q q)⟩
theorem PS.of {st : Stmt} {t t' : TS} (h : PS X st t) (i : ∀ D σ H, t' D σ H → t D σ H) : PS X st t' := ⟨fun pins s σ H D I q => h.run pins s σ H D I (i D σ H q)⟩
theorem PSs.of {st : List Stmt} {t t' : TS} (h : PSs X st t) (i : ∀ D σ H, t' D σ H → t D σ H) : PSs X st t' := ⟨fun pins s σ H D I q => h.run pins s σ H D I (i D σ H q)⟩
end
end DL
end

section
set_option Elab.async false
set_option linter.all false
set_option maxRecDepth 100000
set_option autoImplicit false
namespace DL
open PySem PySem.W L2
section
variable {X : Cx} {S H : Hp}
theorem lim_le {n : Nat} (h : n ≤ LIM) : n ≤ sizeLine := Nat.le_trans h (by rw [sizeLine_eq]; decide)
theorem lim_lt {n : Nat} (h : n < LIM) : n < sizeLine := Nat.lt_of_lt_of_le h (by rw [sizeLine_eq]; decide)
theorem binD_add {d e : D} {r : Bool × D} (h : binD .add d e = some r) : (∃ i j, d = .int i ∧ e = .int j ∧ r = (false, .int (i + j))) ∨ (∃ xs ys, d = .list xs ∧ e = .list ys ∧ xs.length + ys.length ≤ LIM ∧ r = (true, .list (xs ++ ys))) ∨
    ∃ xs ys, d = .tuple xs ∧ e = .tuple ys ∧ xs.length + ys.length ≤ LIM ∧ r = (false, .tuple (xs ++ ys)) := by
  cases d <;> cases e <;> simp only [binD, reduceCtorEq] at h
  · cases h
    exact .inl ⟨_, _, rfl, rfl, rfl⟩
  · split at h
    · cases h
      exact .inr (.inl ⟨_, _, rfl, rfl, by assumption, rfl⟩)
    · cases h
  · split at h
    · cases h
      exact .inr (.inr ⟨_, _, rfl, rfl, by assumption, rfl⟩)
    · cases h
theorem ResK.val {d : D} {Q : VK} {v : V} (h : ResK S H false d Q) (hv : Rp S v d) : Q v H := by
  rcases h with ⟨_, h, _⟩ | ⟨z, _⟩
  · exact h v hv
  · cases z
theorem ResK.tup {ds : List D} {Q : VK} {a : Addr} {vs : List V} (h : ResK S H false (.tuple ds) Q) (ha : H a = none) (hv : RpL S vs ds) : Q (.ref a) (upd H a (.tup vs)) := by
  rcases h with ⟨_, _, h⟩ | ⟨z, _⟩
  · exact h ds rfl a vs ha hv
  · cases z
theorem ResK.new {d : D} {Q : VK} {a : Addr} {ob : HO} (h : ResK S H true d Q) (ha : H a = none) (hv : Own S ob d) : Q (.ref a) (upd H a ob) := by
  rcases h with ⟨z, _⟩ | ⟨_, h⟩
  · cases z
  · exact h a ob ha hv
theorem cat_rd {pins : List (Addr × Obj)} {s : Shared} {σ : St} {l b : Addr} {xs zs : List V} {Q : VK} (I : Inv X pins σ H s) (hH : Rd H l (.lst xs)) (hB : Rd H b (.lst zs)) (hz : xs.length + zs.length ≤ sizeLine)
    (q : ∀ p, H p = none → Q (.ref p) (upd H p (.lst (xs ++ zs)))) : wpAny (model X.prog X.w) X.A (binaryOp .Add (.ref l) (.ref b)) (EP X pins σ Q) X.xe s := by
  obtain ⟨z, its, n, r, e⟩ := hH.ok I.hok
  obtain ⟨z2, its2, n2, r2, e2⟩ := hB.ok I.hok
  have hl := r.length
  have hl2 := r2.length
  refine PySem.P.add_list e e2 ?_ (by rw [List.size_toArray, List.size_toArray]; omega)
  have ea : its.toArray ++ its2.toArray = (its ++ its2).toArray := by simp
  rw [ea]
  exact ⟨.ref _, _, I.lnew (t' := s.toks) (r.append r2) (by rw [List.length_append]; omega), rfl, q _ I.fresh⟩
theorem or_add : OpR X (binaryOp .Add) (rD2 (binD .add)) := by
  intro pins s σ H x y v u Q I rx ry h
  obtain ⟨S, d, e, fr, res, ex, tx, ty, hg, k⟩ := h
  rcases binD_add hg with ⟨i, j, rfl, rfl, hr⟩ | ⟨xs, ys, rfl, rfl, hz, hr⟩ | ⟨xs, ys, rfl, rfl, hz, hr⟩
  · cases hr
    exact op_add pins s σ H x y v u Q I rx ry ⟨i, j, tx.int, ty.int, k.val (.int _)⟩
  · cases hr
    obtain ⟨a, vs, rfl, h1, h2⟩ := tx.list ex
    obtain ⟨b, us, rfl, h3, h4⟩ := ty.list ex
    cases rx
    cases ry
    exact cat_rd I h1 h3 (lim_le (by rw [h2.length, h4.length]; exact hz)) fun p hp => k.new hp (.lst (h2.append h4))
  · cases hr
    obtain ⟨a, vs, rfl, h1, h2⟩ := tx.tuple
    obtain ⟨b, us, rfl, h3, h4⟩ := ty.tuple
    refine op_catA pins s σ H _ _ v u Q I rx ry ⟨a, b, vs, us, rfl, rfl, .inl (.inl (ex _ _ h1)), .inl (.inl (ex _ _ h3)), lim_le (by rw [h2.length, h4.length]; exact hz), fun e => ?_, fun _ e => ?_, fun _ _ p hp => k.tup hp (h2.append h4)⟩
    · subst e
      cases h2
      exact k.val (.tup h3 h4)
    · subst e
      cases h4
      rw [List.append_nil] at k
      exact k.val (.tup h1 h2)
theorem or_sub : OpR X (binaryOp .Sub) (rD2 (binD .sub)) := by
  intro pins s σ H x y v u Q I rx ry h
  obtain ⟨S, d, e, fr, res, ex, tx, ty, hg, k⟩ := h
  cases d <;> cases e <;> simp only [binD, reduceCtorEq] at hg
  cases hg
  exact op_sub pins s σ H x y v u Q I rx ry ⟨_, _, tx.int, ty.int, k.val (.int _)⟩
theorem or_fdiv : OpR X (binaryOp .FloorDiv) (rD2 (binD .fdiv)) := by
  intro pins s σ H x y v u Q I rx ry h
  obtain ⟨S, d, e, fr, res, ex, tx, ty, hg, k⟩ := h
  cases d <;> cases e <;> simp only [binD, reduceCtorEq] at hg
  split at hg
  · cases hg
    exact op_fdivN pins s σ H x y v u Q I rx ry ⟨_, _, tx.int, ty.int, by assumption, k.val (.int _)⟩
  · cases hg
theorem or_mod : OpR X (binaryOp .Mod) (rD2 (binD .mod)) := by
  intro pins s σ H x y v u Q I rx ry h
  obtain ⟨S, d, e, fr, res, ex, tx, ty, hg, k⟩ := h
  cases d <;> cases e <;> simp only [binD, reduceCtorEq] at hg
  split at hg
  · cases hg
    exact op_modN pins s σ H x y v u Q I rx ry ⟨_, _, tx.int, ty.int, by assumption, k.val (.int _)⟩
  · cases hg
theorem or_pow : OpR X (binaryOp .Pow) (rD2 (binD .pow)) := by
  intro pins s σ H x y v u Q I rx ry h
  obtain ⟨S, d, e, fr, res, ex, tx, ty, hg, k⟩ := h
  cases d <;> cases e <;> simp only [binD, reduceCtorEq] at hg
  split at hg
  · cases hg
    exact op_pow pins s σ H x y v u Q I rx ry ⟨_, _, tx.int, ty.int, by assumption, k.val (.int _)⟩
  · cases hg
theorem rep_rd {pins : List (Addr × Obj)} {s : Shared} {σ : St} {l : Addr} {xs : List V} {k : Int} {t : Tok} {Q : VK} (I : Inv X pins σ H s) (hH : Rd H l (.lst xs)) (h1 : -(2 ^ 63) ≤ k) (h2 : k < 2 ^ 63) (hz : xs.length * k.toNat ≤ sizeLine)
    (q : ∀ p, H p = none → Q (.ref p) (upd H p (.lst (List.replicate k.toNat xs).flatten))) : wpAny (model X.prog X.w) X.A (binaryOp .Mult (.ref l) (.int k t)) (EP X pins σ Q) X.xe s := by
  obtain ⟨z, its, n, r, e⟩ := hH.ok I.hok
  have hl := r.length
  have hlen : its.toArray.size * k.toNat ≤ sizeLine := by rw [List.size_toArray, ← hl]; exact hz
  have hcap : ¬ its.toArray.size * k.toNat > (2 ^ 63 - 1) / 8 := by
    have : (sizeLine : Nat) ≤ (2 ^ 63 - 1) / 8 := by decide
    omega
  have hfit : ¬ (!Builtin.List.listFitsIndex k) = true := by
    rw [fitsIndex_both h1 h2]
    exact Bool.false_ne_true
  have hlong : ¬ Builtin.List.listTooLong (its.toArray.size * k.toNat) = true := by
    rw [notLongL hlen]
    exact Bool.false_ne_true
  have hnew : List.foldl (fun x1 x2 => x1 ++ x2) #[] (List.replicate (if its.toArray.isEmpty = true then 0 else k.toNat) its.toArray) = (List.replicate k.toNat its).flatten.toArray := by
    have f0 : ∀ m : Nat, List.foldl (fun x1 x2 => x1 ++ x2) #[] (List.replicate m its.toArray) = (List.replicate m its).flatten.toArray := fun m => by
      have := foldl_rep its m []
      rw [List.nil_append] at this
      exact this
    rw [f0]
    cases its with
    | nil => simp
    | cons a r' => rw [if_neg (by simp)]
  refine wpAny_binaryOp_repeat_ref (T := "list") (U := "int") (by decide) ⟨_, e, rfl⟩ (fun s' => typeIs_int s' k t) noFill_list_mul F.fills_int_mul F.slot_int_rmul repeat_list F.slot_int_index.lookup
    (call_meets F.slot_int_rmul (typeIs_int s k t) F.entry_int_rmul (F.args_int_rmul_2 _ _) (int___rmul___int_list k t l its.toArray n)
      ⟨e, rfl, ⟨_, e, rfl⟩, call_meets F.slot_list_mul ⟨_, e, rfl⟩ F.entry_list_mul (F.args_list_mul_2 _ _) (AutoListH.list___mul___list_int_3 l its.toArray n k t hfit hcap hlong) ⟨e, ?_⟩⟩)
  rw [hnew]
  exact ⟨.ref _, _, I.lnew (t' := s.toks) (r.rep k.toNat) (by rw [PyProof.Rows.lm_len_rep_flat, Nat.mul_comm]; exact hz), rfl, q _ I.fresh⟩
theorem or_mul : OpR X (binaryOp .Mult) (rD2 (binD .mul)) := by
  intro pins s σ H x y v u Q I rx ry h
  obtain ⟨S, d, e, fr, res, ex, tx, ty, hg, k⟩ := h
  cases d <;> cases e <;> simp only [binD, reduceCtorEq] at hg
  · split at hg
    · rename_i i j hs
      cases hg
      refine op_mul pins s σ H x y v u Q I rx ry ⟨_, _, tx.int, ty.int, ?_, k.val (.int _)⟩
      rw [Bool.or_eq_true] at hs
      unfold small64 at hs
      rw [Bool.and_eq_true, Bool.and_eq_true, decide_eq_true_eq, decide_eq_true_eq, decide_eq_true_eq, decide_eq_true_eq] at hs
      exact hs
    · cases hg
  · split at hg
    · rename_i xs n hs
      cases hg
      obtain ⟨a, vs, rfl, h1, h2⟩ := tx.list ex
      have e := ty.int
      subst e
      cases rx
      obtain ⟨t, rfl⟩ := ry
      exact rep_rd I h1 hs.1 hs.2.1 (lim_le (by rw [h2.length]; exact hs.2.2)) fun p hp => k.new hp (.lst (h2.rep _))
    · cases hg

/-! comparisons -/
theorem okD_iff {d : D} : okD d = true ↔ d.plain = true ∧ d.depth ≤ DEP := by
  unfold okD
  rw [Bool.and_eq_true, decide_eq_true_eq]
theorem Top.reads {pins : List (Addr × Obj)} {s : Shared} {σ : St} {x : V} {v : Value} {d : D} (I : Inv X pins σ H s) (ex : Ex S H) (t : Top S H x d) (r : RelV x v) (p : d.plain = true) : ∃ as, Reads s.heap v d as :=
  Dp.reads I d x v ((t.full ex).dp p) r
theorem ltD_some {d e : D} {k : Bool} (h : ltD d e = some k) : alike d e = true ∧ d ≠ .none ∧ okD d = true ∧ okD e = true ∧ k = dataLt d e := by
  unfold ltD at h
  split at h
  · rename_i hc
    simp only [Bool.and_eq_true] at hc
    cases h
    exact ⟨hc.1.1.1, fun z => by subst z; exact absurd hc.1.1.2 (by decide), hc.1.2, hc.2, rfl⟩
  · cases h
theorem gtD_some {d e : D} {k : Bool} (h : gtD d e = some k) : alike d e = true ∧ d ≠ .none ∧ okD d = true ∧ okD e = true ∧ k = dataLt e d := by
  unfold gtD at h
  split at h
  · rename_i hc
    simp only [Bool.and_eq_true] at hc
    cases h
    exact ⟨hc.1.1.1, fun z => by subst z; exact absurd hc.1.1.2 (by decide), hc.1.2, hc.2, rfl⟩
  · cases h
theorem room2 {A : Around} (hu : A.units + 64 < cLine) {d e : D} (h : okD d = true) : A.units + min d.depth e.depth < cLine := by
  have h2 := (okD_iff.mp h).2
  have : DEP = 40 := rfl
  omega
theorem oc_lt (hu : X.A.units + 64 < cLine) : OpR X (compareOp .Lt) (rC2 (cmpD .lt)) := by
  intro pins s σ H x y v u Q I rx ry h
  obtain ⟨S, d, e, k, ex, tx, ty, hg, q⟩ := h
  obtain ⟨h1, h2, h3, h4, rfl⟩ := ltD_some hg
  obtain ⟨as, ra⟩ := tx.reads I ex rx (okD_iff.mp h3).1
  obtain ⟨bs, rb⟩ := ty.reads I ex ry (okD_iff.mp h4).1
  exact lt_data ra rb h1 h2 (room2 hu h3) ⟨.bl _, H, I, rfl, q⟩
theorem oc_gt (hu : X.A.units + 64 < cLine) : OpR X (compareOp .Gt) (rC2 (cmpD .gt)) := by
  intro pins s σ H x y v u Q I rx ry h
  obtain ⟨S, d, e, k, ex, tx, ty, hg, q⟩ := h
  obtain ⟨h1, h2, h3, h4, rfl⟩ := gtD_some hg
  obtain ⟨as, ra⟩ := tx.reads I ex rx (okD_iff.mp h3).1
  obtain ⟨bs, rb⟩ := ty.reads I ex ry (okD_iff.mp h4).1
  exact gt_data ra rb h1 h2 (room2 hu h3) ⟨.bl _, H, I, rfl, q⟩
theorem oc_le (hu : X.A.units + 64 < cLine) : OpR X (compareOp .LtE) (rC2 (cmpD .le)) := by
  intro pins s σ H x y v u Q I rx ry h
  obtain ⟨S, d, e, k, ex, tx, ty, hg, q⟩ := h
  have hg : (gtD d e).map (!·) = some k := hg
  cases hk : gtD d e with
  | none =>
    rw [hk] at hg
    cases hg
  | some k' =>
    rw [hk] at hg
    cases hg
    obtain ⟨h1, h2, h3, h4, rfl⟩ := gtD_some hk
    obtain ⟨as, ra⟩ := tx.reads I ex rx (okD_iff.mp h3).1
    obtain ⟨bs, rb⟩ := ty.reads I ex ry (okD_iff.mp h4).1
    exact le_data ra rb h1 h2 (room2 hu h3) ⟨.bl _, H, I, rfl, q⟩
theorem oc_ge (hu : X.A.units + 64 < cLine) : OpR X (compareOp .GtE) (rC2 (cmpD .ge)) := by
  intro pins s σ H x y v u Q I rx ry h
  obtain ⟨S, d, e, k, ex, tx, ty, hg, q⟩ := h
  have hg : (ltD d e).map (!·) = some k := hg
  cases hk : ltD d e with
  | none =>
    rw [hk] at hg
    cases hg
  | some k' =>
    rw [hk] at hg
    cases hg
    obtain ⟨h1, h2, h3, h4, rfl⟩ := ltD_some hk
    obtain ⟨as, ra⟩ := tx.reads I ex rx (okD_iff.mp h3).1
    obtain ⟨bs, rb⟩ := ty.reads I ex ry (okD_iff.mp h4).1
    exact ge_data ra rb h1 h2 (room2 hu h3) ⟨.bl _, H, I, rfl, q⟩
theorem oc_eq (hu : X.A.units + 64 < cLine) : OpR X (compareOp .Eq) (rC2 (cmpD .eq)) := by
  intro pins s σ H x y v u Q I rx ry h
  obtain ⟨S, d, e, k, ex, tx, ty, hg, q⟩ := h
  have hg : (if okD d && okD e then some (PyData.eqv d e) else none) = some k := hg
  split at hg
  · rename_i hc
    rw [Bool.and_eq_true] at hc
    cases hg
    obtain ⟨as, ra⟩ := tx.reads I ex rx (okD_iff.mp hc.1).1
    obtain ⟨bs, rb⟩ := ty.reads I ex ry (okD_iff.mp hc.2).1
    exact SeqAt.eq_plain ra rb (okD_iff.mp hc.1).1 (okD_iff.mp hc.2).1 (room2 hu hc.1) ⟨.bl _, H, I, rfl, q⟩
  · cases hg
theorem oc_ne (hu : X.A.units + 64 < cLine) : OpR X (compareOp .NotEq) (rC2 (cmpD .ne)) := by
  intro pins s σ H x y v u Q I rx ry h
  obtain ⟨S, d, e, k, ex, tx, ty, hg, q⟩ := h
  have hg : (if okD d && okD e then some (!PyData.eqv d e) else none) = some k := hg
  split at hg
  · rename_i hc
    rw [Bool.and_eq_true] at hc
    cases hg
    obtain ⟨as, ra⟩ := tx.reads I ex rx (okD_iff.mp hc.1).1
    obtain ⟨bs, rb⟩ := ty.reads I ex ry (okD_iff.mp hc.2).1
    exact SeqAt.ne_plain ra rb (okD_iff.mp hc.1).1 (okD_iff.mp hc.2).1 (room2 hu hc.1) ⟨.bl _, H, I, rfl, q⟩
  · cases hg
theorem inD_some {d e : D} {k : Bool} (h : inD d e = some k) : ∃ xs, (e = .list xs ∨ e = .tuple xs) ∧ okD d = true ∧ okD e = true ∧ k = xs.any fun y => PyData.eqv y d := by
  unfold inD at h
  cases e <;> simp only [reduceCtorEq] at h
  · split at h
    · rename_i hc
      rw [Bool.and_eq_true] at hc
      cases h
      exact ⟨_, .inl rfl, hc.1, hc.2, rfl⟩
    · cases h
  · split at h
    · rename_i hc
      rw [Bool.and_eq_true] at hc
      cases h
      exact ⟨_, .inr rfl, hc.1, hc.2, rfl⟩
    · cases h
theorem plain_in {xs : List D} {e : D} (he : e = .list xs ∨ e = .tuple xs) (h : e.plain = true) : PyData.plainAll xs = true := by
  rcases he with rfl | rfl <;> (unfold PyData.plain at h; exact h)
theorem depth_in {xs : List D} {e : D} (he : e = .list xs ∨ e = .tuple xs) : e.depth = PyData.depthAll xs + 1 := by
  rcases he with rfl | rfl <;> simp only [PyData.depth]
theorem oc_in (hu : X.A.units + 64 < cLine) : OpR X (compareOp .In) (rC2 (cmpD .isin)) := by
  intro pins s σ H x y v u Q I rx ry h
  obtain ⟨S, d, e, k, ex, tx, ty, hg, q⟩ := h
  obtain ⟨xs, he, hd, hx, rfl⟩ := inD_some hg
  obtain ⟨as, ra⟩ := tx.reads I ex rx (okD_iff.mp hd).1
  obtain ⟨bs, rb⟩ := ty.reads I ex ry (okD_iff.mp hx).1
  have h1 := plain_in he (okD_iff.mp hx).1
  have h2 := depth_in he
  have h3 := (okD_iff.mp hd).2
  have h4 : DEP = 40 := rfl
  rcases he with rfl | rfl
  · exact SeqAt.in_list_data rb ra h1 (okD_iff.mp hd).1 (by omega) ⟨.bl _, H, I, rfl, q⟩
  · exact SeqAt.in_tuple_data rb ra h1 (okD_iff.mp hd).1 (by omega) ⟨.bl _, H, I, rfl, q⟩
theorem oc_notin (hu : X.A.units + 64 < cLine) : OpR X (compareOp .NotIn) (rC2 (cmpD .notin)) := by
  intro pins s σ H x y v u Q I rx ry h
  obtain ⟨S, d, e, k, ex, tx, ty, hg, q⟩ := h
  have hg : (inD d e).map (!·) = some k := hg
  cases hk : inD d e with
  | none =>
    rw [hk] at hg
    cases hg
  | some k' =>
    rw [hk] at hg
    cases hg
    obtain ⟨xs, he, hd, hx, rfl⟩ := inD_some hk
    obtain ⟨as, ra⟩ := tx.reads I ex rx (okD_iff.mp hd).1
    obtain ⟨bs, rb⟩ := ty.reads I ex ry (okD_iff.mp hx).1
    have h1 := plain_in he (okD_iff.mp hx).1
    have h2 := depth_in he
    have h3 := (okD_iff.mp hd).2
    have h4 : DEP = 40 := rfl
    rcases he with rfl | rfl
    · exact SeqAt.notIn_list_data rb ra h1 (okD_iff.mp hd).1 (by omega) ⟨.bl _, H, I, rfl, q⟩
    · exact SeqAt.notIn_tuple_data rb ra h1 (okD_iff.mp hd).1 (by omega) ⟨.bl _, H, I, rfl, q⟩
theorem notNone_V (ex : Ex S H) {x : V} {d : D} (t : Top S H x d) : decide (x = .non) = !notNone d := by
  have r := t.full ex
  cases r <;> rfl
theorem isNone_of {e : D} (h : notNone e = false) : e = .none := by
  cases e <;> first | rfl | cases h
theorem oc_isN : OpR X (compareOp .Is) (rC2 (cmpD .isN)) := by
  intro pins s σ H x y v u Q I rx ry h
  obtain ⟨S, d, e, k, ex, tx, ty, hg, q⟩ := h
  have hg : (if notNone e then none else some (!notNone d)) = some k := hg
  split at hg
  · cases hg
  · rename_i hc
    cases hg
    have he := isNone_of (by simpa using hc)
    subst he
    refine op_isN pins s σ H x y v u Q I rx ry ⟨ty.none, ?_⟩
    rw [notNone_V ex tx]
    exact q
theorem oc_notN : OpR X (compareOp .IsNot) (rC2 (cmpD .notN)) := by
  intro pins s σ H x y v u Q I rx ry h
  obtain ⟨S, d, e, k, ex, tx, ty, hg, q⟩ := h
  have hg : (if notNone e then none else some (notNone d)) = some k := hg
  split at hg
  · cases hg
  · rename_i hc
    cases hg
    have he := isNone_of (by simpa using hc)
    subst he
    refine op_notN pins s σ H x y v u Q I rx ry ⟨ty.none, ?_⟩
    rw [notNone_V ex tx, Bool.not_not]
    exact q
end
end DL
end

section
set_option Elab.async false
set_option linter.all false
set_option maxRecDepth 100000
set_option autoImplicit false
namespace DL
open PySem PySem.W L2
section
variable {X : Cx} {S H : Hp}
theorem TopL.one {vs : List V} {d : D} (h : TopL S H vs [d]) : ∃ v, vs = [v] ∧ Top S H v d := by
  cases h with
  | cons a b =>
    cases b
    exact ⟨_, rfl, a⟩
theorem TopL.two {vs : List V} {d e : D} (h : TopL S H vs [d, e]) : ∃ v u, vs = [v, u] ∧ Top S H v d ∧ Top S H u e := by
  cases h with
  | cons a b =>
    cases b with
    | cons b c =>
      cases c
      exact ⟨_, _, rfl, a, b⟩
theorem seqD_some {d : D} {xs : List D} (h : seqD d = some xs) : d = .list xs ∨ d = .tuple xs := by
  cases d <;> simp only [seqD, reduceCtorEq] at h
  · cases h; exact .inl rfl
  · cases h; exact .inr rfl
/-- a list or a tuple that is read -/
theorem Top.seq (ex : Ex S H) {v : V} {d : D} {ds : List D} (h : Top S H v d) (e : seqD d = some ds) : ∃ a xs, v = .ref a ∧ RpL S xs ds ∧ ((d = .list ds ∧ Rd H a (.lst xs)) ∨ (d = .tuple ds ∧ H a = some (.tup xs) ∧ S a = some (.tup xs))) := by
  rcases seqD_some e with rfl | rfl
  · obtain ⟨a, xs, e1, e2, e3⟩ := h.list ex
    exact ⟨a, xs, e1, e3, .inl ⟨rfl, e2⟩⟩
  · obtain ⟨a, xs, e1, e2, e3⟩ := h.tuple
    exact ⟨a, xs, e1, e3, .inr ⟨rfl, ex _ _ e2, e2⟩⟩
theorem RpK.length : ∀ {ps : List (Key × V)} {kvs : List (D × D)}, RpK S ps kvs → ps.length = kvs.length
  | _, _, .nil => rfl
  | _, _, .cons _ r => by rw [List.length_cons, List.length_cons, r.length]
theorem RpT.length : ∀ {ps : List (List Key × V)} {kvs : List (D × D)}, RpT S ps kvs → ps.length = kvs.length
  | _, _, .nil => rfl
  | _, _, .cons _ r => by rw [List.length_cons, List.length_cons, r.length]
theorem keyD_ne (k : Key) : keyD k ≠ .none := by
  cases k <;> intro z <;> cases z
theorem dlen_K {ps : List (Key × V)} {kvs : List (D × D)} (h : RpK S ps kvs) : dlen kvs = ps.length := by
  cases h with
  | nil => rfl
  | @cons k v ps d kvs h r =>
    have e : dlen ((keyD k, d) :: kvs) = ((keyD k, d) :: kvs).length := by
      cases k <;> rfl
    rw [e, List.length_cons, List.length_cons, r.length]
/-- a dict that is read -/
theorem Top.dict (ex : Ex S H) {v : V} {kvs : List (D × D)} (h : Top S H v (.dict kvs)) : ∃ a, v = .ref a ∧ ((∃ ps, Rd H a (.dK ps) ∧ RpK S ps kvs) ∨ ∃ ps r, kvs = (.none, .none) :: r ∧ Rd H a (.dT ps) ∧ RpT S ps r) := by
  cases h with
  | rp h =>
    cases h with
    | dK h r => exact ⟨_, rfl, .inl ⟨_, ex.rd h, r⟩⟩
    | dT h r => exact ⟨_, rfl, .inr ⟨_, _, rfl, ex.rd h, r⟩⟩
  | ob h o =>
    cases o with
    | dK r => exact ⟨_, rfl, .inl ⟨_, h, r⟩⟩
    | dT r => exact ⟨_, rfl, .inr ⟨_, _, rfl, h, r⟩⟩
theorem one1_some {f : D → Option (Bool × D)} {ds : List D} {r : Bool × D} (h : one1 f ds = some r) : ∃ d, ds = [d] ∧ f d = some r := by
  unfold one1 at h
  split at h
  · exact ⟨_, rfl, h⟩
  · cases h
theorem two2_some {f : D → D → Option (Bool × D)} {ds : List D} {r : Bool × D} (h : two2 f ds = some r) : ∃ d e, ds = [d, e] ∧ f d e = some r := by
  unfold two2 at h
  split at h
  · exact ⟨_, _, rfl, h⟩
  · cases h
theorem map_seq {d : D} {g : List D → Bool × D} {r : Bool × D} (h : (seqD d).map g = some r) : ∃ xs, seqD d = some xs ∧ r = g xs := by
  cases q : seqD d with
  | none =>
    rw [q] at h
    cases h
  | some xs =>
    rw [q] at h
    cases h
    exact ⟨xs, rfl, rfl⟩
theorem bind_seq {d : D} {g : List D → Option (Bool × D)} {r : Bool × D} (h : (seqD d).bind g = some r) : ∃ xs, seqD d = some xs ∧ g xs = some r := by
  cases q : seqD d with
  | none =>
    rw [q] at h
    cases h
  | some xs =>
    rw [q] at h
    exact ⟨xs, rfl, h⟩
theorem cb_len : CallR X (.builtin "len") (rDL (biD .len)) := by
  intro pins s σ H vs us Q I rv h
  obtain ⟨S, ds, fr, res, ex, tl, hg, k⟩ := h
  obtain ⟨d, rfl, hg⟩ := one1_some hg
  obtain ⟨v, rfl, t⟩ := tl.one
  have hg : lenD d = some (fr, res) := hg
  unfold lenD at hg
  split at hg
  · cases hg
    obtain ⟨a, ys, rfl, h1, h2⟩ := t.list ex
    refine call_len_seq pins s σ H _ us Q I rv ⟨a, ys, rfl, .inl (.inl h1), ?_⟩
    rw [h2.length]
    exact k.val (.int _)
  · cases hg
    obtain ⟨a, ys, rfl, h1, h2⟩ := t.tuple
    refine call_len_seq pins s σ H _ us Q I rv ⟨a, ys, rfl, .inr (.inl (.inl (ex _ _ h1))), ?_⟩
    rw [h2.length]
    exact k.val (.int _)
  · cases hg
    obtain ⟨a, rfl, ⟨ps, h1, h2⟩ | ⟨ps, r, rfl, h1, h2⟩⟩ := t.dict ex
    · obtain ⟨u, rfl, ru⟩ := vals1 rv
      cases ru
      rw [dlen_K h2] at k
      exact d_len I h1 fun t s' I' => ⟨.int ps.length, H, I', ⟨t, rfl⟩, k.val (.int _)⟩
    · obtain ⟨u, rfl, ru⟩ := vals1 rv
      cases ru
      obtain ⟨z, hd, ys, rel, dd⟩ := dt_rd I.hok h1
      have hl : ps.length = ys.length := Paired.length rel
      refine call_len_dictH hd dd (by rw [← hl]; rw [sizeLine_eq] at z; omega) ?_
      rw [← hl]
      refine ⟨.int ((ps.length : Nat) : Int), H, I.tok _, ⟨_, rfl⟩, ?_⟩
      have e : dlen ((.none, .none) :: r) = ps.length := h2.length.symm
      rw [e] at k
      exact k.val (.int _)
  · cases hg
theorem cb_tup : CallR X (.type "tuple") (rDL (biD .tup)) := by
  intro pins s σ H vs us Q I rv h
  obtain ⟨S, ds, fr, res, ex, tl, hg, k⟩ := h
  obtain ⟨d, rfl, hg⟩ := one1_some hg
  obtain ⟨v, rfl, t⟩ := tl.one
  obtain ⟨xs, hs, hr⟩ := map_seq hg
  cases hr
  obtain ⟨a, ys, rfl, h1, ⟨_, h2⟩ | ⟨_, h2, h3⟩⟩ := t.seq ex hs
  · exact call_tuple_of pins s σ H _ us Q I rv ⟨a, ys, rfl, .inl ⟨.inl h2, fun p hp => k.tup hp h1⟩⟩
  · exact call_tuple_of pins s σ H _ us Q I rv ⟨a, ys, rfl, .inr ⟨.inl (.inl h2), k.val (.tup h3 h1)⟩⟩
theorem cb_lst : CallR X (.type "list") (rDL (biD .lst)) := by
  intro pins s σ H vs us Q I rv h
  obtain ⟨S, ds, fr, res, ex, tl, hg, k⟩ := h
  obtain ⟨d, rfl, hg⟩ := one1_some hg
  obtain ⟨v, rfl, t⟩ := tl.one
  obtain ⟨xs, hs, hr⟩ := map_seq hg
  cases hr
  obtain ⟨a, ys, rfl, h1, ⟨_, h2⟩ | ⟨_, h2, h3⟩⟩ := t.seq ex hs
  · exact call_list_of pins s σ H _ us Q I rv ⟨a, ys, rfl, .inl (.inl h2), fun p hp => k.new hp (.lst h1)⟩
  · exact call_list_of pins s σ H _ us Q I rv ⟨a, ys, rfl, .inr (.inl (.inl h2)), fun p hp => k.new hp (.lst h1)⟩
theorem cb_abs : CallR X (.builtin "abs") (rDL (biD .abs)) := by
  intro pins s σ H vs us Q I rv h
  obtain ⟨S, ds, fr, res, ex, tl, hg, k⟩ := h
  obtain ⟨d, rfl, hg⟩ := one1_some hg
  obtain ⟨v, rfl, t⟩ := tl.one
  have hg : absD d = some (fr, res) := hg
  unfold absD at hg
  split at hg
  · cases hg
    have e := t.int
    subst e
    exact call_abs pins s σ H _ us Q I rv ⟨_, rfl, k.val (.int _)⟩
  · cases hg
theorem int2_some {g : Int → Int → Int} {d e : D} {r : Bool × D} (h : int2 g d e = some r) : ∃ i j, d = .int i ∧ e = .int j ∧ r = (false, .int (g i j)) := by
  unfold int2 at h
  split at h
  · cases h
    exact ⟨_, _, rfl, rfl, rfl⟩
  · cases h
theorem cb_max2 (hc : X.calm = true) : CallR X (.builtin "max") (rDL (biD .max2)) := by
  intro pins s σ H vs us Q I rv h
  obtain ⟨S, ds, fr, res, ex, tl, hg, k⟩ := h
  obtain ⟨d, e, rfl, hg⟩ := two2_some hg
  obtain ⟨i, j, rfl, rfl, hr⟩ := int2_some hg
  cases hr
  obtain ⟨v, u, rfl, t1, t2⟩ := tl.two
  have e1 := t1.int
  have e2 := t2.int
  subst e1
  subst e2
  exact call_max2 hc pins s σ H _ us Q I rv ⟨i, j, rfl, k.val (.int _)⟩
theorem cb_min2 (hc : X.calm = true) : CallR X (.builtin "min") (rDL (biD .min2)) := by
  intro pins s σ H vs us Q I rv h
  obtain ⟨S, ds, fr, res, ex, tl, hg, k⟩ := h
  obtain ⟨d, e, rfl, hg⟩ := two2_some hg
  obtain ⟨i, j, rfl, rfl, hr⟩ := int2_some hg
  cases hr
  obtain ⟨v, u, rfl, t1, t2⟩ := tl.two
  have e1 := t1.int
  have e2 := t2.int
  subst e1
  subst e2
  exact call_min2 hc pins s σ H _ us Q I rv ⟨i, j, rfl, k.val (.int _)⟩
end
/-! sums, greatest and least ones -/
section
open PyProof.Rows
variable {prog : Program} {w : World} {A : Around} {E : Value → Shared → Prop} {s : Shared}
theorem sum_tup {l : Addr} {its : List Value} {ns : List Int} {Q : Value → Shared → Prop} (hh : A.handled = none) (hl : s.heap.IsTuple l its.toArray) (hi : Vals (ns.map V.int) its)
    (h : ∀ h' tk t', (∀ b o, s.heap.get? b = some o → h'.get? b = some o) → Q (.int ns.sum t') { s with heap := h', toks := tk }) : wpAny (model prog w) A (call (.builtin "sum") [.ref l]) Q E s := by
  refine call_sum_walkAnyS (W.iter_tupleW (A := A.in1) hh hl fun s₂ e Wk st hfp hw hk => ?_)
  refine ⟨_, _, _, _, _, _, _, fun i => ns.getD i 0, rfl, Wk, st, hfp, fun i v hv => ?_, fun s' t' m => ?_⟩
  · have hv : its.toArray[i]? = some v := hv
    have hv2 : its[i]? = some v := by simpa using hv
    have hlen := hi.length
    have hilt : i < its.length := (List.getElem?_eq_some_iff.mp hv2).1
    have hin : i < ns.length := by
      rw [List.length_map] at hlen
      omega
    obtain ⟨u, hu, ru⟩ := hi.get (i := i) (x := .int ns[i]) (by rw [List.getElem?_map, List.getElem?_eq_getElem hin]; rfl)
    rw [hv2] at hu
    cases hu
    obtain ⟨t, rfl⟩ := ru
    refine ⟨t, ?_⟩
    show Value.int ns[i] t = Value.int (ns.getD i 0) t
    rw [List.getD_eq_getElem?_getD, List.getElem?_eq_getElem hin]
    rfl
  · obtain ⟨h', tk, rfl, hk'⟩ := PySem.W.moved_old e rfl m
    have hlen := hi.length
    rw [List.length_map] at hlen
    have e1 : preSum (fun i => ns.getD i 0) its.toArray.size = ns.sum := by
      rw [preSum_getD, List.take_of_length_le (by rw [List.size_toArray]; omega)]
    rw [e1]
    exact h h' tk t' hk'
end
section
variable {X : Cx} {S H : Hp}
theorem intsD_map : ∀ {ds : List D} {ns : List Int}, intsD ds = some ns → ds = ns.map PyData.int
  | [], ns, h => by
    cases h
    rfl
  | d :: ds, ns, h => by
    cases d <;> simp only [intsD, reduceCtorEq] at h
    cases q : intsD ds with
    | none =>
      rw [q] at h
      cases h
    | some ms =>
      rw [q] at h
      cases h
      rw [intsD_map q]
      rfl
theorem biD_sum {ds : List D} {r : Bool × D} (h : biD .sum ds = some r) : ∃ d xs ns, ds = [d] ∧ seqD d = some xs ∧ intsD xs = some ns ∧ r = (false, .int ns.sum) := by
  obtain ⟨d, rfl, h⟩ := one1_some h
  obtain ⟨xs, hs, h⟩ := bind_seq h
  cases q2 : intsD xs with
  | none =>
    rw [q2] at h
    cases h
  | some ns =>
    rw [q2] at h
    cases h
    exact ⟨d, xs, ns, rfl, hs, q2, rfl⟩
theorem cb_sum (hc : X.calm = true) : CallR X (.builtin "sum") (rDL (biD .sum)) := by
  intro pins s σ H vs us Q I rv h
  obtain ⟨S, ds, fr, res, ex, tl, hg, k⟩ := h
  obtain ⟨d, xs, ns, rfl, h1, h2, hr⟩ := biD_sum hg
  cases hr
  obtain ⟨v, rfl, t⟩ := tl.one
  obtain ⟨a, ys, rfl, h3, h4⟩ := t.seq ex h1
  have hy := h3.ints h2
  subst hy
  rcases h4 with ⟨_, h4⟩ | ⟨_, h4, _⟩
  · exact cr_sum hc pins s σ H _ us Q I rv ⟨a, ns, rfl, .inl h4, k.val (.int _)⟩
  · obtain ⟨u, rfl, ru⟩ := vals1 rv
    cases ru
    obtain ⟨its, r, p, hz⟩ := I.tuple (.inl (.inl h4))
    exact sum_tup (I.ok.hd hc) p r fun h' tk t' hk => ⟨.int ns.sum, H, I.kept hk, ⟨t', rfl⟩, k.val (.int _)⟩
theorem alikeAllB_iff {xs : List D} (h : alikeAllB xs = true) : ∀ x ∈ xs, ∀ y ∈ xs, alike x y = true := by
  unfold alikeAllB at h
  rw [List.all_eq_true] at h
  intro x hx y hy
  have := h x hx
  rw [List.all_eq_true] at this
  exact this y hy
theorem alike_none {x : D} (h : alike .none x = true) : x = .none := by
  cases x <;> simp [alike] at h ⊢
theorem alike_none' {x : D} (h : alike x .none = true) : x = .none := by
  cases x <;> simp [alike] at h ⊢
theorem alikeAll_of {x : D} {xs : List D} (h : alikeAllB (x :: xs) = true) (hn : notNone x = true) : AlikeAll (x :: xs) := by
  have ha := alikeAllB_iff h
  refine ⟨ha, fun y hy z => ?_⟩
  subst z
  have := alike_none' (ha x List.mem_cons_self _ hy)
  subst this
  cases hn
theorem pick_one {ys : List D} {g : D → List D → D} {r : Bool × D} (h : pickD g ys = some r) : ∃ x xs, ys = x :: xs ∧ AlikeAll (x :: xs) ∧ okD (.list (x :: xs)) = true ∧ r = (false, g x xs) := by
  unfold pickD at h
  split at h
  · split at h
    · rename_i hc
      rw [Bool.and_eq_true, Bool.and_eq_true] at hc
      cases h
      exact ⟨_, _, rfl, alikeAll_of hc.1.1 hc.2, hc.1.2, rfl⟩
    · cases h
  · cases h
theorem biD_pick {g : D → List D → D} {ds : List D} {r : Bool × D} (h : one1 (fun d => (seqD d).bind (pickD g)) ds = some r) : ∃ d x xs, ds = [d] ∧ seqD d = some (x :: xs) ∧ AlikeAll (x :: xs) ∧ okD (.list (x :: xs)) = true ∧ r = (false, g x xs) := by
  obtain ⟨d, rfl, h⟩ := one1_some h
  obtain ⟨ys, hs, h⟩ := bind_seq h
  obtain ⟨x, xs, rfl, h1, h2, h3⟩ := pick_one h
  exact ⟨d, x, xs, rfl, hs, h1, h2, h3⟩
theorem biD_max {ds : List D} {r : Bool × D} (h : biD .max ds = some r) : ∃ d x xs, ds = [d] ∧ seqD d = some (x :: xs) ∧ AlikeAll (x :: xs) ∧ okD (.list (x :: xs)) = true ∧ r = (false, maxD x xs) := biD_pick h
theorem biD_min {ds : List D} {r : Bool × D} (h : biD .min ds = some r) : ∃ d x xs, ds = [d] ∧ seqD d = some (x :: xs) ∧ AlikeAll (x :: xs) ∧ okD (.list (x :: xs)) = true ∧ r = (false, minD x xs) := biD_pick h
/-- items that read -/
theorem RpL.reads {pins : List (Addr × Obj)} {s : Shared} {σ : St} {xs : List V} {us : List Value} {ds : List D} (I : Inv X pins σ H s) (ex : Ex S H) (r : RpL S xs ds) (rv : Vals xs us) (p : PyData.plainAll ds = true) : ∃ as, ReadsAll s.heap us ds as :=
  Dp.readsAll I ds xs us ((r.mono ex).dp p) rv
theorem readsAll_get {h : Heap} : ∀ {us : List Value} {ds : List D} {as : List Addr} {i : Nat} {u : Value}, ReadsAll h us ds as → us[i]? = some u → ∃ d bs, ds[i]? = some d ∧ Reads h u d bs
  | _, _, _, _, _, .nil, e => by simp at e
  | _, _, _, 0, _, .cons a _, e => by
    simp at e
    subst e
    exact ⟨_, _, rfl, a⟩
  | _, _, _, i + 1, u, .cons _ b, e => by
    obtain ⟨d, bs, h1, h2⟩ := readsAll_get (i := i) (u := u) b (by simpa using e)
    exact ⟨d, bs, by simpa using h1, h2⟩
theorem Vals.back : ∀ {xs : List V} {us : List Value} {i : Nat} {u : Value}, Vals xs us → us[i]? = some u → ∃ x, xs[i]? = some x ∧ RelV x u
  | _, _, _, _, .nil, e => by simp at e
  | _, _, 0, _, .cons r _, e => by
    simp at e
    subst e
    exact ⟨_, rfl, r⟩
  | _, _, i + 1, u, .cons _ t, e => by
    obtain ⟨x, h1, h2⟩ := Vals.back (i := i) (u := u) t (by simpa using e)
    exact ⟨x, by simpa using h1, h2⟩
/-- the item that the library picks stands for the one that reads so -/
theorem picked {pins : List (Addr × Obj)} {s : Shared} {σ : St} {xs : List V} {us : List Value} {ds : List D} {as : List Addr} {Q : VK} {m : D} (I : Inv X pins σ H s) (r : RpL S xs ds) (rv : Vals xs us) (ra : ReadsAll s.heap us ds as) (q : ∀ v, Rp S v m → Q v H)
    {i : Nat} {u : Value} {h' : Heap} {tk : Nat} {bs : List Addr} (hu : us.toArray[i]? = some u) (rd : Reads h' u m bs) (hk : ∀ b o, s.heap.get? b = some o → h'.get? b = some o) : EP X pins σ Q u { s with heap := h', toks := tk } := by
  have hu : us[i]? = some u := by simpa using hu
  obtain ⟨x, hx, rx⟩ := Vals.back rv hu
  obtain ⟨d, hd, rp⟩ := r.getV hx
  obtain ⟨e, cs, he, re⟩ := readsAll_get ra hu
  rw [hd] at he
  cases he
  have e := (PyProof.Rows.reads_det (fun b o hb _ => hk b o hb) re rd).1
  subst e
  exact ⟨x, H, I.kept hk, rx, q x rp⟩
theorem cb_max (hc : X.calm = true) (hu : X.A.units + 64 < cLine) : CallR X (.builtin "max") (rDL (biD .max)) := by
  intro pins s σ H vs us Q I rv h
  obtain ⟨S, ds, fr, res, ex, tl, hg, k⟩ := h
  obtain ⟨d, x, xs, rfl, h1, h2, h3, hr⟩ := biD_max hg
  cases hr
  obtain ⟨v, rfl, t⟩ := tl.one
  obtain ⟨a, ys, rfl, h4, h5⟩ := t.seq ex h1
  obtain ⟨u, rfl, ru⟩ := vals1 rv
  cases ru
  have hp : PyData.plainAll (x :: xs) = true := plain_in (.inl rfl) (okD_iff.mp h3).1
  have hd : PyData.depthAll (x :: xs) + 1 ≤ DEP := by rw [← depth_in (e := .list (x :: xs)) (.inl rfl)]; exact (okD_iff.mp h3).2
  have hD : DEP = 40 := rfl
  rcases h5 with ⟨_, h5⟩ | ⟨_, h5, _⟩
  · obtain ⟨its, r, p, hz⟩ := I.list (.inl h5)
    obtain ⟨as, ra⟩ := RpL.reads I ex h4 r hp
    exact max_list_data (I.ok.hd hc) p.isList ra h2 (by omega) fun i v h' tk bs hv rd hk => picked I h4 r ra (fun v hv => k.val hv) hv rd hk
  · obtain ⟨its, r, p, hz⟩ := I.tuple (.inl (.inl h5))
    obtain ⟨as, ra⟩ := RpL.reads I ex h4 r hp
    exact max_tuple_data (I.ok.hd hc) p ra h2 (by omega) fun i v h' tk bs hv rd hk => picked I h4 r ra (fun v hv => k.val hv) hv rd hk
theorem cb_min (hc : X.calm = true) (hu : X.A.units + 64 < cLine) : CallR X (.builtin "min") (rDL (biD .min)) := by
  intro pins s σ H vs us Q I rv h
  obtain ⟨S, ds, fr, res, ex, tl, hg, k⟩ := h
  obtain ⟨d, x, xs, rfl, h1, h2, h3, hr⟩ := biD_min hg
  cases hr
  obtain ⟨v, rfl, t⟩ := tl.one
  obtain ⟨a, ys, rfl, h4, h5⟩ := t.seq ex h1
  obtain ⟨u, rfl, ru⟩ := vals1 rv
  cases ru
  have hp : PyData.plainAll (x :: xs) = true := plain_in (.inl rfl) (okD_iff.mp h3).1
  have hd : PyData.depthAll (x :: xs) + 1 ≤ DEP := by rw [← depth_in (e := .list (x :: xs)) (.inl rfl)]; exact (okD_iff.mp h3).2
  have hD : DEP = 40 := rfl
  rcases h5 with ⟨_, h5⟩ | ⟨_, h5, _⟩
  · obtain ⟨its, r, p, hz⟩ := I.list (.inl h5)
    obtain ⟨as, ra⟩ := RpL.reads I ex h4 r hp
    exact min_list_data (I.ok.hd hc) p.isList ra h2 (by omega) fun i v h' tk bs hv rd hk => picked I h4 r ra (fun v hv => k.val hv) hv rd hk
  · obtain ⟨its, r, p, hz⟩ := I.tuple (.inl (.inl h5))
    obtain ⟨as, ra⟩ := RpL.reads I ex h4 r hp
    exact min_tuple_data (I.ok.hd hc) p ra h2 (by omega) fun i v h' tk bs hv rd hk => picked I h4 r ra (fun v hv => k.val hv) hv rd hk
/-! sorted -/
theorem sortable_of {xs : List D} (h : sortableB xs = true) : Sortable xs := by
  unfold sortableB at h
  rw [Bool.or_eq_true, List.all_eq_true, List.all_eq_true] at h
  rcases h with h | h
  · refine .inl fun d hd => ?_
    have := h d hd
    split at this
    · exact ⟨_, _, rfl⟩
    · cases this
  · refine .inr fun d hd => ?_
    have := h d hd
    constructor
    · intro z
      subst z
      cases this
    · intro ys z
      subst z
      cases this
theorem sortD_some {xs : List D} {r : Bool × D} (h : sortD xs = some r) : AllAlike xs ∧ Sortable xs ∧ okD (.list xs) = true ∧ xs.length ≤ LIM ∧ r = (true, .list (xs.mergeSort (dataLe false id))) := by
  unfold sortD at h
  split at h
  · rename_i hc
    rw [Bool.and_eq_true, Bool.and_eq_true, Bool.and_eq_true, decide_eq_true_eq] at hc
    cases h
    exact ⟨alikeAllB_iff hc.1.1.1, sortable_of hc.1.1.2, hc.1.2, hc.2, rfl⟩
  · cases h
theorem biD_sorted {ds : List D} {r : Bool × D} (h : biD .sorted ds = some r) : ∃ xs, ds = [.list xs] ∧ AllAlike xs ∧ Sortable xs ∧ okD (.list xs) = true ∧ xs.length ≤ LIM ∧ r = (true, .list (xs.mergeSort (dataLe false id))) := by
  obtain ⟨d, rfl, h⟩ := one1_some h
  have h : (listD d).bind sortD = some r := h
  cases q : listD d with
  | none =>
    rw [q] at h
    cases h
  | some xs =>
    rw [q] at h
    have e : d = .list xs := by
      unfold listD at q
      split at q
      · cases q
        rfl
      · cases q
    subst e
    obtain ⟨h1, h2, h3, h4, h5⟩ := sortD_some h
    exact ⟨xs, rfl, h1, h2, h3, h4, h5⟩
theorem each_of {xs : List V} {us : List Value} {ds : List D} (rv : Vals xs us) (r : RpL S xs ds) : EachIs (fun u d => ∃ x, RelV x u ∧ Rp S x d) us ds := by
  induction rv generalizing ds with
  | nil =>
    cases r
    exact .nil
  | cons a b ih =>
    cases r with
    | cons p q => exact .cons ⟨_, a, p⟩ (ih q)
theorem of_each {us : List Value} {ds : List D} (h : EachIs (fun u d => ∃ x, RelV x u ∧ Rp S x d) us ds) : ∃ xs, Vals xs us ∧ RpL S xs ds := by
  induction h with
  | nil => exact ⟨[], .nil, .nil⟩
  | cons a b ih =>
    obtain ⟨x, h1, h2⟩ := a
    obtain ⟨xs, h3, h4⟩ := ih
    exact ⟨x :: xs, .cons h1 h3, .cons h2 h4⟩
theorem each_reads {h : Heap} : ∀ {us : List Value} {ds : List D} {as : List Addr}, ReadsAll h us ds as → EachIs (fun v b => ∃ as, Reads h v (id b) as) us ds
  | _, _, _, .nil => .nil
  | _, _, _, .cons a b => .cons ⟨_, a⟩ (each_reads b)
theorem depth_mem : ∀ {xs : List D} {d : D}, d ∈ xs → d.depth ≤ PyData.depthAll xs
  | [], _, h => nomatch h
  | x :: xs, d, h => by
    unfold PyData.depthAll
    rcases List.mem_cons.mp h with e | h
    · subst e
      exact Nat.le_max_left _ _
    · exact Nat.le_trans (depth_mem h) (Nat.le_max_right _ _)
theorem sorted_go {pins : List (Addr × Obj)} {s : Shared} {σ : St} {a : Addr} {ys : List V} {its : List Value} {xs : List D} {Q : VK} (hu : X.A.units + 64 < cLine) (I : Inv X pins σ H s) (ex : Ex S H) (h4 : RpL S ys xs) (hl : s.heap.IsList a its.toArray) (r : Vals ys its) (h1 : AllAlike xs) (h2 : Sortable xs) (h3 : okD (.list xs) = true) (hz : xs.length ≤ LIM)
    (k : ∀ p zs, H p = none → RpL S zs (xs.mergeSort (dataLe false id)) → Q (.ref p) (upd H p (.lst zs))) : wpAny (model X.prog X.w) X.A (call (.builtin "sorted") [.ref a]) (EP X pins σ Q) X.xe s := by
  have hp : PyData.plainAll xs = true := plain_in (.inl rfl) (okD_iff.mp h3).1
  have hd : PyData.depthAll xs + 1 ≤ DEP := by rw [← depth_in (e := .list xs) (.inl rfl)]; exact (okD_iff.mp h3).2
  have hD : DEP = 40 := rfl
  obtain ⟨as, ra⟩ := RpL.reads I ex h4 r hp
  refine sorted_data (enc := id) (R := fun u d => ∃ x, RelV x u ∧ Rp S x d) hl (each_of r h4) (each_reads ra) (by rw [List.map_id]; exact h1) (by rw [List.map_id]; exact h2) (lim_le hz) (fun d hb => ?_) fun out hlen he => ?_
  · have := depth_mem hb
    show X.A.units + 2 + d.depth < cLine
    omega
  · obtain ⟨zs, v1, v2⟩ := of_each he
    obtain ⟨ep, he'⟩ := PyProof.Rows.sortedAll_at s.heap its out.toArray
    have hf : H (s.heap.objs.size + 1) = none := I.hok.fresh (Nat.le_succ _)
    have hzs : zs.length ≤ sizeLine := by
      rw [v1.length, hlen]
      exact lim_le hz
    exact ⟨.ref _, upd H (s.heap.objs.size + 1) (.lst zs), I.laid (t' := s.toks) (fun _ _ => PyProof.Rows.sortedAll_old) (Nat.le_succ _) ⟨hzs, out, ep, v1, he'⟩, rfl, k _ zs hf v2⟩
theorem cb_sorted (hu : X.A.units + 64 < cLine) : CallR X (.builtin "sorted") (rDL (biD .sorted)) := by
  intro pins s σ H vs us Q I rv h
  obtain ⟨S, ds, fr, res, ex, tl, hg, k⟩ := h
  obtain ⟨xs, rfl, h2, h3, h4, h5, hr⟩ := biD_sorted hg
  cases hr
  obtain ⟨v, rfl, t⟩ := tl.one
  obtain ⟨b, ys, rfl, h7, h6⟩ := t.list ex
  obtain ⟨u, rfl, ru⟩ := vals1 rv
  cases ru
  obtain ⟨its, r, p, hz⟩ := I.list (.inl h7)
  exact sorted_go hu I ex h6 p.isList r h2 h3 h4 h5 fun p zs hp hz => k.new hp (.lst hz)
/-! isinstance -/
def tyName : Ty0 → String
  | .int => "int"
  | .bool => "bool"
  | .str => "str"
  | .tuple => "tuple"
  | .list => "list"
  | .dict => "dict"
theorem cb_isa : CallR X (.builtin "isinstance") (fun vs H Q => ∃ S x d t, Ex S H ∧ vs = [x, .ty (tyName t)] ∧ Top S H x d ∧ d.plain = true ∧ Q (.bl (isaD t d)) H) := by
  intro pins s σ H vs us Q I rv h
  obtain ⟨S, x, d, t, ex, rfl, tx, hp, q⟩ := h
  obtain ⟨u, w, rfl, ru, rw'⟩ := vals2 rv
  obtain ⟨as, rd⟩ := tx.reads I ex ru hp
  cases rw'
  cases t
  · exact isinstance_int_data rd fun tk _ => ⟨.bl _, H, I.tok tk, rfl, q⟩
  · exact isinstance_bool_data rd fun tk _ => ⟨.bl _, H, I.tok tk, rfl, q⟩
  · exact isinstance_str_data rd fun tk _ => ⟨.bl _, H, I.tok tk, rfl, q⟩
  · exact isinstance_tuple_data rd fun tk _ => ⟨.bl _, H, I.tok tk, rfl, q⟩
  · exact isinstance_list_data rd fun tk _ => ⟨.bl _, H, I.tok tk, rfl, q⟩
  · exact isinstance_dict_data rd fun tk _ => ⟨.bl _, H, I.tok tk, rfl, q⟩
end
end DL
end

section
set_option Elab.async false
set_option linter.all false
set_option maxRecDepth 100000
set_option autoImplicit false
namespace DL
open PySem PySem.W L2
theorem R.bind_assoc {α β γ : Type} (r : R α) (f : α → Rho → R β) (g : β → Rho → R γ) : (r.bind f).bind g = r.bind fun a ρ => (f a ρ).bind g := by
  cases r <;> rfl
section
variable {p : Par} {W : WX} {X : Cx} {a b e : Expr} {es : List Expr} {ia ib ie : E} {ies : List E} {pos : Pos}
/-! constants and names -/
theorem con_go {d : D} {v : V} (hv : ∀ S, Rp S v d) {σ : St} {H : Hp} {Q : VK} (h : tE p W (.con d) σ H Q) : tC v σ H Q := by
  obtain ⟨Γ, S, ρ, s, h⟩ := h
  rw [ev] at h
  exact fin_fz s h (hv S)
theorem dl_int {i : Int} {j} : PE X (.Constant (.int i) j pos) (tE p W (.con (.int i))) := PE.of pe_int fun _ _ _ => con_go fun _ => .int i
theorem dl_bool {i : Bool} {j} : PE X (.Constant (.bool i) j pos) (tE p W (.con (.bool i))) := PE.of pe_bl fun _ _ _ => con_go fun _ => .bl i
theorem dl_none {j} : PE X (.Constant .none j pos) (tE p W (.con .none)) := PE.of pe_non fun _ _ _ => con_go fun _ => .non
theorem dl_str {x : Str} {j} : PE X (.Constant (.str x) j pos) (tE p W (.con (.str x))) := PE.of pe_str fun _ _ _ => con_go fun _ => .str x
theorem dl_globI {x : Str} {i : Int} {t : Tok} (hm : X.mg x = some (.int i t)) (hg : Gl X x := by rfl) (hd : (x == ("__debug__" : Str)) = false := by decide) : PE X (.Name x pos) (tE p W (.con (.int i))) :=
  PE.of (pe_glob (v := .int i) hg hm ⟨t, rfl⟩ hd) fun _ _ _ => con_go fun _ => .int i
theorem dl_var (i : Nat) {x : Str} (hN : X.N[i]? = some x := by rfl) (hv : Vis X.env.scope x := by first | exact Or.inl rfl | exact Or.inr (Or.inl rfl) | exact Or.inr (Or.inr rfl)) (hd : (x == ("__debug__" : Str)) = false := by decide)
    (hcd : (x == ("__classdict__" : Str)) = false := by decide) : PE X (.Name x pos) (tE p W (.var i)) := by
  refine PE.of (pe_var hN hv hd hcd) fun σ H Q h => ?_
  obtain ⟨Γ, S, ρ, s, h⟩ := h
  rw [ev] at h
  have h : Aft p W Γ S σ (match ρ[i]? with
    | some (.fz d) => .ok (.fz d) ρ
    | some (.ow _) => .ok (.slot i) ρ
    | some (.io _) => .ok (.slot i) ρ
    | some (.lent _) => .ok (.slot i) ρ
    | _ => .bad) (POk Γ σ Q) := h
  cases q : ρ[i]? with
  | none =>
    rw [q] at h
    exact h.elim
  | some y =>
    rw [q] at h
    cases y with
    | no => exact h.elim
    | fz d =>
      obtain ⟨v, h1, h2⟩ := s.fz_at q
      exact ⟨v, h1, fin_fz s h h2⟩
    | ow d =>
      obtain ⟨c, o, h1, _⟩ := s.ow_at q
      exact ⟨_, h1, h.now s _ h1⟩
    | io d =>
      obtain ⟨c, o, h1, _⟩ := s.io_at q
      exact ⟨_, h1, h.now s _ h1⟩
    | lent d =>
      obtain ⟨c, o, h1, _⟩ := s.lent_at q
      exact ⟨_, h1, h.now s _ h1⟩

/-! operators -/
theorem dl_binR {op : Operator} {o : Bop} (ho : OpR X (binaryOp op) (rD2 (binD o))) (ha : PE X a (tE p W ia)) (hb : PE X b (tE p W ib)) : PE X (.BinOp a op b pos) (tE p W (.bin o ia ib)) := by
  refine PE.of (pe_op ho ha hb) fun σ H Q h => ?_
  obtain ⟨Γ, S, ρ, s, h⟩ := h
  rw [ev] at h
  refine go_E s h fun x S1 ρ1 H1 v e1 s1 hv h1 => go_E s1 h1 fun y S2 ρ2 H2 u e2 s2 hu h2 => ?_
  obtain ⟨d, hd, h3⟩ := h2.dref
  obtain ⟨e, he, h4⟩ := h3.dref
  obtain ⟨fr, res, hr, k⟩ := fin_res s2 h4
  exact ⟨S2, d, e, fr, res, s2.sub, top_of s2 (hv.mono e2) hd, top_of s2 hu he, hr, k⟩
theorem dl_add (ha : PE X a (tE p W ia)) (hb : PE X b (tE p W ib)) : PE X (.BinOp a .Add b pos) (tE p W (.bin .add ia ib)) := dl_binR or_add ha hb
theorem dl_sub (ha : PE X a (tE p W ia)) (hb : PE X b (tE p W ib)) : PE X (.BinOp a .Sub b pos) (tE p W (.bin .sub ia ib)) := dl_binR or_sub ha hb
theorem dl_mul (ha : PE X a (tE p W ia)) (hb : PE X b (tE p W ib)) : PE X (.BinOp a .Mult b pos) (tE p W (.bin .mul ia ib)) := dl_binR or_mul ha hb
theorem dl_fdiv (ha : PE X a (tE p W ia)) (hb : PE X b (tE p W ib)) : PE X (.BinOp a .FloorDiv b pos) (tE p W (.bin .fdiv ia ib)) := dl_binR or_fdiv ha hb
theorem dl_mod (ha : PE X a (tE p W ia)) (hb : PE X b (tE p W ib)) : PE X (.BinOp a .Mod b pos) (tE p W (.bin .mod ia ib)) := dl_binR or_mod ha hb
theorem dl_pow (ha : PE X a (tE p W ia)) (hb : PE X b (tE p W ib)) : PE X (.BinOp a .Pow b pos) (tE p W (.bin .pow ia ib)) := dl_binR or_pow ha hb
theorem intD_some {d : D} {i : Int} (h : intD d = some i) : d = .int i := by
  unfold intD at h
  split at h
  · cases h
    rfl
  · cases h
theorem dl_neg (ha : PE X a (tE p W ia)) : PE X (.UnaryOp .USub a pos) (tE p W (.neg ia)) := by
  refine PE.of (pe_un un_neg ha) fun σ H Q h => ?_
  obtain ⟨Γ, S, ρ, s, h⟩ := h
  rw [ev] at h
  refine go_E s h fun x S1 ρ1 H1 v e1 s1 hv h1 => ?_
  obtain ⟨d, hd, h2⟩ := h1.dref
  obtain ⟨i, hi, h3⟩ := h2.opt
  have e := intD_some hi
  subst e
  exact ⟨i, (top_of s1 hv hd).int, fin_fz s1 h3 (.int _)⟩
/-! comparisons -/
theorem cmp_go {β : Type} {o : Cop} {Γ : Gam} {S : Hp} {ρ : Rho} {σ : St} {H : Hp} {Q : VK} {F : Bool → Rho → R β} {K : β → Hp → Rho → Hp → Prop} (s : Sat Γ S ρ σ H)
    (h : Aft p W Γ S σ (((ev p.c.cal ia).P ρ).bind fun x ρ1 => ((ev p.c.cal ib).P ρ1).bind fun y ρ2 => (derefR (settle x) ρ2).bind fun d _ => (derefR (settle y) ρ2).bind fun e _ => (R.opt (cmpD o d e) ρ2).bind fun k _ => F k ρ2) K)
    (fin : ∀ k S ρ H, Sat Γ S ρ σ H → Aft p W Γ S σ (F k ρ) K → Q (.bl k) H) : tOp (rC2 (cmpD o)) (tE p W ia) (tE p W ib) σ H Q := by
  refine go_E s h fun x S1 ρ1 H1 v e1 s1 hv h1 => go_E s1 h1 fun y S2 ρ2 H2 u e2 s2 hu h2 => ?_
  obtain ⟨d, hd, h3⟩ := h2.dref
  obtain ⟨e, he, h4⟩ := h3.dref
  obtain ⟨k, hk, h5⟩ := h4.opt
  exact ⟨S2, d, e, k, s2.sub, top_of s2 (hv.mono e2) hd, top_of s2 hu he, hk, fin k _ _ _ s2 h5⟩
theorem fin_T {Γ : Gam} {S : Hp} {ρ : Rho} {σ : St} {H : Hp} {k : Bool} {Q : Bool → Hp → Prop} (s : Sat Γ S ρ σ H) (h : Aft p W Γ S σ ((R.ok (Out.fz (.bool k)) ρ).bind fun x ρ1 => (derefR (settle x) ρ1).bind fun d _ => R.opt (truD d) ρ1) (fun k _ _ H' => Q k H')) : Q k H := Aft.now (a := k) h s
theorem dl_cmpR {op : CmpOp} {o : Cop} (ho : OpR X (compareOp op) (rC2 (cmpD o))) (ha : PE X a (tE p W ia)) (hb : PE X b (tE p W ib)) (hm : behindInMarks op b = false) : PE X (.Compare a [op] [b] pos) (tE p W (.cmp o ia ib)) := by
  refine PE.of (pe_cmpR ho ha hb hm) fun σ H Q h => ?_
  obtain ⟨Γ, S, ρ, s, h⟩ := h
  rw [ev] at h
  exact cmp_go s h fun k S ρ H s h => fin_fz s h (.bl k)
theorem dlt_cmpR {op : CmpOp} {o : Cop} (ho : OpR X (compareOp op) (rC2 (cmpD o))) (ha : PE X a (tE p W ia)) (hb : PE X b (tE p W ib)) (hm : behindInMarks op b = false) : PT X (.Compare a [op] [b] pos) (tT p W (.cmp o ia ib)) := by
  refine PT.of (pt_cmpR ho ha hb hm) fun σ H Q h => ?_
  obtain ⟨Γ, S, ρ, s, h⟩ := h
  rw [ev] at h
  simp only [Ev.of, R.bind_assoc] at h
  exact cmp_go s h fun k S ρ H s h => ⟨k, rfl, fin_T s h⟩
theorem chain_go {β : Type} {o1 o2 : Cop} {ic : E} {Γ : Gam} {S : Hp} {ρ : Rho} {σ : St} {H : Hp} {Q : VK} {F : Bool → Rho → R β} {K : β → Hp → Rho → Hp → Prop} (s : Sat Γ S ρ σ H)
    (h : Aft p W Γ S σ (((ev p.c.cal ia).P ρ).bind fun x ρ1 => ((ev p.c.cal ib).P ρ1).bind fun y ρ2 => (derefR (settle x) ρ2).bind fun d1 _ => (derefR (settle y) ρ2).bind fun d2 _ => (R.opt (cmpD o1 d1 d2) ρ2).bind fun k _ =>
      if k then ((ev p.c.cal ic).P ρ2).bind fun z ρ3 => (derefR (settle y) ρ3).bind fun d2 _ => (derefR (settle z) ρ3).bind fun d3 _ => (R.opt (cmpD o2 d2 d3) ρ3).bind fun k _ => F k ρ3 else F false ρ2) K)
    (fin : ∀ k S ρ H, Sat Γ S ρ σ H → Aft p W Γ S σ (F k ρ) K → Q (.bl k) H) : tChain (rC2 (cmpD o1)) (rC2 (cmpD o2)) (tE p W ia) (tE p W ib) (tE p W ic) σ H Q := by
  refine go_E s h fun x S1 ρ1 H1 v e1 s1 hv h1 => go_E s1 h1 fun y S2 ρ2 H2 u e2 s2 hu h2 => ?_
  obtain ⟨d, hd, h3⟩ := h2.dref
  obtain ⟨e, he, h4⟩ := h3.dref
  obtain ⟨k, hk, h5⟩ := h4.opt
  refine ⟨S2, d, e, k, s2.sub, top_of s2 (hv.mono e2) hd, top_of s2 hu he, hk, k, rfl, ?_⟩
  cases k with
  | false =>
    rw [if_neg Bool.false_ne_true]
    exact fin false _ _ _ s2 h5
  | true =>
    rw [if_pos rfl] at h5 ⊢
    refine go_E s2 h5 fun z S3 ρ3 H3 w e3 s3 hw h6 => ?_
    obtain ⟨d', hd', h7⟩ := h6.dref
    obtain ⟨e', he', h8⟩ := h7.dref
    obtain ⟨k', hk', h9⟩ := h8.opt
    exact ⟨S3, d', e', k', s3.sub, top_of s3 (hu.mono e3) hd', top_of s3 hw he', hk', fin k' _ _ _ s3 h9⟩
theorem dl_chainR {op op' : CmpOp} {o1 o2 : Cop} {c : Expr} {ic : E} (ho : OpR X (compareOp op) (rC2 (cmpD o1))) (ho' : OpR X (compareOp op') (rC2 (cmpD o2))) (ha : PE X a (tE p W ia)) (hb : PE X b (tE p W ib)) (hc : PE X c (tE p W ic))
    (hm : lastMarks [op, op'] [b, c] = false := by with_unfolding_all rfl) : PE X (.Compare a [op, op'] [b, c] pos) (tE p W (.chain o1 o2 ia ib ic)) := by
  refine PE.of (pe_chain ho ho' ha hb hc hm) fun σ H Q h => ?_
  obtain ⟨Γ, S, ρ, s, h⟩ := h
  rw [ev] at h
  exact chain_go s h fun k S ρ H s h => fin_fz s h (.bl k)
theorem dlt_chainR {op op' : CmpOp} {o1 o2 : Cop} {c : Expr} {ic : E} (ho : OpR X (compareOp op) (rC2 (cmpD o1))) (ho' : OpR X (compareOp op') (rC2 (cmpD o2))) (ha : PE X a (tE p W ia)) (hb : PE X b (tE p W ib)) (hc : PE X c (tE p W ic))
    (hm : lastMarks [op, op'] [b, c] = false := by with_unfolding_all rfl) : PT X (.Compare a [op, op'] [b, c] pos) (tT p W (.chain o1 o2 ia ib ic)) := by
  refine PT.of (pt_chain ho ho' ha hb hc hm) fun σ H Q h => ?_
  obtain ⟨Γ, S, ρ, s, h⟩ := h
  rw [ev] at h
  have h : Aft p W Γ S σ (((ev p.c.cal ia).P ρ).bind fun x ρ1 => ((ev p.c.cal ib).P ρ1).bind fun y ρ2 => (derefR (settle x) ρ2).bind fun d1 _ => (derefR (settle y) ρ2).bind fun d2 _ => (R.opt (cmpD o1 d1 d2) ρ2).bind fun k _ =>
      if k then ((ev p.c.cal ic).P ρ2).bind fun z ρ3 => (derefR (settle y) ρ3).bind fun d2 _ => (derefR (settle z) ρ3).bind fun d3 _ => (R.opt (cmpD o2 d2 d3) ρ3).bind fun k _ => (R.ok (Out.fz (.bool k)) ρ3).bind fun x ρ1 => (derefR (settle x) ρ1).bind fun d _ => R.opt (truD d) ρ1
      else (R.ok (Out.fz (.bool false)) ρ2).bind fun x ρ1 => (derefR (settle x) ρ1).bind fun d _ => R.opt (truD d) ρ1) (fun k _ _ H' => Q k H') := by
    have e : ∀ (k : Bool) (r1 r2 : R Out) (g : Out → Rho → R Bool), (if k then r1 else r2).bind g = if k then r1.bind g else r2.bind g := fun k r1 r2 g => by cases k <;> rfl
    simp only [Ev.of, R.bind_assoc, e] at h
    exact h
  exact chain_go s h fun k S ρ H s h => ⟨k, rfl, fin_T s h⟩
/-! and, or, not, by values that are True or False -/
theorem dl_one {op} (h : PE X a (tE p W ia)) : PE X (.BoolOp op [a] pos) (tE p W ia) := pe_one h
/-- a settled value that is True or False -/
theorem bool_of {S H : Hp} {ρ : Rho} {σ : St} {Γ : Gam} {o : Out} {v : V} {k : Bool} (s : Sat Γ S ρ σ H) (hv : OutV S σ o v) (e : o = .fz (.bool k)) : v = .bl k := by
  subst e
  exact (Top.rp (H := H) hv).bool
theorem fin_settle {Γ : Gam} {S : Hp} {ρ : Rho} {σ : St} {H : Hp} {o : Out} {v : V} {Q : VK} (s : Sat Γ S ρ σ H) (h : Aft p W Γ S σ (.ok (settle o) ρ) (POk Γ σ Q)) (hv : OutV S σ (settle o) v) : Q v H := by
  have h := h.now s
  cases o with
  | fz d => exact h v hv
  | fresh d => exact h v hv
  | slot i => exact h v hv
theorem dl_and {rest : List Expr} (ha : PE X a (tE p W ia)) (hb : PE X (.BoolOp .And (b :: rest) pos) (tE p W ib)) : PE X (.BoolOp .And (a :: b :: rest) pos) (tE p W (.and ia ib)) := by
  refine PE.of (pe_and ha hb) fun σ H Q h => ?_
  obtain ⟨Γ, S, ρ, s, h⟩ := h
  rw [ev] at h
  refine go_E s h fun x S1 ρ1 H1 v e1 s1 hv h1 => ?_
  split at h1
  · rename_i q
    refine ⟨true, bool_of s1 hv q, ?_⟩
    rw [if_pos rfl]
    exact go_E s1 h1 fun y S2 ρ2 H2 u e2 s2 hu h2 => fin_settle s2 h2 hu
  · rename_i q
    refine ⟨false, bool_of s1 hv q, ?_⟩
    rw [if_neg Bool.false_ne_true]
    exact fin_fz s1 h1 (.bl false)
  · exact h1.elim
theorem dl_or {rest : List Expr} (ha : PE X a (tE p W ia)) (hb : PE X (.BoolOp .Or (b :: rest) pos) (tE p W ib)) : PE X (.BoolOp .Or (a :: b :: rest) pos) (tE p W (.or ia ib)) := by
  refine PE.of (pe_or ha hb) fun σ H Q h => ?_
  obtain ⟨Γ, S, ρ, s, h⟩ := h
  rw [ev] at h
  refine go_E s h fun x S1 ρ1 H1 v e1 s1 hv h1 => ?_
  split at h1
  · rename_i q
    refine ⟨true, bool_of s1 hv q, ?_⟩
    rw [if_pos rfl]
    exact fin_fz s1 h1 (.bl true)
  · rename_i q
    refine ⟨false, bool_of s1 hv q, ?_⟩
    rw [if_neg Bool.false_ne_true]
    exact go_E s1 h1 fun y S2 ρ2 H2 u e2 s2 hu h2 => fin_settle s2 h2 hu
  · exact h1.elim
theorem dl_not (ha : PE X a (tE p W ia)) : PE X (.UnaryOp .Not a pos) (tE p W (.not ia)) := by
  refine PE.of (pe_not ha) fun σ H Q h => ?_
  obtain ⟨Γ, S, ρ, s, h⟩ := h
  rw [ev] at h
  refine go_E s h fun x S1 ρ1 H1 v e1 s1 hv h1 => ?_
  split at h1
  · rename_i k q
    exact ⟨k, bool_of s1 hv q, fin_fz s1 h1 (.bl _)⟩
  · exact h1.elim
/-! tests -/
theorem tru_of {K : PySem.W.Frag} {S H : Hp} (ex : Ex S H) {v : V} {d : D} {k : Bool} (t : Top S H v d) (e : truD d = some k) : TruV K v H k := by
  cases d with
  | none =>
    cases e
    rw [t.none]
    exact rfl
  | bool b =>
    cases e
    rw [t.bool]
    exact rfl
  | int n =>
    cases e
    rw [t.int]
    exact rfl
  | str x => cases e
  | list xs =>
    cases e
    obtain ⟨a, ys, rfl, h1, h2⟩ := t.list ex
    refine .inl ⟨ys, .inl h1, ?_⟩
    cases h2 <;> rfl
  | tuple xs =>
    cases e
    obtain ⟨a, ys, rfl, h1, h2⟩ := t.tuple
    refine .inr (.inl ⟨ys, .inl (.inl (ex _ _ h1)), ?_⟩)
    cases h2 <;> rfl
  | dict kvs => cases e
/-- a value as a test, by its truth -/
theorem dlt_val (hT : (ev p.c.cal ia).T = (Ev.of (ev p.c.cal ia).P).T) (ha : PE X a (tE p W ia)) (he : ∀ whole, isTrue a X.env whole = (do let v ← whole; standAt a.pos; holding [v] (truthy v)) := by intro _; rfl) : PT X a (tT p W ia) := by
  refine PT.of (pt_truth ha he) fun σ H Q h => ?_
  obtain ⟨Γ, S, ρ, s, h⟩ := h
  rw [hT] at h
  refine go_E s h fun x S1 ρ1 H1 v e1 s1 hv h1 => ?_
  obtain ⟨d, hd, h2⟩ := h1.dref
  have h2 : Aft p W Γ S1 σ ((R.opt (truD d) ρ1).bind fun k ρ => R.ok k ρ) (fun k _ _ H' => Q k H') := by
    cases q : truD d with
    | none =>
      rw [q] at h2
      exact h2.elim
    | some k =>
      rw [q] at h2
      exact h2
  obtain ⟨k, hk, h3⟩ := h2.opt
  exact ⟨k, tru_of s1.sub (top_of s1 hv hd) hk, Aft.now (a := k) h3 s1⟩
theorem dlt_not (ha : PT X a (tT p W ia)) : PT X (.UnaryOp .Not a pos) (tT p W (.not ia)) := by
  refine PT.of (pt_not ha) fun σ H Q h => ?_
  obtain ⟨Γ, S, ρ, s, h⟩ := h
  rw [ev] at h
  exact go_T s h fun k S1 ρ1 H1 e1 s1 h1 => Aft.now (a := !k) h1 s1
theorem dlw_and1 (ha : PT X a (tT p W ia)) : PW X (.BoolOp .And [a] pos) (tT p W ia) := pw_and1 ha
theorem dlw_or1 (ha : PT X a (tT p W ia)) : PW X (.BoolOp .Or [a] pos) (tT p W ia) := pw_or1 ha
theorem dlw_and {rest : List Expr} (ha : PT X a (tT p W ia)) (hb : PW X (.BoolOp .And (b :: rest) pos) (tT p W ib)) : PW X (.BoolOp .And (a :: b :: rest) pos) (tT p W (.and ia ib)) := by
  refine PW.of (pw_and ha hb) fun σ H Q h => ?_
  obtain ⟨Γ, S, ρ, s, h⟩ := h
  rw [ev] at h
  refine go_T s h fun k S1 ρ1 H1 e1 s1 h1 => ?_
  cases k with
  | true =>
    rw [if_pos rfl] at h1
    show tT p W ib σ H1 Q
    exact ⟨Γ, S1, ρ1, s1, h1⟩
  | false =>
    rw [if_neg Bool.false_ne_true] at h1
    exact Aft.now (a := false) h1 s1
theorem dlw_or {rest : List Expr} (ha : PT X a (tT p W ia)) (hb : PW X (.BoolOp .Or (b :: rest) pos) (tT p W ib)) : PW X (.BoolOp .Or (a :: b :: rest) pos) (tT p W (.or ia ib)) := by
  refine PW.of (pw_or ha hb) fun σ H Q h => ?_
  obtain ⟨Γ, S, ρ, s, h⟩ := h
  rw [ev] at h
  refine go_T s h fun k S1 ρ1 H1 e1 s1 h1 => ?_
  cases k with
  | false =>
    rw [if_neg Bool.false_ne_true] at h1
    show tT p W ib σ H1 Q
    exact ⟨Γ, S1, ρ1, s1, h1⟩
  | true =>
    rw [if_pos rfl] at h1
    exact Aft.now (a := true) h1 s1
theorem dl_ite {c : Expr} {ic : E} (hc : PT X c (tT p W ic)) (ha : PE X a (tE p W ia)) (hb : PE X b (tE p W ib)) : PE X (.IfExp c a b pos) (tE p W (.ite ic ia ib)) := by
  refine PE.of (pe_ifExp hc ha hb) fun σ H Q h => ?_
  obtain ⟨Γ, S, ρ, s, h⟩ := h
  rw [ev] at h
  refine go_T s h fun k S1 ρ1 H1 e1 s1 h1 => ?_
  cases k with
  | true =>
    rw [if_pos rfl] at h1 ⊢
    exact go_E s1 h1 fun y S2 ρ2 H2 u e2 s2 hu h2 => fin_settle s2 h2 hu
  | false =>
    rw [if_neg Bool.false_ne_true] at h1 ⊢
    exact go_E s1 h1 fun y S2 ρ2 H2 u e2 s2 hu h2 => fin_settle s2 h2 hu
/-! arguments, items -/
theorem dla_nil : PA X [] (tAr p W []) := PA.of pa_nil fun σ H Q h => by
  obtain ⟨Γ, S, ρ, s, h⟩ := h
  rw [evA] at h
  exact Aft.now h s _ .nil
theorem dla_cons (ha : PE X e (tE p W ie)) (hr : PA X es (tAr p W ies)) (hs : starEach (e :: es) X.env = (false, eval e X.env) :: starEach es X.env := by rfl) : PA X (e :: es) (tAr p W (ie :: ies)) := by
  refine PA.of (pa_cons ha hr hs) fun σ H Q h => ?_
  obtain ⟨Γ, S, ρ, s, h⟩ := h
  rw [evA] at h
  refine go_E s h fun x S1 ρ1 H1 v e1 s1 hv h1 => go_A s1 h1 fun os S2 ρ2 H2 vs e2 s2 hvs h2 => ?_
  exact Aft.now h2 s2 _ (.cons (hv.mono e2) hvs)
theorem dlx_nil : PA X [] (tXs p W []) := PA.of pa_nil fun σ H Q h => by
  obtain ⟨Γ, S, ρ, s, h⟩ := h
  rw [evX] at h
  exact Aft.now h s _ .nil
theorem dlx_cons (ha : PE X e (tE p W ie)) (hr : PA X es (tXs p W ies)) (hs : starEach (e :: es) X.env = (false, eval e X.env) :: starEach es X.env := by rfl) : PA X (e :: es) (tXs p W (ie :: ies)) := by
  refine PA.of (pa_cons ha hr hs) fun σ H Q h => ?_
  obtain ⟨Γ, S, ρ, s, h⟩ := h
  rw [evX] at h
  refine go_E s h fun x S1 ρ1 H1 v e1 s1 hv h1 => ?_
  obtain ⟨d, S2, ρ2, ex2, s2, rp, _, h2⟩ := esc_of s1 hv h1
  refine go_X s2 h2 fun ds S3 ρ3 H3 vs e3 s3 hvs h3 => ?_
  exact Aft.now h3 s3 _ (.cons (rp.mono e3) hvs)
theorem dl_tup {x1} (h : PA X es (tXs p W ies)) : PE X (.Tuple es x1 pos) (tE p W (.tup ies)) := by
  refine PE.of (pe_tup h) fun σ H Q h => ?_
  obtain ⟨Γ, S, ρ, s, h⟩ := h
  rw [ev] at h
  refine go_X s h fun ds S1 ρ1 H1 vs e1 s1 hv h1 => ?_
  split at h1
  · exact ⟨lim_le (by rw [hv.length]; assumption), fun q hq => fin_tup s1 h1 hv hq⟩
  · exact h1.elim
theorem dl_lst (h : PA X es (tXs p W ies)) : PE X (.List es pos) (tE p W (.lst ies)) := by
  refine PE.of (pe_lst h) fun σ H Q h => ?_
  obtain ⟨Γ, S, ρ, s, h⟩ := h
  rw [ev] at h
  refine go_X s h fun ds S1 ρ1 H1 vs e1 s1 hv h1 => ?_
  split at h1
  · exact ⟨lim_le (by rw [hv.length]; assumption), fun q hq => fin_new s1 h1 (.lst hv) hq⟩
  · exact h1.elim
/-! subscripts, slices -/
theorem at_rp {S : Hp} {zs : List V} {xs : List D} {i : Int} {r : D} (h : RpL S zs xs) (e : atI xs i = some r) : ∃ w, atI zs i = some w ∧ Rp S w r := by
  unfold atI at e ⊢
  rw [← h.length] at e
  cases hx : ixN zs.length i with
  | none =>
    rw [hx] at e
    cases e
  | some j =>
    rw [hx] at e
    exact h.get (show xs[j]? = some r from e)
theorem dl_ix (ha : PE X a (tE p W ia)) (hb : PE X b (tE p W ib)) (hs : PlainIx b := by intro _ _; rfl) : PE X (.Subscript a b pos) (tE p W (.sub ia ib)) := by
  refine PE.of (pe_ix ix_seq ha hb hs) fun σ H Q h => ?_
  obtain ⟨Γ, S, ρ, s, h⟩ := h
  rw [ev] at h
  refine go_E s h fun x S1 ρ1 H1 v e1 s1 hv h1 => go_E s1 h1 fun y S2 ρ2 H2 u e2 s2 hu h2 => ?_
  obtain ⟨d, hd, h3⟩ := h2.dref
  obtain ⟨e, he, h4⟩ := h3.dref
  obtain ⟨r, hr, h5⟩ := h4.opt
  have t1 := top_of s2 (hv.mono e2) hd
  have t2 := top_of s2 hu he
  unfold subD at hr
  split at hr
  · obtain ⟨q, zs, rfl, q1, q2⟩ := t1.list s2.sub
    obtain ⟨w, hw, rp⟩ := at_rp q2 hr
    exact .inl ⟨q, zs, _, w, rfl, t2.int, .inl q1, hw, fin_fz s2 h5 rp⟩
  · obtain ⟨q, zs, rfl, q1, q2⟩ := t1.tuple
    obtain ⟨w, hw, rp⟩ := at_rp q2 hr
    exact .inr (.inl ⟨q, zs, _, w, rfl, t2.int, .inl (.inl (s2.sub _ _ q1)), hw, fin_fz s2 h5 rp⟩)
  · cases hr
/-- a bound of a slice -/
theorem go_I {i : E} {oe : Option Expr} {to : TO} {β : Type} {Γ : Gam} {S : Hp} {ρ : Rho} {σ : St} {H : Hp} {Q : Option Int → Hp → Prop} {f : Option Int → Rho → R β} {k : β → Hp → Rho → Hp → Prop} (s : Sat Γ S ρ σ H)
    (ht : (isNop i = true ∧ to = tNoPart) ∨ (isNop i = false ∧ to = tPart (tE p W i)))
    (h : Aft p W Γ S σ ((optI i (ev p.c.cal i) ρ).bind f) k) (cont : ∀ o S1 ρ1 H1, Ex S S1 → Sat Γ S1 ρ1 σ H1 → Aft p W Γ S1 σ (f o ρ1) k → Q o H1) : to σ H Q := by
  unfold optI at h
  rcases ht with ⟨hn, ht⟩ | ⟨hn, ht⟩
  · subst ht
    rw [if_pos hn] at h
    exact cont none S ρ H (Ex.refl S) s h
  · subst ht
    rw [hn, if_neg Bool.false_ne_true] at h
    simp only [R.bind_assoc] at h
    refine go_E s h fun x S1 ρ1 H1 v e1 s1 hv h1 => ?_
    obtain ⟨d, hd, h2⟩ := h1.dref
    obtain ⟨n, hn, h3⟩ := h2.opt
    have e := intD_some hn
    subst e
    exact ⟨n, (top_of s1 hv hd).int, cont (some n) _ _ _ e1 s1 h3⟩
/-- the readings of a slice's bounds -/
inductive SlB (p : Par) (W : WX) (X : Cx) : Option Expr → E → TO → Prop
  | no : SlB p W X none .nop tNoPart
  | some {e : Expr} {ie : E} : PE X e (tE p W ie) → isNop ie = false → SlB p W X (some e) ie (tPart (tE p W ie))
theorem SlB.po {oe : Option Expr} {ie : E} {t : TO} (h : SlB p W X oe ie t) : PO X oe t := by
  cases h with
  | no => exact po_none
  | some h _ => exact po_some h
theorem SlB.cs {oe : Option Expr} {ie : E} {t : TO} (h : SlB p W X oe ie t) : (isNop ie = true ∧ t = tNoPart) ∨ (isNop ie = false ∧ t = tPart (tE p W ie)) := by
  cases h with
  | no => exact .inl ⟨rfl, rfl⟩
  | some _ h => exact .inr ⟨h, rfl⟩
theorem RpL.cut {S : Hp} {zs : List V} {xs : List D} (h : RpL S zs xs) (lo hi : Option Int) : RpL S (cutV zs lo hi) ((xs.drop (HT.sIx xs.length 0 lo)).take (HT.sIx xs.length xs.length hi - HT.sIx xs.length 0 lo)) := by
  unfold cutV
  rw [h.length]
  exact (h.drop _).take _
theorem dl_slice {lo hi : Option Expr} {il ih : E} {tl th : TO} {p2 : Pos} (ha : PE X a (tE p W ia)) (hl : SlB p W X lo il tl) (hh : SlB p W X hi ih th) : PE X (.Subscript a (.Slice lo hi none p2) pos) (tE p W (.slice ia il ih)) := by
  refine PE.of (pe_slice (sl_list.or sl_tupA) ha hl.po hh.po) fun σ H Q h => ?_
  obtain ⟨Γ, S, ρ, s, h⟩ := h
  rw [ev] at h
  refine go_E s h fun x S1 ρ1 H1 v e1 s1 hv h1 => go_I (oe := lo) s1 hl.cs h1 fun l S2 ρ2 H2 e2 s2 h2 => go_I (oe := hi) s2 hh.cs h2 fun u S3 ρ3 H3 e3 s3 h3 => ?_
  obtain ⟨d, hd, h4⟩ := h3.dref
  obtain ⟨fr, res, hr, k⟩ := fin_res s3 h4
  have t1 := top_of s3 (hv.mono (e2.trans e3)) hd
  unfold sliceD at hr
  split at hr
  · cases hr
    obtain ⟨q, zs, rfl, q1, q2⟩ := t1.list s3.sub
    exact .inl ⟨q, zs, rfl, .inl q1, fun r hr => k.new hr (.lst (q2.cut _ _))⟩
  · rename_i xs
    cases hr
    obtain ⟨q, zs, rfl, q1, q2⟩ := t1.tuple
    refine .inr ⟨q, zs, rfl, .inl (.inl (s3.sub _ _ q1)), fun hz => ?_, fun _ r hr => k.tup hr (q2.cut _ _)⟩
    have e : (xs.drop (HT.sIx xs.length 0 l)).take (HT.sIx xs.length xs.length u - HT.sIx xs.length 0 l) = xs := by
      rw [← q2.length, hz.1, hz.2]
      show List.take (zs.length - 0) xs = xs
      rw [Nat.sub_zero, q2.length]
      exact List.take_length
    rw [e] at k
    exact k.val (.tup q1 q2)
  · cases hr
/-! built-ins -/
theorem dl_biB {x : Str} {p1 : Pos} {id : String} {bi : Bi} (hc : CallR X (.builtin id) (rDL (biD bi))) (hm : X.mg x = none) (hv : bootBuiltins x = some (.builtin id)) (ha : PA X (e :: es) (tAr p W (ie :: ies))) (hg : Gl X x := by rfl) (hn : x ≠ "__name__" := by decide) (hdb : (x == ("__debug__" : Str)) = false := by decide)
    (he : starEach (e :: es) X.env = (false, eval e X.env) :: starEach es X.env := by rfl) (hpl : (backTo pos (starEach es X.env)).any (·.1) = false := by rfl) : PE X (.Call (.Name x p1) (e :: es) [] pos) (tE p W (.bi bi (ie :: ies))) := by
  refine PE.of (pe_callB hc hg hm hv ha hn hdb he hpl) fun σ H Q h => ?_
  obtain ⟨Γ, S, ρ, s, h⟩ := h
  rw [ev] at h
  refine go_A s h fun os S1 ρ1 H1 vs e1 s1 hvs h1 => ?_
  obtain ⟨ds, hds, h2⟩ := h1.opt
  obtain ⟨fr, res, hr, k⟩ := fin_res s1 h2
  exact ⟨S1, ds, fr, res, s1.sub, topL_of s1 hvs hds, hr, k⟩
theorem dl_biT {x : Str} {p1 : Pos} {id : String} {bi : Bi} (hc : CallR X (.type id) (rDL (biD bi))) (hm : X.mg x = none) (hv : bootBuiltins x = some (.type id)) (ha : PA X (e :: es) (tAr p W (ie :: ies))) (hg : Gl X x := by rfl) (hn : x ≠ "__name__" := by decide) (hdb : (x == ("__debug__" : Str)) = false := by decide)
    (he : starEach (e :: es) X.env = (false, eval e X.env) :: starEach es X.env := by rfl) (hpl : (backTo pos (starEach es X.env)).any (·.1) = false := by rfl) : PE X (.Call (.Name x p1) (e :: es) [] pos) (tE p W (.bi bi (ie :: ies))) := by
  refine PE.of (pe_callTy hc hg hm hv ha hn hdb he hpl) fun σ H Q h => ?_
  obtain ⟨Γ, S, ρ, s, h⟩ := h
  rw [ev] at h
  refine go_A s h fun os S1 ρ1 H1 vs e1 s1 hvs h1 => ?_
  obtain ⟨ds, hds, h2⟩ := h1.opt
  obtain ⟨fr, res, hr, k⟩ := fin_res s1 h2
  exact ⟨S1, ds, fr, res, s1.sub, topL_of s1 hvs hds, hr, k⟩
theorem dl_isa {tn : Str} {t : Ty0} {p1 p2 : Pos} (hm : X.mg "isinstance" = none) (hmt : X.mg tn = none) (hvt : bootBuiltins tn = some (.type (tyName t))) (ha : PE X a (tE p W ia)) (hg : Gl X "isinstance" := by rfl) (hgt : Gl X tn := by rfl) (hv : bootBuiltins "isinstance" = some (.builtin "isinstance") := by decide +kernel) (hn : tn ≠ "__name__" := by decide) (hdb : (tn == ("__debug__" : Str)) = false := by decide)
    (he : starEach [a, .Name tn p2] X.env = (false, eval a X.env) :: starEach [.Name tn p2] X.env := by rfl) (hpl : (backTo pos (starEach [.Name tn p2] X.env)).any (·.1) = false := by rfl) (he2 : starEach [.Name tn p2] X.env = (false, eval (.Name tn p2) X.env) :: starEach [] X.env := by rfl) :
    PE X (.Call (.Name "isinstance" p1) [a, .Name tn p2] [] pos) (tE p W (.isa ia t)) := by
  refine PE.of (pe_callB cb_isa hg hm hv (pa_cons ha (pa_cons (pe_bltn (v := .ty (tyName t)) hgt hmt hvt rfl hn hdb) pa_nil he2) he) (by decide) (by decide) he hpl) fun σ H Q h => ?_
  obtain ⟨Γ, S, ρ, s, h⟩ := h
  rw [ev] at h
  refine go_E s h fun x S1 ρ1 H1 v e1 s1 hv h1 => ?_
  obtain ⟨d, hd, h2⟩ := h1.dref
  split at h2
  · exact ⟨S1, v, d, t, s1.sub, rfl, top_of s1 hv hd, by assumption, fin_fz s1 h2 (.bl _)⟩
  · exact h2.elim
/-! a.append(e) -/
theorem app_of {Γ : Gam} {S : Hp} {ρ : Rho} {σ : St} {H : Hp} {x : Out} {v u : V} {d : D} {Q : VK} (s : Sat Γ S ρ σ H) (hv : OutV S σ (settle x) v) (hu : Rp S u d) (h : Aft p W Γ S σ (appR x d ρ) (POk Γ σ Q)) :
    rAppend v [u] H Q := by
  unfold appR at h
  cases x with
  | fz e => exact h.elim
  | fresh e => exact h.elim
  | slot i =>
    have hv : σ[i]? = some (some v) := hv
    cases q : ρ[i]? with
    | none =>
      simp only [q] at h
      exact h.elim
    | some y =>
      cases y with
      | no => simp only [q] at h; exact h.elim
      | fz e => simp only [q] at h; exact h.elim
      | lent e => simp only [q] at h; exact h.elim
      | ow e =>
        cases e with
        | list xs =>
          simp only [q] at h
          split at h
          · rename_i hlt
            obtain ⟨a, o, h1, h2, h3, _⟩ := s.ow_at q
            rw [hv] at h1
            cases h1
            cases h3 with
            | lst h3 =>
              exact ⟨a, _, u, rfl, rfl, h2, lim_lt (by rw [h3.length]; exact hlt), h.at_ (Ex.refl S) (s.mutOw q hv (.lst (h3.append (.cons hu .nil)))) .non .non⟩
          · exact h.elim
        | none => simp only [q] at h; exact h.elim
        | bool _ => simp only [q] at h; exact h.elim
        | int _ => simp only [q] at h; exact h.elim
        | str _ => simp only [q] at h; exact h.elim
        | tuple _ => simp only [q] at h; exact h.elim
        | dict _ => simp only [q] at h; exact h.elim
      | io e =>
        cases e with
        | list xs =>
          simp only [q] at h
          split at h
          · rename_i hlt
            obtain ⟨a, o, h1, h2, h3, _⟩ := s.io_at q
            rw [hv] at h1
            cases h1
            cases h3 with
            | lst h3 =>
              exact ⟨a, _, u, rfl, rfl, h2, lim_lt (by rw [h3.length]; exact hlt), h.at_ (Ex.refl S) (s.mutIo q hv (.lst (h3.append (.cons hu .nil)))) .non .non⟩
          · exact h.elim
        | none => simp only [q] at h; exact h.elim
        | bool _ => simp only [q] at h; exact h.elim
        | int _ => simp only [q] at h; exact h.elim
        | str _ => simp only [q] at h; exact h.elim
        | tuple _ => simp only [q] at h; exact h.elim
        | dict _ => simp only [q] at h; exact h.elim
theorem dl_app {apos : Pos} (ha : PE X a (tE p W ia)) (hb : PE X e (tE p W ie))
    (hbase : attributeBase a "append" X.env (eval a X.env) = eval a X.env := by rfl)
    (hfew : ((backTo pos (starEach (e :: []) X.env)).all (fun x => !x.1) && (backToKw pos (keywordEach [] X.env)).all (fun x => x.1.isSome)
      && decide ((e :: []).length + ([] : List Keyword).length + (if ([] : List Keyword).isEmpty then 0 else 1) < 30)) = true := by rfl)
    (hline : (apos.endLine == pos.line) = true := by rfl) (hs : starEach [e] X.env = (false, eval e X.env) :: starEach [] X.env := by rfl) (hplain : (backTo pos (starEach [] X.env)).any (·.1) = false := by rfl) : PE X (.Call (.Attribute a "append" apos) [e] [] pos) (tE p W (.app ia ie)) := by
  refine PE.of (pe_bm PySem.F.plainAttrs_list PySem.F.slot_list_append PySem.F.type_list_append mt_append ha (pa_cons hb pa_nil hs) hbase hfew hline hs hplain) fun σ H Q h => ?_
  obtain ⟨Γ, S, ρ, s, h⟩ := h
  rw [ev] at h
  refine go_E s h fun x S1 ρ1 H1 v e1 s1 hv h1 => ?_
  obtain ⟨ds, hds, h2⟩ := h1.opt
  have hl : ∃ ds', deref (settle x) ρ1 = some (.list ds') := by
    cases q : deref x ρ1 with
    | none =>
      rw [q] at hds
      cases hds
    | some d =>
      rw [q] at hds
      have hds : listD d = some ds := hds
      refine ⟨ds, ?_⟩
      have e : d = .list ds := by
        unfold listD at hds
        split at hds
        · cases hds
          rfl
        · cases hds
      rw [← e, ← q]
      cases x <;> rfl
  obtain ⟨ds', hd'⟩ := hl
  obtain ⟨q, zs, rfl, q1, q2⟩ := (top_of s1 hv hd').list s1.sub
  refine ⟨.inl ⟨rfl, zs, .inl q1⟩, ?_⟩
  refine go_E s1 h2 fun y S2 ρ2 H2 u e2 s2 hu h3 => ?_
  obtain ⟨d, S3, ρ3, ex3, s3, rp, _, h4⟩ := esc_of s2 hu h3
  exact app_of s3 ((hv.mono e2).mono ex3) rp h4
end
end DL
end

section
set_option Elab.async false
set_option linter.all false
set_option maxRecDepth 100000
set_option autoImplicit false
namespace DL
open PySem PySem.W L2
/-! ### keys -/
theorem str_beq (x y : Str) : (x == y) = decide (x = y) := rfl
theorem eqv_keyD (k j : Key) : PyData.eqv (keyD k) (keyD j) = decide (k = j) := by
  cases k <;> cases j
  · simp only [keyD, PyData.eqv]
    rw [key_ll]
  · simp only [keyD, PyData.eqv]
    rw [key_lr]
  · simp only [keyD, PyData.eqv]
    rw [key_rl]
  · simp only [keyD, PyData.eqv]
    rw [key_rr]
    rfl
theorem eqv_keys : ∀ (k j : List Key), PyData.eqvAll (k.map keyD) (j.map keyD) = decide (k = j)
  | [], [] => by simp [PyData.eqvAll]
  | [], _ :: _ => by simp [PyData.eqvAll]
  | _ :: _, [] => by simp [PyData.eqvAll]
  | x :: k, y :: j => by
    simp only [List.map_cons, PyData.eqvAll, eqv_keyD, eqv_keys k j, List.cons.injEq]
    by_cases h1 : x = y <;> by_cases h2 : k = j <;> simp [h1, h2]
theorem eqv_keyT (k j : List Key) : PyData.eqv (.tuple (k.map keyD)) (.tuple (j.map keyD)) = decide (k = j) := by
  simp only [PyData.eqv, eqv_keys]
theorem key1_of {d : D} (h : key1 d = true) : ∃ k : Key, d = keyD k := by
  cases d with
  | int i => exact ⟨.inl i, rfl⟩
  | str x => exact ⟨.inr x, rfl⟩
  | none => cases h
  | bool b => cases h
  | list xs => cases h
  | tuple xs => cases h
  | dict xs => cases h
theorem key1_V {S : Hp} {v : V} {k : Key} (h : Rp S v (keyD k)) : v = kV k := by
  cases k <;> (cases h; rfl)
theorem keys_of : ∀ {ds : List D}, ds.all key1 = true → ∃ K : List Key, ds = K.map keyD
  | [], _ => ⟨[], rfl⟩
  | d :: ds, h => by
    rw [List.all_cons, Bool.and_eq_true] at h
    obtain ⟨k, rfl⟩ := key1_of h.1
    obtain ⟨K, rfl⟩ := keys_of h.2
    exact ⟨k :: K, rfl⟩
theorem keys_V {S : Hp} : ∀ {K : List Key} {vs : List V}, RpL S vs (K.map keyD) → vs = K.map kV
  | [], _, h => by
    cases h
    rfl
  | k :: K, _, h => by
    rw [List.map_cons] at h
    cases h with
    | cons a b => rw [key1_V a, keys_V b, List.map_cons]
theorem keyT_of {d : D} (h : keyT d = true) : ∃ K : List Key, d = .tuple (K.map keyD) := by
  cases d with
  | tuple ks =>
    obtain ⟨K, rfl⟩ := keys_of (show ks.all key1 = true from h)
    exact ⟨K, rfl⟩
  | none => cases h
  | bool b => cases h
  | list xs => cases h
  | int xs => cases h
  | str xs => cases h
  | dict xs => cases h
/-! ### look, put -/
/-- what is looked up stands for what is looked up -/
def Hit (S : Hp) (o : Option D) (v : Option V) : Prop := match o, v with
  | some d, some v => Rp S v d
  | none, none => True
  | _, _ => False
theorem look_K {S : Hp} (k : Key) : ∀ {ps : List (Key × V)} {kvs : List (D × D)}, RpK S ps kvs → Hit S (dlook kvs (keyD k)) (valV ps k)
  | _, _, .nil => True.intro
  | _, _, .cons (k := j) (v := v) (ps := ps) (d := d) (kvs := kvs) h r => by
    have ih := look_K k r
    unfold dlook valV
    rw [List.find?_cons, List.find?_cons]
    show Hit S (Option.map _ (match PyData.eqv (keyD j) (keyD k) with | true => _ | false => _)) (Option.map _ (match decide (j = k) with | true => _ | false => _))
    rw [eqv_keyD]
    by_cases e : j = k
    · rw [decide_eq_true e]
      exact h
    · rw [decide_eq_false e]
      exact ih
theorem look_T {S : Hp} (k : List Key) : ∀ {ps : List (List Key × V)} {kvs : List (D × D)}, RpT S ps kvs → Hit S (dlook kvs (.tuple (k.map keyD))) (valV ps k)
  | _, _, .nil => True.intro
  | _, _, .cons (k := j) (v := v) (ps := ps) (d := d) (kvs := kvs) h r => by
    have ih := look_T k r
    unfold dlook valV
    rw [List.find?_cons, List.find?_cons]
    show Hit S (Option.map _ (match PyData.eqv (.tuple (j.map keyD)) (.tuple (k.map keyD)) with | true => _ | false => _)) (Option.map _ (match decide (j = k) with | true => _ | false => _))
    rw [eqv_keyT]
    by_cases e : j = k
    · rw [decide_eq_true e]
      exact h
    · rw [decide_eq_false e]
      exact ih
theorem any_K {S : Hp} (k : Key) : ∀ {ps : List (Key × V)} {kvs : List (D × D)}, RpK S ps kvs → (kvs.any fun p => PyData.eqv p.1 (keyD k)) = ps.any fun p => decide (p.1 = k)
  | _, _, .nil => rfl
  | _, _, .cons (k := j) h r => by
    rw [List.any_cons, List.any_cons, any_K k r, eqv_keyD]
theorem any_T {S : Hp} (k : List Key) : ∀ {ps : List (List Key × V)} {kvs : List (D × D)}, RpT S ps kvs → (kvs.any fun p => PyData.eqv p.1 (.tuple (k.map keyD))) = ps.any fun p => decide (p.1 = k)
  | _, _, .nil => rfl
  | _, _, .cons (k := j) h r => by
    rw [List.any_cons, List.any_cons, any_T k r, eqv_keyT]
theorem map_K {S : Hp} (k : Key) {v : V} {d : D} (hv : Rp S v d) : ∀ {ps : List (Key × V)} {kvs : List (D × D)}, RpK S ps kvs → RpK S (ps.map fun p => if p.1 = k then (p.1, v) else p) (kvs.map fun p => if PyData.eqv p.1 (keyD k) = true then (p.1, d) else p)
  | _, _, .nil => .nil
  | _, _, .cons (k := j) h r => by
    rw [List.map_cons, List.map_cons]
    have ih := map_K k hv r
    by_cases e : j = k
    · rw [if_pos e, if_pos (by rw [eqv_keyD]; exact decide_eq_true e)]
      exact .cons hv ih
    · rw [if_neg e, if_neg (by rw [eqv_keyD, decide_eq_false e]; exact Bool.false_ne_true)]
      exact .cons h ih
theorem map_T {S : Hp} (k : List Key) {v : V} {d : D} (hv : Rp S v d) : ∀ {ps : List (List Key × V)} {kvs : List (D × D)}, RpT S ps kvs → RpT S (ps.map fun p => if p.1 = k then (p.1, v) else p) (kvs.map fun p => if PyData.eqv p.1 (.tuple (k.map keyD)) = true then (p.1, d) else p)
  | _, _, .nil => .nil
  | _, _, .cons (k := j) h r => by
    rw [List.map_cons, List.map_cons]
    have ih := map_T k hv r
    by_cases e : j = k
    · rw [if_pos e, if_pos (by rw [eqv_keyT]; exact decide_eq_true e)]
      exact .cons hv ih
    · rw [if_neg e, if_neg (by rw [eqv_keyT, decide_eq_false e]; exact Bool.false_ne_true)]
      exact .cons h ih
theorem snoc_K {S : Hp} {k : Key} {v : V} {d : D} (hv : Rp S v d) : ∀ {ps : List (Key × V)} {kvs : List (D × D)}, RpK S ps kvs → RpK S (ps ++ [(k, v)]) (kvs ++ [(keyD k, d)])
  | _, _, .nil => .cons hv .nil
  | _, _, .cons h r => .cons h (snoc_K hv r)
theorem snoc_T {S : Hp} {k : List Key} {v : V} {d : D} (hv : Rp S v d) : ∀ {ps : List (List Key × V)} {kvs : List (D × D)}, RpT S ps kvs → RpT S (ps ++ [(k, v)]) (kvs ++ [(.tuple (k.map keyD), d)])
  | _, _, .nil => .cons hv .nil
  | _, _, .cons h r => .cons h (snoc_T hv r)
theorem put_K {S : Hp} {k : Key} {v : V} {d : D} {ps : List (Key × V)} {kvs : List (D × D)} (hv : Rp S v d) (r : RpK S ps kvs) : RpK S (putK ps k v) (dput kvs (keyD k) d) := by
  unfold putK dput
  rw [any_K k r]
  split
  · exact map_K k hv r
  · exact snoc_K hv r
theorem put_T {S : Hp} {k : List Key} {v : V} {d : D} {ps : List (List Key × V)} {kvs : List (D × D)} (hv : Rp S v d) (r : RpT S ps kvs) : RpT S (putK ps k v) (dput kvs (.tuple (k.map keyD)) d) := by
  unfold putK dput
  rw [any_T k r]
  split
  · exact map_T k hv r
  · exact snoc_T hv r
theorem rpK_head {S : Hp} {ps : List (Key × V)} {kvs : List (D × D)} (r : RpK S ps kvs) : ∀ {x : D} {q : List (D × D)}, kvs ≠ (.none, x) :: q := by
  intro x q z
  cases r with
  | nil => cases z
  | cons h r =>
    have e := congrArg (fun l => (l.headD (.none, .none)).1) z
    exact keyD_ne _ e
/-- a look-up by values -/
theorem look_go {S H : Hp} (ex : Ex S H) {v y : V} {dd kd : D} {o : Option D} (td : Top S H v dd) (tk : Top S H y kd) (e : lookD dd kd = some o) : ∃ a w, v = .ref a ∧ DGet H a y w ∧ Hit S o w := by
  unfold lookD at e
  split at e
  · rename_i kvs k
    obtain ⟨a, rfl, ⟨ps, h1, h2⟩ | ⟨ps, r, hr, h1, h2⟩⟩ := td.dict ex
    · exact absurd rfl (rpK_head h2)
    · cases hr
      split at e
      · rename_i hk
        cases e
        obtain ⟨K, rfl⟩ := keyT_of hk
        obtain ⟨b, xs, rfl, h3, h4⟩ := tk.tuple
        have h5 := keys_V h4
        subst h5
        exact ⟨a, _, rfl, .inr ⟨ps, K, b, h1, rfl, ex _ _ h3, rfl⟩, look_T K h2⟩
      · cases e
  · rename_i kvs k hn
    obtain ⟨a, rfl, ⟨ps, h1, h2⟩ | ⟨ps, r, hr, h1, h2⟩⟩ := td.dict ex
    · split at e
      · rename_i hk
        cases e
        obtain ⟨K, rfl⟩ := key1_of hk
        have h5 : y = kV K := by
          cases tk with
          | rp h => exact key1_V h
          | ob _ o => cases K <;> cases o
        subst h5
        exact ⟨a, _, rfl, .inl ⟨ps, K, h1, rfl, rfl⟩, look_K K h2⟩
      · cases e
    · exact absurd hr (hn r)
  · cases e
theorem Hit.isSome {S : Hp} {o : Option D} {w : Option V} (h : Hit S o w) : w.isSome = o.isSome := by
  cases o <;> cases w <;> first | rfl | exact h.elim
/-- the object behind a store -/
theorem put_go {S H : Hp} (ex : Ex S H) {a : Addr} {ob : HO} {y v : V} {dd kd d dd' : D} (ho : H a = some ob) (hw : Own S ob dd) (tk : Rp S y kd) (tv : Rp S v d) (e : putD dd kd d = some dd') : ∃ ob', DPut H a y v (upd H a ob') ∧ Own S ob' dd' := by
  unfold putD at e
  split at e
  · rename_i kvs k v'
    split at e
    · rename_i hk
      rw [Bool.and_eq_true, decide_eq_true_eq] at hk
      cases e
      cases hw with
      | dK r => exact absurd rfl (rpK_head r)
      | dT r =>
        obtain ⟨K, rfl⟩ := keyT_of hk.1
        cases tk with
        | tup h3 h4 =>
          have h5 := keys_V h4
          subst h5
          exact ⟨_, .inr ⟨_, K, _, ho, rfl, ex _ _ h3, lim_lt (by rw [r.length]; exact hk.2), rfl⟩, .dT (put_T tv r)⟩
    · cases e
  · rename_i kvs k v' hn
    split at e
    · rename_i hk
      rw [Bool.and_eq_true, decide_eq_true_eq] at hk
      cases e
      cases hw with
      | dK r =>
        obtain ⟨K, rfl⟩ := key1_of hk.1
        have h5 := key1_V tk
        subst h5
        exact ⟨_, .inl ⟨_, K, ho, rfl, lim_lt (by rw [r.length]; exact hk.2), rfl⟩, .dK (put_K tv r)⟩
      | dT r => exact absurd rfl (hn _)
    · cases e
  · cases e
section
variable {p : Par} {W : WX} {X : Cx} {a b e : Expr} {es : List Expr} {ia ib ie : E} {ies : List E} {pos : Pos}
theorem dl_dnewK : PE X (.Dict [] [] pos) (tE p W (.dnew false)) := PE.of pe_dnewK fun σ H Q h => by
  obtain ⟨Γ, S, ρ, s, h⟩ := h
  rw [ev] at h
  exact fun q hq => fin_new s h (.dK .nil) hq
theorem dl_dnewT : PE X (.Dict [] [] pos) (tE p W (.dnew true)) := PE.of pe_dnewT fun σ H Q h => by
  obtain ⟨Γ, S, ρ, s, h⟩ := h
  rw [ev] at h
  exact fun q hq => fin_new s h (.dT .nil) hq
theorem din_go {β : Type} {neg : Bool} {Γ : Gam} {S : Hp} {ρ : Rho} {σ : St} {H : Hp} {Q : VK} {F : Bool → Rho → R β} {K : β → Hp → Rho → Hp → Prop} (s : Sat Γ S ρ σ H)
    (h : Aft p W Γ S σ (((ev p.c.cal ia).P ρ).bind fun x ρ1 => ((ev p.c.cal ib).P ρ1).bind fun y ρ2 => (derefR (settle x) ρ2).bind fun kd _ => (derefR (settle y) ρ2).bind fun dd _ => (R.opt (lookD dd kd) ρ2).bind fun o _ => F (if neg then !o.isSome else o.isSome) ρ2) K)
    (fin : ∀ k S ρ H, Sat Γ S ρ σ H → Aft p W Γ S σ (F k ρ) K → Q (.bl k) H) : tE p W ia σ H fun y H1 => tE p W ib σ H1 fun x H2 => ∃ a o, x = .ref a ∧ DGet H2 a y o ∧ Q (.bl (if neg then !o.isSome else o.isSome)) H2 := by
  refine go_E s h fun x S1 ρ1 H1 v e1 s1 hv h1 => go_E s1 h1 fun y S2 ρ2 H2 u e2 s2 hu h2 => ?_
  obtain ⟨kd, hk, h3⟩ := h2.dref
  obtain ⟨dd, hd, h4⟩ := h3.dref
  obtain ⟨o, ho, h5⟩ := h4.opt
  obtain ⟨a, w, rfl, g, hit⟩ := look_go s2.sub (top_of s2 hu hd) (top_of s2 (hv.mono e2) hk) ho
  refine ⟨a, w, rfl, g, ?_⟩
  rw [hit.isSome]
  exact fin _ _ _ _ s2 h5
theorem dl_din (hu : X.A.units + 1 < cLine) (ha : PE X a (tE p W ia)) (hb : PE X b (tE p W ib)) (hm : behindInMarks .In b = false := by with_unfolding_all rfl) : PE X (.Compare a [.In] [b] pos) (tE p W (.din false ia ib)) := by
  refine PE.of (pe_cmp (pc_din hu ha hb) hm) fun σ H Q h => ?_
  obtain ⟨Γ, S, ρ, s, h⟩ := h
  rw [ev] at h
  exact din_go (neg := false) (F := fun k ρ => R.ok (Out.fz (PyData.bool k)) ρ) s h fun k S ρ H s h => fin_fz s h (.bl k)
theorem dl_dnotin (hu : X.A.units + 1 < cLine) (ha : PE X a (tE p W ia)) (hb : PE X b (tE p W ib)) (hm : behindInMarks .NotIn b = false := by with_unfolding_all rfl) : PE X (.Compare a [.NotIn] [b] pos) (tE p W (.din true ia ib)) := by
  refine PE.of (pe_cmp (pc_dnotin hu ha hb) hm) fun σ H Q h => ?_
  obtain ⟨Γ, S, ρ, s, h⟩ := h
  rw [ev] at h
  exact din_go (neg := true) (F := fun k ρ => R.ok (Out.fz (PyData.bool k)) ρ) s h fun k S ρ H s h => fin_fz s h (.bl k)
theorem dlt_din (hu : X.A.units + 1 < cLine) (ha : PE X a (tE p W ia)) (hb : PE X b (tE p W ib)) (hm : behindInMarks .In b = false := by with_unfolding_all rfl) : PT X (.Compare a [.In] [b] pos) (tT p W (.din false ia ib)) := by
  refine PT.of (pt_cmp (pc_din hu ha hb) hm) fun σ H Q h => ?_
  obtain ⟨Γ, S, ρ, s, h⟩ := h
  rw [ev] at h
  simp only [Ev.of, R.bind_assoc] at h
  exact din_go (neg := false) (Q := fun x H2 => ∃ d, x = V.bl d ∧ Q d H2) (F := fun k ρ2 => (R.ok (Out.fz (PyData.bool k)) ρ2).bind fun x ρ1 => (derefR (settle x) ρ1).bind fun d _ => R.opt (truD d) ρ1) s h fun k S ρ H s h => ⟨k, rfl, fin_T s h⟩
theorem dlt_dnotin (hu : X.A.units + 1 < cLine) (ha : PE X a (tE p W ia)) (hb : PE X b (tE p W ib)) (hm : behindInMarks .NotIn b = false := by with_unfolding_all rfl) : PT X (.Compare a [.NotIn] [b] pos) (tT p W (.din true ia ib)) := by
  refine PT.of (pt_cmp (pc_dnotin hu ha hb) hm) fun σ H Q h => ?_
  obtain ⟨Γ, S, ρ, s, h⟩ := h
  rw [ev] at h
  simp only [Ev.of, R.bind_assoc] at h
  exact din_go (neg := true) (Q := fun x H2 => ∃ d, x = V.bl d ∧ Q d H2) (F := fun k ρ2 => (R.ok (Out.fz (PyData.bool k)) ρ2).bind fun x ρ1 => (derefR (settle x) ρ1).bind fun d _ => R.opt (truD d) ρ1) s h fun k S ρ H s h => ⟨k, rfl, fin_T s h⟩
theorem dl_dsub (hu : X.A.units + 1 < cLine) (ha : PE X a (tE p W ia)) (hb : PE X b (tE p W ib)) (hs : NoSl b := by intro _ _; rfl) : PE X (.Subscript a b pos) (tE p W (.dsub ia ib)) := by
  refine PE.of (pe_dget hu ha hb hs) fun σ H Q h => ?_
  obtain ⟨Γ, S, ρ, s, h⟩ := h
  rw [ev] at h
  refine go_E s h fun x S1 ρ1 H1 v e1 s1 hv h1 => go_E s1 h1 fun y S2 ρ2 H2 u e2 s2 hu h2 => ?_
  obtain ⟨dd, hd, h3⟩ := h2.dref
  obtain ⟨kd, hk, h4⟩ := h3.dref
  obtain ⟨o, ho, h5⟩ := h4.opt
  obtain ⟨r, hr, h6⟩ := h5.opt
  subst hr
  obtain ⟨a, w, rfl, g, hit⟩ := look_go s2.sub (top_of s2 (hv.mono e2) hd) (top_of s2 hu hk) ho
  cases w with
  | none => exact hit.elim
  | some w => exact ⟨a, w, rfl, g, fin_fz s2 h6 hit⟩
theorem isD_of {S H : Hp} (ex : Ex S H) {v : V} {kvs : List (D × D)} (h : Top S H v (.dict kvs)) : ∃ a, v = .ref a ∧ IsD H a := by
  obtain ⟨a, rfl, ⟨ps, h1, h2⟩ | ⟨ps, r, hr, h1, h2⟩⟩ := h.dict ex
  · exact ⟨a, rfl, .inl ⟨ps, h1⟩⟩
  · exact ⟨a, rfl, .inr ⟨ps, h1⟩⟩
theorem dref_settle (x : Out) (ρ : Rho) : deref (settle x) ρ = deref x ρ := by cases x <;> rfl
theorem dictD_some {d : D} {kvs : List (D × D)} (h : dictD d = some kvs) : d = .dict kvs := by
  unfold dictD at h
  split at h
  · cases h
    rfl
  · cases h
theorem bind_dict {x : Out} {ρ : Rho} {kvs : List (D × D)} (h : (deref x ρ).bind dictD = some kvs) : deref (settle x) ρ = some (.dict kvs) := by
  rw [dref_settle]
  cases q : deref x ρ with
  | none =>
    rw [q] at h
    cases h
  | some d =>
    rw [q] at h
    rw [dictD_some (show dictD d = some kvs from h)]
theorem Hit.getD {S : Hp} {o : Option D} {w : Option V} {z : D} {y : V} (h : Hit S o w) (hz : Rp S y z) : Rp S (w.getD y) (o.getD z) := by
  cases o <;> cases w <;> first | exact hz | exact h | exact h.elim
theorem dl_dget1 {apos : Pos} (hu : X.A.units + 1 < cLine) (ha : PE X a (tE p W ia)) (hb : PE X b (tE p W ib)) (m : M1 X a "get" apos b pos := by exact ⟨rfl, rfl, rfl, rfl⟩) : PE X (.Call (.Attribute a "get" apos) [b] [] pos) (tE p W (.dget1 ia ib)) := by
  refine PE.of (pe_dget1 hu ha hb m) fun σ H Q h => ?_
  obtain ⟨Γ, S, ρ, s, h⟩ := h
  rw [ev] at h
  refine go_E s h fun x S1 ρ1 H1 v e1 s1 hv h1 => ?_
  obtain ⟨kvs, hk, h2⟩ := h1.opt
  obtain ⟨a, rfl, hd⟩ := isD_of s1.sub (top_of s1 hv (bind_dict hk))
  refine ⟨a, rfl, hd, ?_⟩
  refine go_E s1 h2 fun y S2 ρ2 H2 u e2 s2 hu h2 => ?_
  obtain ⟨dd, hd, h3⟩ := h2.dref
  obtain ⟨kd, hk, h4⟩ := h3.dref
  obtain ⟨o, ho, h5⟩ := h4.opt
  obtain ⟨a', w, hw, g, hit⟩ := look_go s2.sub (top_of s2 (hv.mono e2) hd) (top_of s2 hu hk) ho
  cases hw
  exact ⟨w, g, fin_fz s2 h5 (hit.getD .non)⟩
theorem dl_dget2 {c : Expr} {ic : E} {apos : Pos} (hu : X.A.units + 1 < cLine) (ha : PE X a (tE p W ia)) (hb : PE X b (tE p W ib)) (hc : PE X c (tE p W ic)) (m : M2 X a "get" apos b c pos := by exact ⟨rfl, rfl, rfl, rfl⟩) : PE X (.Call (.Attribute a "get" apos) [b, c] [] pos) (tE p W (.dget2 ia ib ic)) := by
  refine PE.of (pe_dget2 hu ha hb hc m) fun σ H Q h => ?_
  obtain ⟨Γ, S, ρ, s, h⟩ := h
  rw [ev] at h
  refine go_E s h fun x S1 ρ1 H1 v e1 s1 hv h1 => ?_
  obtain ⟨kvs, hk, h2⟩ := h1.opt
  obtain ⟨a, rfl, hd⟩ := isD_of s1.sub (top_of s1 hv (bind_dict hk))
  refine ⟨a, rfl, hd, ?_⟩
  refine go_E s1 h2 fun y S2 ρ2 H2 u e2 s2 hu h2 => go_E s2 h2 fun z S3 ρ3 H3 w e3 s3 hw h3 => ?_
  obtain ⟨zd, S4, ρ4, e4, s4, rp, _, h4⟩ := esc_of s3 hw h3
  obtain ⟨dd, hd, h5⟩ := h4.dref
  obtain ⟨kd, hk, h6⟩ := h5.dref
  obtain ⟨o, ho, h7⟩ := h6.opt
  obtain ⟨a', w', hw', g, hit⟩ := look_go s4.sub (top_of s4 (hv.mono (e2.trans (e3.trans e4))) hd) (top_of s4 (hu.mono (e3.trans e4)) hk) ho
  cases hw'
  exact ⟨w', g, fin_fz s4 h7 (hit.getD rp)⟩
end
/-! ### a display of one pair -/
def tDisp1T (tk tv : TE) : TE := fun σ H Q => ∀ p, H p = none → tk σ (upd H p (.dT [])) fun x H1 => tv σ H1 fun y H2 => H2 p = some (.dT []) ∧ ∃ b K, x = .ref b ∧ H2 b = some (.tup (K.map kV)) ∧ Q (.ref p) (upd H2 p (.dT [(K, y)]))
theorem pe_disp1T {X : Cx} {pos : Pos} {k v : Expr} {tk tv : TE} (hu : X.A.units + 1 < cLine) (hk : PE X k tk) (hv : PE X v tv) : PE X (.Dict [some k] [v] pos) (tDisp1T tk tv) := by
  refine ⟨fun pins s σ H Q I q => ?_⟩
  have hn := I.hok.fresh (Nat.le_refl s.heap.objs.size)
  have I1 := I.laid (a := s.heap.objs.size) (o := .dT []) (h' := s.heap.push { cls := .type "dict", data := .dict #[] }) (t' := s.toks) (fun _ _ q => Heap.get?_push_of_some _ q) (Nat.le_refl _) (dt_empty s.heap I.big)
  have hz := zip_pairTrees [some k] [v] X.env pos rfl rfl
  have hl := pairTrees_length [some k] [v] X.env pos rfl rfl
  rw [arm_eval_Dict, hz, dictDisplay_pairs _ (by intro z; rw [z] at hl; cases hl) (by rw [hl]; exact (by decide : (1 : Nat) < 17))]
  refine wpAny_bind (wpAny_standAt (wpAny_bind (wpAny_subDictH (knd := tupleKind (mixKind X.prog X.w)) (Q := fun d s' => wpAny (model X.prog X.w) X.A (pure (Value.ref d)) (EP X pins σ Q) X.xe s') (by show X.A.units < cLine; omega) (by rw [hl]; exact (by decide : (1 : Nat) ≤ 15)) ?_)))
  refine thn ((pps_cons (pos := pos) hk hv pps_nil).run pins _ σ _ (fun ps H2 => match ps with
    | [(x, y)] => H2 s.heap.objs.size = some (.dT []) ∧ ∃ b K, x = V.ref b ∧ H2 b = some (.tup (K.map kV)) ∧ Q (.ref s.heap.objs.size) (upd H2 s.heap.objs.size (.dT [(K, y)]))
    | _ => False) I1 (q _ hn)) fun ws s2 hx => ?_
  obtain ⟨ps, H2, I2, rel, hq⟩ := hx
  split at hq
  · obtain ⟨e, b, K, rfl, hb, q2⟩ := hq
    cases rel with
    | cons r1 r2 =>
      cases r2
      rename_i y w
      obtain ⟨w1, w2⟩ := w
      obtain ⟨ra, rb⟩ := r1
      have ra : w1 = Value.ref b := ra
      subst ra
      obtain ⟨z, hd, ys, rel, dd⟩ := dt_of I2.hok e
      cases rel
      refine ⟨[(K, b, w2)], ⟨rfl, rfl, key_of I2.hok hb, trivial⟩, dd, fun h' tk dd' hs => wpAny_pure ?_⟩
      have dd2 : h'.DictOfH (tupleKind (mixKind X.prog X.w)) s.heap.objs.size [(K, b, w2)] := dd'
      obtain ⟨o, es, ep, hq, h2, h3, h4, _, h5⟩ := dd2
      refine ⟨.ref s.heap.objs.size, _, d_write (ob := .dT [(K, y)]) I2 (by rw [e]; exact True.intro) hs ⟨o, hq⟩ ⟨by show 1 ≤ sizeLine; decide, hd, [(K, b, w2)], ?_, o, es, ep, hq, h2, h3, h4, h5⟩, rfl, q2⟩
      refine .cons ⟨rfl, ?_, rb⟩ .nil
      rw [upd_ne (ne_of hb e (fun z => nomatch z))]
      exact hb
  · exact hq.elim
section
variable {p : Par} {W : WX} {X : Cx} {a b e : Expr} {es : List Expr} {ia ib ie : E} {ies : List E} {pos : Pos}
/-- a kept object of ours is handed on as something new -/
theorem fin_kept {Γ : Gam} {S : Hp} {ρ : Rho} {σ : St} {H : Hp} {a : Addr} {o o' : HO} {d : D} {Q : VK} (s : Sat (Γ.keep a o) S ρ σ H) (h0 : Γ.H0 a = none) (hF : ∀ u, (a, u) ∉ Γ.F) (ho : Own S o' d) (h : Aft p W Γ S σ (.ok (.fresh d) ρ) (POk Γ σ Q)) : Q (.ref a) (upd H a o') := by
  obtain ⟨s', k⟩ := (s.turn (o' := o') ho.notTup hF h0).unkeep
  exact h.at_ (Ex.refl S) s' a o' upd_same ho k.s h0 k.bare k.nopin hF
/-- readings do not ask what is kept -/
theorem Aft.keep {α : Type} {Γ : Gam} {S : Hp} {σ : St} {r : R α} {a : Addr} {o : HO} {k : α → Hp → Rho → Hp → Prop} (h : Aft p W Γ S σ r k) : Aft p W (Γ.keep a o) S σ r k := by
  cases r with
  | bad => exact h
  | exc x ρ' => exact fun S1 H1 e1 s1 => h S1 H1 e1 s1.unkeep.1
  | ok a ρ' => exact fun S1 H1 e1 s1 => h S1 H1 e1 s1.unkeep.1
theorem go_Ek {β : Type} {e : E} {Q : VK} {f : Out → Rho → R β} {k : β → Hp → Rho → Hp → Prop} {Γ : Gam} {S : Hp} {ρ : Rho} {σ : St} {H : Hp} {q : Addr} {u : HO} (s : Sat (Γ.keep q u) S ρ σ H) (h : Aft p W Γ S σ (((ev p.c.cal e).P ρ).bind f) k)
    (cont : ∀ o S1 ρ1 H1 v, Ex S S1 → Sat (Γ.keep q u) S1 ρ1 σ H1 → OutV S1 σ (settle o) v → Aft p W Γ S1 σ (f o ρ1) k → Q v H1) : tE p W e σ H Q :=
  ⟨Γ.keep q u, S, ρ, s, (Aft.keep (Aft.bind h)).mono fun o S1 ρ1 H1 ex s1 ha => Pout.settle s1 fun S2 e2 s2 v hv => cont o S2 ρ1 H1 v (ex.trans e2) s2 hv (ha.weak e2)⟩
theorem dl_dsp1T {k v : Expr} {ik iv : E} (hu : X.A.units + 1 < cLine) (hk : PE X k (tE p W ik)) (hv : PE X v (tE p W iv)) : PE X (.Dict [some k] [v] pos) (tE p W (.dsp1 true ik iv)) := by
  refine PE.of (pe_disp1T hu hk hv) fun σ H Q h => ?_
  obtain ⟨Γ, S, ρ, s, h⟩ := h
  rw [ev] at h
  intro q hq
  have s0 : Sat (Γ.keep q (.dT [])) S ρ σ (upd H q (.dT [])) := (s.newOb hq).keep ⟨upd_same, s.sub.none hq, Bare.of_none s hq, s.noPin hq, fun _ z => by cases z⟩
  have h0 := s.h0none hq
  have hF := s.noKept hq
  refine go_Ek s0 h fun x S1 ρ1 H1 v e1 s1 hv h1 => ?_
  obtain ⟨kd, S2, ρ2, ex2, s2, rk, _, h2⟩ := esc_of s1 hv h1
  refine go_Ek s2 h2 fun y S3 ρ3 H3 u e3 s3 hu h3 => ?_
  obtain ⟨vd, S4, ρ4, ex4, s4, rv, _, h4⟩ := esc_of s3 hu h3
  simp only [↓reduceIte] at h4
  split at h4
  · rename_i hkd
    obtain ⟨K, rfl⟩ := keyT_of hkd
    have rk4 := rk.mono (e3.trans ex4)
    cases rk4 with
    | tup h5 h6 =>
      have h7 := keys_V h6
      subst h7
      exact ⟨s4.unkeep.2.ob, _, K, rfl, s4.sub _ _ h5, fin_kept s4 h0 hF (.dT (.cons rv .nil)) h4⟩
  · exact h4.elim
theorem dl_dsp1K {k v : Expr} {ik iv : E} (hk : PE X k (tE p W ik)) (hv : PE X v (tE p W iv)) : PE X (.Dict [some k] [v] pos) (tE p W (.dsp1 false ik iv)) := by
  refine PE.of (pe_disp (pps_cons hk hv pps_nil) rfl rfl (by intro z; cases z) (by exact (by decide : (1 : Nat) ≤ 15))) fun σ H Q h => ?_
  obtain ⟨Γ, S, ρ, s, h⟩ := h
  rw [ev] at h
  intro q hq
  have s0 : Sat (Γ.keep q (.dK [])) S ρ σ (upd H q (.dK [])) := (s.newOb hq).keep ⟨upd_same, s.sub.none hq, Bare.of_none s hq, s.noPin hq, fun _ z => by cases z⟩
  have h0 := s.h0none hq
  have hF := s.noKept hq
  refine go_Ek s0 h fun x S1 ρ1 H1 v e1 s1 hv h1 => ?_
  obtain ⟨kd, S2, ρ2, ex2, s2, rk, _, h2⟩ := esc_of s1 hv h1
  refine go_Ek s2 h2 fun y S3 ρ3 H3 u e3 s3 hu h3 => ?_
  obtain ⟨vd, S4, ρ4, ex4, s4, rv, _, h4⟩ := esc_of s3 hu h3
  simp only [Bool.false_eq_true, ↓reduceIte] at h4
  split at h4
  · rename_i hkd
    obtain ⟨K, rfl⟩ := key1_of hkd
    have h5 := key1_V (rk.mono (e3.trans ex4))
    subst h5
    exact ⟨s4.unkeep.2.ob, [(K, u)], rfl, (by exact (by decide : (1 : Nat) ≤ 15)), fin_kept s4 h0 hF (.dK (.cons rv .nil)) h4⟩
  · exact h4.elim
/-! d[k] = e -/
end
end DL
end

section
set_option Elab.async false
set_option linter.all false
set_option maxRecDepth 100000
set_option autoImplicit false
namespace DL
open PySem PySem.W L2
section
variable {p : Par} {W : WX} {Γ : Gam} {S S' : Hp} {ρ ρ' : Rho} {σ : St} {H : Hp} {α β : Type}
/-- .. of a statement: the slots change, too -/
def AftS (p : Par) (W : WX) (Γ : Gam) (S : Hp) {α : Type} (r : R α) (k : α → Hp → Rho → St → Hp → Prop) : Prop := match r with
  | .bad => False
  | .exc x ρ' => ∀ S' σ' H', Ex S S' → Sat Γ S' ρ' σ' H' → W (.ref (p.cl x)) none σ' H'
  | .ok a ρ' => ∀ S' σ' H', Ex S S' → Sat Γ S' ρ' σ' H' → k a S' ρ' σ' H'
theorem AftS.weak {r : R α} {k : α → Hp → Rho → St → Hp → Prop} (e : Ex S S') (h : AftS p W Γ S r k) : AftS p W Γ S' r k := by
  cases r with
  | bad => exact h
  | exc x ρ' => exact fun S1 σ1 H1 e1 s1 => h S1 σ1 H1 (e.trans e1) s1
  | ok a ρ' => exact fun S1 σ1 H1 e1 s1 => h S1 σ1 H1 (e.trans e1) s1
theorem AftS.mono {r : R α} {k k' : α → Hp → Rho → St → Hp → Prop} (h : AftS p W Γ S r k) (f : ∀ a S' ρ' σ' H', Ex S S' → Sat Γ S' ρ' σ' H' → k a S' ρ' σ' H' → k' a S' ρ' σ' H') : AftS p W Γ S r k' := by
  cases r with
  | bad => exact h
  | exc x ρ' => exact h
  | ok a ρ' => exact fun S1 σ1 H1 e1 s1 => f _ _ _ _ _ e1 s1 (h S1 σ1 H1 e1 s1)
theorem AftS.toA {r : R α} {f : α → Rho → R β} {k : β → Hp → Rho → St → Hp → Prop} (h : AftS p W Γ S (r.bind f) k) : Aft p W Γ S σ r (fun a S1 ρ1 _ => AftS p W Γ S1 (f a ρ1) k) := by
  cases r with
  | bad => exact h
  | exc x ρ' => exact fun S1 H1 e1 s1 => h S1 σ H1 e1 s1
  | ok a ρ' => exact fun S1 H1 e1 s1 => AftS.weak e1 h
theorem AftS.opt {o : Option α} {f : α → Rho → R β} {k : β → Hp → Rho → St → Hp → Prop} (h : AftS p W Γ S ((R.opt o ρ).bind f) k) : ∃ a, o = some a ∧ AftS p W Γ S (f a ρ) k := by
  cases o with
  | none => exact h.elim
  | some a => exact ⟨a, rfl, h⟩
theorem AftS.dref {o : Out} {f : D → Rho → R β} {k : β → Hp → Rho → St → Hp → Prop} (h : AftS p W Γ S ((derefR o ρ).bind f) k) : ∃ d, deref o ρ = some d ∧ AftS p W Γ S (f d ρ) k := AftS.opt h
theorem AftS.now {a : α} {k : α → Hp → Rho → St → Hp → Prop} (h : AftS p W Γ S (.ok a ρ) k) (s : Sat Γ S ρ σ H) : k a S ρ σ H := h S σ H (Ex.refl S) s
theorem go_ES {e : E} {Q : VK} {f : Out → Rho → R β} {k : β → Hp → Rho → St → Hp → Prop} (s : Sat Γ S ρ σ H) (h : AftS p W Γ S (((ev p.c.cal e).P ρ).bind f) k)
    (cont : ∀ o S1 ρ1 H1, Ex S S1 → Sat Γ S1 ρ1 σ H1 → AftS p W Γ S1 (f o ρ1) k → Pout Γ S1 ρ1 σ H1 o Q) : tE p W e σ H Q :=
  ⟨Γ, S, ρ, s, h.toA.mono fun o S1 ρ1 H1 ex s1 ha => cont o S1 ρ1 H1 ex s1 ha⟩
theorem go_ESv {e : E} {Q : VK} {f : Out → Rho → R β} {k : β → Hp → Rho → St → Hp → Prop} (s : Sat Γ S ρ σ H) (h : AftS p W Γ S (((ev p.c.cal e).P ρ).bind f) k)
    (cont : ∀ o S1 ρ1 H1 v, Ex S S1 → Sat Γ S1 ρ1 σ H1 → OutV S1 σ (settle o) v → AftS p W Γ S1 (f o ρ1) k → Q v H1) : tE p W e σ H Q :=
  go_ES s h fun o S1 ρ1 H1 ex s1 ha => Pout.settle s1 fun S2 e2 s2 v hv => cont o S2 ρ1 H1 v (ex.trans e2) s2 hv (ha.weak e2)
theorem go_TS {e : E} {Q : Bool → Hp → Prop} {f : Bool → Rho → R β} {k : β → Hp → Rho → St → Hp → Prop} (s : Sat Γ S ρ σ H) (h : AftS p W Γ S (((ev p.c.cal e).T ρ).bind f) k)
    (cont : ∀ b S1 ρ1 H1, Ex S S1 → Sat Γ S1 ρ1 σ H1 → AftS p W Γ S1 (f b ρ1) k → Q b H1) : tT p W e σ H Q :=
  ⟨Γ, S, ρ, s, h.toA.mono fun b S1 ρ1 H1 ex s1 ha => cont b S1 ρ1 H1 ex s1 ha⟩
theorem go_XS {es : List E} {Q : List V → Hp → Prop} {f : List D → Rho → R β} {k : β → Hp → Rho → St → Hp → Prop} (s : Sat Γ S ρ σ H) (h : AftS p W Γ S ((evX p.c.cal es ρ).bind f) k)
    (cont : ∀ ds S1 ρ1 H1 vs, Ex S S1 → Sat Γ S1 ρ1 σ H1 → RpL S1 vs ds → AftS p W Γ S1 (f ds ρ1) k → Q vs H1) : tXs p W es σ H Q :=
  ⟨Γ, S, ρ, s, h.toA.mono fun ds S1 ρ1 H1 ex s1 ha => fun vs hv => cont ds S1 ρ1 H1 vs ex s1 hv ha⟩
theorem go_AS {es : List E} {Q : List V → Hp → Prop} {f : List Out → Rho → R β} {k : β → Hp → Rho → St → Hp → Prop} (s : Sat Γ S ρ σ H) (h : AftS p W Γ S ((evA p.c.cal es ρ).bind f) k)
    (cont : ∀ os S1 ρ1 H1 vs, Ex S S1 → Sat Γ S1 ρ1 σ H1 → OutVs S1 σ os vs → AftS p W Γ S1 (f os ρ1) k → Q vs H1) : tAr p W es σ H Q :=
  ⟨Γ, S, ρ, s, h.toA.mono fun os S1 ρ1 H1 ex s1 ha => fun vs hv => cont os S1 ρ1 H1 vs ex s1 hv ha⟩
theorem Pout.mono {o : Out} {Q Q' : VK} (h : Pout Γ S ρ σ H o Q) (f : ∀ v, Q v H → Q' v H) : Pout Γ S ρ σ H o Q' := by
  cases o with
  | fz d => exact fun v hv => f v (h v hv)
  | slot i => exact fun v hv => f v (h v hv)
  | fresh d => exact fun a ob h1 h2 h3 h4 h5 h6 h7 => f _ (h a ob h1 h2 h3 h4 h5 h6 h7)
theorem escS {o : Out} {v : V} {f : D → Rho → R β} {k : β → Hp → Rho → St → Hp → Prop} (s : Sat Γ S ρ σ H) (hv : OutV S σ o v) (h : AftS p W Γ S ((esc o ρ).bind f) k) :
    ∃ d S' ρ', Ex S S' ∧ Sat Γ S' ρ' σ H ∧ Rp S' v d ∧ AftS p W Γ S' (f d ρ') k := by
  obtain ⟨d, S', ρ', ex, s', rp, e, _⟩ := esc_of (k := fun _ _ _ _ => True) (f := fun d ρ => (R.ok () ρ)) (p := p) (W := W) (Δ := Γ) s hv (by
    cases z : esc o ρ with
    | bad =>
      rw [z] at h
      exact h.elim
    | exc x ρ' =>
      cases o with
      | fz d => cases z
      | fresh d => cases z
      | slot i =>
        unfold esc at z
        cases y : ρ[i]? with
        | none =>
          simp only [y] at z
          cases z
        | some q =>
          simp only [y] at z
          cases q <;> cases z
    | ok d ρ' => exact fun _ _ _ _ => trivial)
  rw [e] at h
  exact ⟨d, S', ρ', ex, s', rp, AftS.weak ex h⟩
/-! ### slots take values -/
theorem setS_ok {i : Nat} {y : Sl} {v : V} {f : Unit → Rho → R β} {k : β → Hp → Rho → St → Hp → Prop} (s : Sat Γ S ρ σ H) (h : AftS p W Γ S ((setS i y ρ).bind f) k) (hy : (σ.set i (some v))[i]? = some (some v) → SlOk Γ S H (σ.set i (some v)) i y)
    (hb : ∀ d a, y = .ow d → some v = some (V.ref a) → Bare ρ σ a ∧ (∀ j q, (j, a, q) ∉ Γ.L) ∧ ∀ u, (a, u) ∉ Γ.F) : Sat Γ S (ρ.set i y) (σ.set i (some v)) H ∧ AftS p W Γ S (f () (ρ.set i y)) k := by
  unfold setS at h
  cases z : ρ[i]? with
  | none =>
    simp only [z] at h
    exact h.elim
  | some x =>
    have hi : i < σ.length := by
      rw [← s.len]
      exact (List.getElem?_eq_some_iff.mp z).1
    have hx : (∀ d, x ≠ .lent d) ∧ (∀ d, x ≠ .io d) ∧ AftS p W Γ S (f () (ρ.set i y)) k := by
      cases x with
      | lent d =>
        simp only [z] at h
        exact h.elim
      | io d =>
        simp only [z] at h
        exact h.elim
      | no =>
        simp only [z] at h
        exact ⟨nofun, nofun, h⟩
      | fz d =>
        simp only [z] at h
        exact ⟨nofun, nofun, h⟩
      | ow d =>
        simp only [z] at h
        exact ⟨nofun, nofun, h⟩
    refine ⟨s.put z hx.1 hx.2.1 (hy ?_) (fun d a e1 e2 => hb d a e1 e2), hx.2.2⟩
    rw [List.getElem?_set_self hi]
theorem setF_ok {i : Nat} {d : D} {v : V} {f : Unit → Rho → R β} {k : β → Hp → Rho → St → Hp → Prop} (s : Sat Γ S ρ σ H) (hv : Rp S v d) (h : AftS p W Γ S ((setS i (.fz d) ρ).bind f) k) :
    Sat Γ S (ρ.set i (.fz d)) (σ.set i (some v)) H ∧ AftS p W Γ S (f () (ρ.set i (.fz d))) k :=
  setS_ok s h (fun e => .fz e hv) fun d a e => by cases e
theorem setO_ok {i : Nat} {o : Out} {f : Unit → Rho → R β} {k : β → Hp → Rho → St → Hp → Prop} (s : Sat Γ S ρ σ H) (h : AftS p W Γ S ((setO i o ρ).bind f) k) :
    Pout Γ S ρ σ H o (fun v H1 => ∃ S1 ρ1, Sat Γ S1 ρ1 (σ.set i (some v)) H1 ∧ AftS p W Γ S1 (f () ρ1) k) := by
  have assoc : ∀ (o : Out), AftS p W Γ S (((esc o ρ).bind fun d ρ' => setS i (.fz d) ρ').bind f) k → AftS p W Γ S ((esc o ρ).bind fun d ρ' => (setS i (.fz d) ρ').bind f) k := fun o h => by
    cases e : esc o ρ with
    | bad => rw [e] at h; exact h
    | exc x r => rw [e] at h; exact h
    | ok d r => rw [e] at h; exact h
  cases o with
  | fz d =>
    intro v hv
    obtain ⟨s1, h1⟩ := setF_ok s hv h
    exact ⟨S, _, s1, h1⟩
  | slot j =>
    intro v hv
    obtain ⟨d, S1, ρ1, ex, s1, rp, h1⟩ := escS (o := .slot j) s hv (assoc (.slot j) h)
    obtain ⟨s2, h2⟩ := setF_ok s1 rp h1
    exact ⟨S1, _, s2, h2⟩
  | fresh d =>
    intro a ob h1 h2 h3 h4 h5 h6 h7
    obtain ⟨s1, h1⟩ := setS_ok (v := .ref a) (y := .ow d) s h (fun e => .ow e h1 h2 h3 h4) fun d' b _ e => by
      cases e
      exact ⟨h5, h6, h7⟩
    exact ⟨S, _, s1, h1⟩
def gNames : List Nat → TGs
  | [] => gNil
  | i :: is => gCons (gName i) (gNames is)
theorem setAll_ok {f : Unit → Rho → R β} {k : β → Hp → Rho → St → Hp → Prop} : ∀ {is : List Nat} {ds : List D} {vs : List V} {ρ : Rho} {σ : St}, Sat Γ S ρ σ H → RpL S vs ds → AftS p W Γ S ((setAll is ds ρ).bind f) k →
    gNames is vs σ H (fun σ1 H1 => ∃ ρ1, Sat Γ S ρ1 σ1 H1 ∧ AftS p W Γ S (f () ρ1) k)
  | [], [], vs, ρ, σ, s, hv, h => by
    cases hv
    exact ⟨rfl, ρ, s, h⟩
  | [], d :: ds, vs, ρ, σ, s, hv, h => h.elim
  | i :: is, [], vs, ρ, σ, s, hv, h => h.elim
  | i :: is, d :: ds, vs, ρ, σ, s, hv, h => by
    cases hv with
    | cons h1 h2 =>
      rename_i v vs
      have h' : AftS p W Γ S ((setS i (.fz d) ρ).bind fun _ ρ' => (setAll is ds ρ').bind f) k := by
        unfold setAll at h
        cases e : setS i (.fz d) ρ with
        | bad => rw [e] at h; exact h
        | exc x r => rw [e] at h; exact h
        | ok d r => rw [e] at h; exact h
      obtain ⟨s1, q1⟩ := setF_ok s h1 h'
      exact ⟨v, vs, rfl, setAll_ok s1 h2 q1⟩
/-! ### the readings -/
def kD (Γ : Gam) (D : Ends) : Fl → Hp → Rho → St → Hp → Prop
  | .next, _, _, σ, H => D.nx σ H
  | .brk, _, _, σ, H => D.bk σ H
  | .cont, _, _, σ, H => D.ct σ H
  | .ret fr d, S, ρ, σ, H => Pout Γ S ρ σ H (retD fr d) D.rt
def tS (p : Par) (W : WX) (st : DL.S) : TS := fun D σ H => ∃ Γ S ρ, Sat Γ S ρ σ H ∧ AftS p W Γ S (exec p.c st ρ) (kD Γ D)
def tSs (p : Par) (W : WX) (sts : List DL.S) : TS := fun D σ H => ∃ Γ S ρ, Sat Γ S ρ σ H ∧ AftS p W Γ S (execs p.c sts ρ) (kD Γ D)
end
section
variable {X : Cx} {p : Par} {W : WX} {pos pos' : Pos}
theorem dss_nil : PSs X [] (tSs p W []) := PSs.of pss_nil fun D σ H ⟨Γ, S, ρ, s, h⟩ => AftS.now h s
theorem dss_cons {st : Stmt} {sts : List Stmt} {x : DL.S} {xs : List DL.S} (h1 : PS X st (tS p W x)) (h2 : PSs X sts (tSs p W xs)) : PSs X (st :: sts) (tSs p W (x :: xs)) := PSs.of (pss_cons h1 h2) fun D σ H ⟨Γ, S, ρ, s, h⟩ => by
  refine ⟨Γ, S, ρ, s, ?_⟩
  unfold execs at h
  cases e : exec p.c x ρ with
  | bad => rw [e] at h; exact h
  | exc c r => rw [e] at h; exact h
  | ok f r =>
    rw [e] at h
    cases f with
    | next => exact fun S' σ' H' ex s' => ⟨Γ, S', r, s', h.weak ex⟩
    | brk => exact h
    | cont => exact h
    | ret fr d => exact h
theorem dls_pass : PS X (.Pass pos) (tS p W .pass) := PS.of ps_pass fun D σ H ⟨Γ, S, ρ, s, h⟩ => AftS.now h s
theorem dls_brk : PS X (.Break pos) (tS p W .brk) := PS.of ps_break fun D σ H ⟨Γ, S, ρ, s, h⟩ => AftS.now h s
theorem dls_cont : PS X (.Continue pos) (tS p W .cont) := PS.of ps_continue fun D σ H ⟨Γ, S, ρ, s, h⟩ => AftS.now h s
theorem dls_retN : PS X (.Return none pos) (tS p W .retN) := PS.of ps_retN fun D σ H ⟨Γ, S, ρ, s, h⟩ => by
  have z := AftS.now h s
  exact z .non .non
theorem dls_expr {e : Expr} {e' : E} (he : PE X e (tE p W e')) (hs : swapsWith e none pos.line X.env = pure false := by rfl) : PS X (.Expr e pos) (tS p W (.expr e')) := PS.of (ps_expr he hs) fun D σ H ⟨Γ, S, ρ, s, h⟩ => by
  unfold exec at h
  exact go_ESv s h fun o S1 ρ1 H1 v ex s1 hv h1 => h1.now s1
theorem dls_if {c : Expr} {a b : List Stmt} {c' : E} {a' b' : List DL.S} (hc : PT X c (tT p W c')) (ha : PSs X a (tSs p W a')) (hb : PSs X b (tSs p W b')) : PS X (.If c a b pos) (tS p W (.ifS c' a' b')) := PS.of (ps_if hc ha hb) fun D σ H ⟨Γ, S, ρ, s, h⟩ => by
  unfold exec at h
  refine go_TS s h fun k S1 ρ1 H1 ex s1 h1 => ?_
  cases k with
  | true => exact ⟨Γ, S1, ρ1, s1, h1⟩
  | false => exact ⟨Γ, S1, ρ1, s1, h1⟩
theorem dls_asgN {i : Nat} {x : Str} {e : Expr} {e' : E} (hN : X.N.Nodup) (hi : X.N[i]? = some x) (hx : Loc X.env.scope x) (he : PE X e (tE p W e')) (hs : swapsWith e (some (.Name x pos')) pos.line X.env = pure false := by rfl) (hf : X.fn x = true ∨ X.env.scope.names.lookup x = some .local := by first | exact .inl rfl | exact .inr rfl | assumption) :
    PS X (.Assign [.Name x pos'] e pos) (tS p W (.asg (.nm i) e')) := PS.of (ps_set hN hi hx he hs hf) fun D σ H ⟨Γ, S, ρ, s, h⟩ => by
  unfold exec at h
  exact go_ES s h fun o S1 ρ1 H1 ex s1 h1 => (setO_ok s1 h1).mono fun v ⟨S2, ρ2, s2, h2⟩ => h2.now s2
/-- names of a tuple target -/
inductive Nms (X : Cx) : List Expr → List Nat → Prop
  | nil : Nms X [] []
  | cons {x : Str} {i : Nat} {es : List Expr} {is : List Nat} {q : Pos} : X.N[i]? = some x → Loc X.env.scope x → (X.fn x = true ∨ X.env.scope.names.lookup x = some .local) → (assignEach (.Name x q :: es) X.env).map (·.2) = assign (.Name x q) X.env :: (assignEach es X.env).map (·.2) → Nms X es is → Nms X (.Name x q :: es) (i :: is)
theorem pgs_names (hN : X.N.Nodup) {es : List Expr} {is : List Nat} (h : Nms X es is) : PGs X es (gNames is) := by
  induction h with
  | nil => exact pgs_nil
  | cons h1 h2 h3 h4 _ ih => exact pgs_cons (pg_name hN h1 h2 h3) ih h4
theorem setAll_len : ∀ {is : List Nat} {ds : List D} {ρ : Rho} {β : Type} {f : Unit → Rho → R β}, (setAll is ds ρ).bind f ≠ .bad → ds.length = is.length
  | [], [], _, _, _, _ => rfl
  | [], _ :: _, _, _, _, h => absurd rfl h
  | _ :: _, [], _, _, _, h => absurd rfl h
  | i :: is, d :: ds, ρ, β, f, h => by
    unfold setAll at h
    cases e : setS i (.fz d) ρ with
    | bad =>
      rw [e] at h
      exact absurd rfl h
    | exc c r =>
      unfold setS at e
      cases z : ρ[i]? with
      | none => simp only [z] at e; cases e
      | some x => cases x <;> (simp only [z] at e; cases e)
    | ok u r =>
      rw [e] at h
      rw [List.length_cons, List.length_cons, setAll_len h]
theorem AftS.nb {Γ : Gam} {S : Hp} {α : Type} {r : R α} {k : α → Hp → Rho → St → Hp → Prop} (h : AftS p W Γ S r k) : r ≠ .bad := fun e => by
  subst e
  exact h
theorem tup_slots {K : PySem.W.Frag} {Γ : Gam} {S : Hp} {ρ : Rho} {σ : St} {H : Hp} {β : Type} {f : Unit → Rho → R β} {k : β → Hp → Rho → St → Hp → Prop} {is : List Nat} {v : V} {d : D} {Q : St → Hp → Prop} {T : List D → R β} (s : Sat Γ S ρ σ H) (hv : Top S H v d)
    (h : AftS p W Γ S (match d with | .tuple ds => (setAll is ds ρ).bind f | _ => R.bad) k) (c : ∀ σ1 H1 ρ1, Sat Γ S ρ1 σ1 H1 → AftS p W Γ S (f () ρ1) k → Q σ1 H1) : gTup K is.length (gNames is) v σ H Q := by
  cases d with
  | tuple ds =>
    obtain ⟨a, vs, e, ha, hr⟩ := hv.tuple
    subst e
    refine ⟨a, vs, rfl, .inl (.inl (s.sub _ _ ha)), ?_, ?_⟩
    · rw [RpL.length hr]
      exact setAll_len h.nb
    · have mono : ∀ {is : List Nat} {vs : List V} {σ : St} {H : Hp} {Q Q' : St → Hp → Prop}, (∀ σ H, Q σ H → Q' σ H) → gNames is vs σ H Q → gNames is vs σ H Q' := by
        intro is
        induction is with
        | nil => exact fun g ⟨e, q⟩ => ⟨e, g _ _ q⟩
        | cons i is ih => exact fun g ⟨v, r, e, q⟩ => ⟨v, r, e, ih g q⟩
      exact mono (fun σ1 H1 ⟨ρ1, s1, h1⟩ => c σ1 H1 ρ1 s1 h1) (setAll_ok s hr h)
  | _ => exact h.elim
theorem dls_asgT {is : List Nat} {es : List Expr} {e : Expr} {e' : E} {kt : Nat} (hc : X.calm = true) (hN : X.N.Nodup) (hn : Nms X es is) (he : PE X e (tE p W e')) (hl : (assignEach es X.env).length = is.length := by rfl) (hst : (assignEach es X.env).findIdx? (·.1) = none := by rfl)
    (hs : swapsWithSole [.Tuple es kt pos'] e pos.line X.env = pure false := by rfl) (hw : swappedStores [.Tuple es kt pos'] e X.env = pure none := by rfl) (h1 : (assignEach [.Tuple es kt pos'] X.env).map (·.2) = [assign (.Tuple es kt pos') X.env] := by rfl) :
    PS X (.Assign [.Tuple es kt pos'] e pos) (tS p W (.asg (.tp is) e')) := PS.of (ps_asg he (pg_tup hc (pgs_names hN hn) hl hst) hs hw h1) fun D σ H ⟨Γ, S, ρ, s, h⟩ => by
  unfold exec at h
  refine go_ESv s h fun o S1 ρ1 H1 v ex s1 hv h1 => ?_
  unfold bindO at h1
  rw [← dref_settle] at h1
  cases z : deref (settle o) ρ1 with
  | none =>
    simp only [z] at h1
    exact h1.elim
  | some d =>
    simp only [z] at h1
    refine tup_slots (p := p) (W := W) (k := kD Γ D) (f := fun _ ρ2 => R.ok Fl.next ρ2) (T := fun _ => .bad) s1 (top_of s1 hv z) (d := d) ?_ fun σ2 H2 ρ2 s2 h2 => h2.now s2
    cases d <;> exact h1
/-- a, b = x, y -/
theorem dls_par {i j : Nat} {x y : Str} {a b : Expr} {es' : List E} {px py pt : Pos} {kt k2 pt2} (hc : X.calm = true) (hN : X.N.Nodup) (hi : X.N[i]? = some x) (hj : X.N[j]? = some y) (hij : i ≠ j)
    (hx : X.env.scope.names.lookup x = some .local) (hy : X.env.scope.names.lookup y = some .local) (ha : PA X [a, b] (tXs p W es'))
    (hw : swappedStores [.Tuple [.Name x px, .Name y py] kt pt] (.Tuple [a, b] k2 pt2) X.env = pure (some [x, y]))
    (hs : swapsWithSole [.Tuple [.Name x px, .Name y py] kt pt] (.Tuple [a, b] k2 pt2) pos.line X.env = pure false := by rfl) :
    PS X (.Assign [.Tuple [.Name x px, .Name y py] kt pt] (.Tuple [a, b] k2 pt2) pos) (tS p W (.par [i, j] es')) := PS.of (ps_par hc hN hi hj hij hx hy ha hw hs) fun D σ H ⟨Γ, S, ρ, s, h⟩ => by
  unfold exec at h
  refine go_XS s h fun ds S1 ρ1 H1 vs ex s1 hv h1 => ?_
  obtain ⟨v, r, e1, w, r2, e2, e3, ρ2, s2, h2⟩ := setAll_ok s1 hv h1
  subst e1
  subst e2
  subst e3
  exact ⟨v, w, rfl, h2.now s2⟩
theorem Sat.drop {Γ : Gam} {S : Hp} {ρ : Rho} {σ : St} {H : Hp} {i : Nat} {d : D} {a : Addr} (s : Sat Γ S ρ σ H) (h : ρ[i]? = some (.ow d)) (ha : σ[i]? = some (some (.ref a))) : Sat Γ S (ρ.set i .no) σ H ∧ Bare (ρ.set i .no) σ a := by
  have b : ∀ c, Bare ρ σ c → Bare (ρ.set i .no) σ c := fun c hb j e hj => by
    rcases get_set hj with ⟨_, z⟩ | ⟨_, z⟩
    · cases z
    · exact hb j e z
  refine ⟨⟨by rw [List.length_set]; exact s.len, s.sub, s.old, s.new, s.fr, fun j x e => ?_, fun j k e1 e2 c hjk q1 q2 => ?_, fun j c q e => ?_, s.dis, fun c u e => ?_⟩, fun j e hj => ?_⟩
  · rcases get_set e with ⟨_, z⟩ | ⟨_, z⟩
    · subst z
      exact .no
    · exact s.slot j x z
  · rcases get_set q1 with ⟨_, z⟩ | ⟨_, q1⟩
    · cases z
    · rcases get_set q2 with ⟨_, z⟩ | ⟨_, q2⟩
      · cases z
      · exact s.one j k e1 e2 c hjk q1 q2
  · obtain ⟨g1, g2, g3, g4, g5⟩ := s.pin j c q e
    have hij : i ≠ j := s.notPin h nofun nofun e
    exact ⟨g1, g2, b _ g3, fun o ho => ⟨(g4 o ho).1, by rw [List.getElem?_set_ne hij]; exact (g4 o ho).2⟩, fun ho => by rw [List.getElem?_set_ne hij]; exact g5 ho⟩
  · obtain ⟨k1, k2, k3, k4, k5⟩ := s.kept c u e
    exact ⟨k1, k2, b _ k3, k4, k5⟩
  · rcases get_set hj with ⟨_, z⟩ | ⟨z, q⟩
    · cases z
    · exact fun hc => s.one i j d e a z h q ha hc
/-- an owned slot's object is held by nobody else -/
theorem Sat.owFree {Γ : Gam} {S : Hp} {ρ : Rho} {σ : St} {H : Hp} {i : Nat} {d : D} {a : Addr} (s : Sat Γ S ρ σ H) (h : ρ[i]? = some (.ow d)) (ha : σ[i]? = some (some (.ref a))) : (∀ j q, (j, a, q) ∉ Γ.L) ∧ ∀ u, (a, u) ∉ Γ.F :=
  ⟨fun j q hj => (s.pin j a q hj).bare i d h ha, fun u hu => (s.kept a u hu).bare i d h ha⟩
theorem dls_ret {e : Expr} {e' : E} (he : PE X e (tE p W e')) : PS X (.Return (some e) pos) (tS p W (.ret e')) := PS.of (ps_ret he) fun D σ H ⟨Γ, S, ρ, s, h⟩ => by
  unfold exec at h
  refine go_ES s h fun o S1 ρ1 H1 ex s1 h1 => ?_
  cases o with
  | fz d => exact h1.now s1
  | fresh d => exact h1.now s1
  | slot i =>
    unfold retO at h1
    cases z : ρ1[i]? with
    | none =>
      simp only [z] at h1
      exact h1.elim
    | some x =>
      cases x with
      | ow d =>
        simp only [z] at h1
        obtain ⟨a, ob, k1, k2, k3, k4, k5⟩ := s1.ow_at z
        obtain ⟨s2, hb⟩ := s1.drop z k1
        have f := s1.owFree z k1
        intro v hv
        rw [k1] at hv
        cases hv
        exact h1.now s2 a ob k2 k3 k4 k5 hb f.1 f.2
      | _ =>
        simp only [z] at h1
        exact h1.elim
/-- raise X('..') -/
theorem dls_raise {x m : Str} {c : Nat} {j : Nat} {p1 p2 p3 : Pos} {B newId initId : String} {bmB : List Value} (hc : X.calm = true) (tk : Takes X W) (F : ExcBaseFacts B newId initId bmB) (q : PySem.W.excIn X.K (p.cl c) bmB newId = true) (gC : X.mg x = some (.ref (p.cl c)))
    (kC : PySem.W.keepIn X.K (.ref (p.cl c)) = true) (r : Raises X (.ref (p.cl c))) (hg : Gl X x) (hdb : (x == ("__debug__" : Str)) = false := by decide) :
    PS X (.Raise (some (.Call (.Name x p1) [.Constant (.str m) j p2] [] p3)) none pos) (tS p W (.raise c)) := PS.of (ps_raise hc tk (pmk_own F q gC kC r hg hdb)) fun D σ H ⟨Γ, S, ρ, s, h⟩ => h S σ H (Ex.refl S) s
/-- a[i] = e -/
theorem dls_setix {a i e : Expr} {a' i' e' : E} (ha : PE X a (tE p W a')) (hi : PE X i (tE p W i')) (he : PE X e (tE p W e'))
    (hs : swapsWithSole [.Subscript a i pos'] e pos.line X.env = pure false := by rfl) (hw : swappedStores [.Subscript a i pos'] e X.env = pure none := by rfl) (h1 : (assignEach [.Subscript a i pos'] X.env).map (·.2) = [assign (.Subscript a i pos') X.env] := by rfl)
    (hq : ∀ v, assign (.Subscript a i pos') X.env v = (do
      let ov ← holding [v] (eval a X.env)
      let iv ← holding [v, ov] (eval i X.env)
      standAt pos'
      holding [v, ov, iv] (setItem ov iv v)
      release [v, ov, iv] []) := by intro _; rfl) :
    PS X (.Assign [.Subscript a i pos'] e pos) (tS p W (.setix a' i' e')) := PS.of (ps_asg he (pg_sub ha hi set_list hq) hs hw h1) fun D σ H ⟨Γ, S, ρ, s, h⟩ => by
  unfold exec at h
  refine go_ESv s h fun y S1 ρ1 H1 v ex1 s1 hv h1 => ?_
  obtain ⟨d, S2, ρ2, ex2, s2, rd, h2⟩ := escS s1 hv h1
  refine go_ESv s2 h2 fun x S3 ρ3 H3 o ex3 s3 ho h3 => ?_
  cases x with
  | fz _ => exact h3.elim
  | fresh _ => exact h3.elim
  | slot j =>
    refine go_ESv s3 h3 fun z S4 ρ4 H4 iv ex4 s4 hiv h4 => ?_
    obtain ⟨zd, e4, h4⟩ := h4.dref
    obtain ⟨n, e5, h4⟩ := h4.opt
    have ti := top_of s4 hiv e4
    have rd4 : Rp S4 v d := rd.mono (ex3.trans ex4)
    have ho : σ[j]? = some (some o) := ho
    cases zd with
    | int n' =>
      cases e5
      have ei := ti.int
      subst ei
      cases q : ρ4[j]? with
      | none =>
        simp only [q] at h4
        exact h4.elim
      | some sl =>
        cases sl with
        | ow dd =>
          cases dd with
          | list xs =>
            simp only [q] at h4
            obtain ⟨_, e6, h4⟩ := h4.opt
            cases e6
            obtain ⟨k, ek, h4⟩ := h4.opt
            obtain ⟨b, ob, k1, k2, k3, _⟩ := s4.ow_at q
            rw [ho] at k1
            cases k1
            cases k3 with
            | lst r =>
              rename_i vs
              refine ⟨b, vs, n, k, rfl, rfl, k2, ?_, h4.now (s4.mutOw q ho (.lst (r.set rd4 k)))⟩
              rw [r.length]
              exact ek
          | _ =>
            simp only [q] at h4
            exact h4.elim
        | io dd =>
          cases dd with
          | list xs =>
            simp only [q] at h4
            obtain ⟨_, e6, h4⟩ := h4.opt
            cases e6
            obtain ⟨k, ek, h4⟩ := h4.opt
            obtain ⟨b, ob, k1, k2, k3, _⟩ := s4.io_at q
            rw [ho] at k1
            cases k1
            cases k3 with
            | lst r =>
              rename_i vs
              refine ⟨b, vs, n, k, rfl, rfl, k2, ?_, h4.now (s4.mutIo q ho (.lst (r.set rd4 k)))⟩
              rw [r.length]
              exact ek
          | _ =>
            simp only [q] at h4
            exact h4.elim
        | _ =>
          simp only [q] at h4
          exact h4.elim
    | _ => cases e5
/-- d[k] = e -/
theorem dls_dset {a i e : Expr} {a' i' e' : E} (hu : X.A.units + 1 < cLine) (ha : PE X a (tE p W a')) (hi : PE X i (tE p W i')) (he : PE X e (tE p W e')) (hs : swapsWith e (some (.Subscript a i pos')) pos.line X.env = pure false := by rfl) :
    PS X (.Assign [.Subscript a i pos'] e pos) (tS p W (.dset a' i' e')) := PS.of (ps_dput hu ha hi he hs) fun D σ H ⟨Γ, S, ρ, s, h⟩ => by
  unfold exec at h
  refine go_ESv s h fun y S1 ρ1 H1 v ex1 s1 hv h1 => ?_
  obtain ⟨d, S2, ρ2, ex2, s2, rd, h2⟩ := escS s1 hv h1
  refine go_ESv s2 h2 fun x S3 ρ3 H3 o ex3 s3 ho h3 => ?_
  cases x with
  | fz _ => exact h3.elim
  | fresh _ => exact h3.elim
  | slot j =>
    refine go_ESv s3 h3 fun z S4 ρ4 H4 kv ex4 s4 hkv h4 => ?_
    obtain ⟨kd, S5, ρ5, ex5, s5, rk, h5⟩ := escS s4 hkv h4
    have rd5 : Rp S5 v d := rd.mono ((ex3.trans ex4).trans ex5)
    have ho : σ[j]? = some (some o) := ho
    cases q : ρ5[j]? with
    | none =>
      simp only [q] at h5
      exact h5.elim
    | some sl =>
      cases sl with
      | ow dd =>
        simp only [q] at h5
        obtain ⟨dd', ed, h5⟩ := h5.opt
        obtain ⟨b, ob, k1, k2, k3, _⟩ := s5.ow_at q
        rw [ho] at k1
        cases k1
        obtain ⟨ob', g1, g2⟩ := put_go s5.sub k2 k3 rk rd5 ed
        exact ⟨b, _, rfl, g1, h5.now (s5.mutOw q ho g2)⟩
      | io dd =>
        simp only [q] at h5
        obtain ⟨dd', ed, h5⟩ := h5.opt
        obtain ⟨b, ob, k1, k2, k3, _⟩ := s5.io_at q
        rw [ho] at k1
        cases k1
        obtain ⟨ob', g1, g2⟩ := put_go s5.sub k2 k3 rk rd5 ed
        exact ⟨b, _, rfl, g1, h5.now (s5.mutIo q ho g2)⟩
      | _ =>
        simp only [q] at h5
        exact h5.elim
end
end DL
end

section
set_option Elab.async false
set_option linter.all false
set_option maxRecDepth 100000
set_option autoImplicit false
namespace DL
open PySem PySem.W L2
/-! ### lending -/
def Gam.lend (Γ : Gam) (i : Nat) (a : Addr) (o : HO) : Gam := { Γ with L := (i, a, some o) :: Γ.L }
section
variable {p : Par} {W : WX} {Γ : Gam} {S S' : Hp} {ρ ρ' : Rho} {σ : St} {H : Hp} {α β : Type}
theorem mem_lend {i j : Nat} {a b : Addr} {o : HO} {q : Option HO} : (j, b, q) ∈ (Γ.lend i a o).L ↔ (j = i ∧ b = a ∧ q = some o) ∨ (j, b, q) ∈ Γ.L := by
  show _ ∈ (i, a, some o) :: Γ.L ↔ _
  rw [List.mem_cons]
  constructor
  · rintro (h | h)
    · cases h
      exact .inl ⟨rfl, rfl, rfl⟩
    · exact .inr h
  · rintro (⟨rfl, rfl, rfl⟩ | h)
    · exact .inl rfl
    · exact .inr h
theorem mem_lend_io {i j : Nat} {a b : Addr} {o : HO} : (j, b, none) ∈ (Γ.lend i a o).L ↔ (j, b, none) ∈ Γ.L := by
  rw [mem_lend]
  constructor
  · rintro (⟨_, _, h⟩ | h)
    · cases h
    · exact h
  · exact .inr
theorem Sat.lend (s : Sat Γ S ρ σ H) {i : Nat} {d : D} {a : Addr} {o : HO} {H' : Hp} (h : ρ[i]? = some (.ow d)) (ha : σ[i]? = some (some (.ref a))) (ho : OwnL S o d) (e1 : H' a = some o) (e2 : ∀ b, b ≠ a → H' b = H b) : Sat (Γ.lend i a o) S (ρ.set i (.lent d)) σ H' := by
  obtain ⟨b, ob, h1, h2, h3, h4, h5⟩ := s.ow_at h
  rw [h1] at ha
  cases ha
  have np : ∀ j q, (j, a, q) ∉ Γ.L := (s.owFree h h1).1
  have nF : ∀ u, (a, u) ∉ Γ.F := (s.owFree h h1).2
  have bare : ∀ c, Bare ρ σ c → Bare (ρ.set i (.lent d)) σ c := fun c hb j e hj => by
    rcases get_set hj with ⟨_, z⟩ | ⟨_, z⟩
    · cases z
    · exact hb j e z
  have hi : i < ρ.length := (List.getElem?_eq_some_iff.mp h).1
  refine ⟨by rw [List.length_set]; exact s.len, fun c u e => ?_, s.old, s.new, fun c u e hc => ?_, fun j x e => ?_, fun j k e1 e2 c hjk q1 q2 => ?_, fun j c q e => ?_, fun j c q k b r e1 e2 hjk => ?_, fun c u e => ?_⟩
  · have z : c ≠ a := fun z => by
      subst z
      rw [h4] at e
      cases e
    rw [e2 c z]
    exact s.sub c u e
  · have e0 : Γ.H0 c = some u := e
    have z : c ≠ a := fun z => by
      subst z
      rw [h5] at e0
      cases e0
    rw [e2 c z]
    exact s.fr c u e fun j hj => hc j (mem_lend_io.mpr hj)
  · rcases get_set e with ⟨z1, z2⟩ | ⟨z1, z2⟩
    · subst z1
      subst z2
      exact .lent h1 ho (mem_lend.mpr (.inl ⟨rfl, rfl, rfl⟩))
    · cases s.slot j x z2 with
      | no => exact .no
      | fz k1 k2 => exact .fz k1 k2
      | ow k1 k2 k3 k4 k5 =>
        rename_i c oc dc
        have z : c ≠ a := fun z => by
          subst z
          exact s.one i j d dc c z1 h z2 h1 k1
        exact .ow k1 (by rw [e2 c z]; exact k2) k3 k4 k5
      | io k1 k2 k3 k4 =>
        rename_i c oc dc
        have z : c ≠ a := fun z => by
          subst z
          exact np _ _ k4
        exact .io k1 (by rw [e2 c z]; exact k2) k3 (mem_lend.mpr (.inr k4))
      | lent k1 k2 k3 => exact .lent k1 k2 (mem_lend.mpr (.inr k3))
  · rcases get_set q1 with ⟨_, z⟩ | ⟨_, q1⟩
    · cases z
    · rcases get_set q2 with ⟨_, z⟩ | ⟨_, q2⟩
      · cases z
      · exact s.one j k e1 e2 c hjk q1 q2
  · rcases mem_lend.mp e with ⟨rfl, rfl, rfl⟩ | e0
    · refine ⟨h4, h1, fun k e hk z => ?_, fun u hu => ?_, fun z => by cases z⟩
      · rcases get_set hk with ⟨_, z2⟩ | ⟨z1, z2⟩
        · cases z2
        · exact s.one j k d e c z1 h z2 h1 z
      · cases hu
        exact ⟨e1, d, by rw [List.getElem?_set_self hi]⟩
    · obtain ⟨g1, g2, g3, g4, g5⟩ := s.pin j c q e0
      have z : c ≠ a := fun z => by
        subst z
        exact np j q e0
      have hij : i ≠ j := s.notPin h nofun nofun e0
      exact ⟨g1, g2, bare c g3, fun u hu => ⟨by rw [e2 c z]; exact (g4 u hu).1, by rw [List.getElem?_set_ne hij]; exact (g4 u hu).2⟩, fun hu => by rw [List.getElem?_set_ne hij]; exact g5 hu⟩
  · rcases mem_lend.mp e1 with ⟨z1, z2, _⟩ | f1
    · rcases mem_lend.mp e2 with ⟨z3, z4, _⟩ | f2
      · exact absurd (z1.trans z3.symm) hjk
      · exact fun z => np k r (by rw [← z2, z]; exact f2)
    · rcases mem_lend.mp e2 with ⟨z3, z4, _⟩ | f2
      · exact fun z => np j q (by rw [← z4, ← z]; exact f1)
      · exact s.dis _ _ _ _ _ _ f1 f2 hjk
  · obtain ⟨k1, k2, k3, k4, k5⟩ := s.kept c u e
    have z : c ≠ a := fun z => by
      subst z
      exact nF u e
    exact ⟨by rw [e2 c z]; exact k1, k2, bare c k3, fun j q hj => by
      rcases mem_lend.mp hj with ⟨_, z2, _⟩ | hj
      · exact z z2
      · exact k4 _ _ hj, k5⟩
theorem Sat.unlend {i : Nat} {a : Addr} {o u : HO} {H' : Hp} (s : Sat (Γ.lend i a o) S ρ σ H) (h0 : Γ.H0 a = none) (np : ∀ j q, (j, a, q) ∉ Γ.L) (hn : ∀ j, (i, j) ∉ Γ.L.map fun x => (x.1, x.2.1)) (nF : ∀ u, (a, u) ∉ Γ.F)
    (hu : ∀ d, OwnL S o d → Own S u d) (e1 : H' a = some u) (e2 : ∀ b, b ≠ a → H' b = H b) : ∃ d, ρ[i]? = some (.lent d) ∧ Sat Γ S (ρ.set i (.ow d)) σ H' := by
  have pm : (i, a, some o) ∈ (Γ.lend i a o).L := mem_lend.mpr (.inl ⟨rfl, rfl, rfl⟩)
  have P := s.pin _ _ _ pm
  obtain ⟨hH, d, hd⟩ := P.ob o rfl
  obtain ⟨b, ob, l1, l2, l3, l4, _⟩ := s.lent_at hd
  have eb := s.pin_one pm l4
  subst eb
  rw [l2] at hH
  cases hH
  have hi : i < ρ.length := (List.getElem?_eq_some_iff.mp hd).1
  have ow := hu d l3
  have bare : ∀ c, c ≠ a → Bare ρ σ c → Bare (ρ.set i (.ow d)) σ c := fun c hc hb j e hj => by
    rcases get_set hj with ⟨z, _⟩ | ⟨_, z⟩
    · subst z
      rw [l1]
      intro z
      cases z
      exact hc rfl
    · exact hb j e z
  refine ⟨d, hd, ⟨by rw [List.length_set]; exact s.len, fun c u e => ?_, s.old, s.new, fun c u e hc => ?_, fun j x e => ?_, fun j k e1 e2 c hjk q1 q2 => ?_, fun j c q e => ?_, fun j c q k b r f1 f2 hjk => s.dis _ _ _ _ _ _ (mem_lend.mpr (.inr f1)) (mem_lend.mpr (.inr f2)) hjk, fun c u e => ?_⟩⟩
  · have z : c ≠ a := fun z => by
      subst z
      rw [P.s] at e
      cases e
    rw [e2 c z]
    exact s.sub c u e
  · have z : c ≠ a := fun z => by
      subst z
      rw [h0] at e
      cases e
    rw [e2 c z]
    exact s.fr c u e fun j hj => hc j (mem_lend_io.mp hj)
  · rcases get_set e with ⟨z1, z2⟩ | ⟨z1, z2⟩
    · subst z1
      subst z2
      exact .ow l1 e1 ow P.s h0
    · cases s.slot j x z2 with
      | no => exact .no
      | fz k1 k2 => exact .fz k1 k2
      | ow k1 k2 k3 k4 k5 =>
        rename_i c oc dc
        have z : c ≠ a := fun z => by
          subst z
          exact P.bare j dc z2 k1
        exact .ow k1 (by rw [e2 c z]; exact k2) k3 k4 k5
      | io k1 k2 k3 k4 =>
        rename_i c oc dc
        have k40 := mem_lend_io.mp k4
        have z : c ≠ a := fun z => by
          subst z
          exact np _ _ k40
        exact .io k1 (by rw [e2 c z]; exact k2) k3 k40
      | lent k1 k2 k3 =>
        rcases mem_lend.mp k3 with ⟨z, _⟩ | k3
        · exact absurd z.symm z1
        · exact .lent k1 k2 k3
  · rcases get_set q1 with ⟨z1, z2⟩ | ⟨z1, q1⟩
    · subst z1
      intro q3 q4
      rcases get_set q2 with ⟨z3, _⟩ | ⟨_, q2⟩
      · exact hjk z3
      · rw [l1] at q3
        cases q3
        exact P.bare k _ q2 q4
    · rcases get_set q2 with ⟨z3, _⟩ | ⟨_, q2⟩
      · subst z3
        intro q3 q4
        rw [l1] at q4
        cases q4
        exact P.bare j _ q1 q3
      · exact s.one j k e1 e2 c hjk q1 q2
  · obtain ⟨g1, g2, g3, g4, g5⟩ := s.pin j c q (mem_lend.mpr (.inr e))
    have z : c ≠ a := fun z => by
      subst z
      exact np j q e
    have hij : i ≠ j := fun z => by
      subst z
      exact hn c (List.mem_map.mpr ⟨_, e, rfl⟩)
    exact ⟨g1, g2, bare c z g3, fun u hu => ⟨by rw [e2 c z]; exact (g4 u hu).1, by rw [List.getElem?_set_ne hij]; exact (g4 u hu).2⟩, fun hu => by rw [List.getElem?_set_ne hij]; exact g5 hu⟩
  · obtain ⟨k1, k2, k3, k4, k5⟩ := s.kept c u e
    have z : c ≠ a := fun z => by
      subst z
      exact nF u e
    exact ⟨by rw [e2 c z]; exact k1, k2, bare c z k3, fun j q hj => k4 _ _ (mem_lend.mpr (.inr hj)), k5⟩

structure Back (Γ Γ' : Gam) (U : Rho → Rho) : Prop where
  back : ∀ S1 ρ1 σ1 H1, Sat Γ' S1 ρ1 σ1 H1 → Sat Γ S1 (U ρ1) σ1 H1
  h0 : Γ'.H0 = Γ.H0
  l : ∀ x, x ∈ Γ.L → x ∈ Γ'.L
  f : Γ'.F = Γ.F
  bare : ∀ S1 ρ1 σ1 H1 a, Sat Γ' S1 ρ1 σ1 H1 → (∀ i q, (i, a, q) ∉ Γ'.L) → Bare ρ1 σ1 a → Bare (U ρ1) σ1 a
theorem Back.id {U : Rho → Rho} (h : ∀ ρ', U ρ' = ρ') : Back Γ Γ U where
  back := fun S1 ρ1 σ1 H1 s => by rw [h]; exact s
  h0 := rfl
  l := fun _ h => h
  f := rfl
  bare := fun S1 ρ1 σ1 H1 a _ _ b => by rw [h]; exact b
theorem Back.pout {Γ Γ' : Gam} {U : Rho → Rho} (B : Back Γ Γ' U) {fr : Bool} {d : D} {Q : VK} (s : Sat Γ' S ρ σ H) (h : Pout Γ S (U ρ) σ H (retD fr d) Q) : Pout Γ' S ρ σ H (retD fr d) Q := by
  cases fr with
  | false => exact h
  | true =>
    intro a ob h1 h2 h3 h4 h5 h6 h7
    exact h a ob h1 h2 h3 (by rw [← B.h0]; exact h4) (B.bare _ _ _ _ _ s h6 h5) (fun i q hi => h6 i q (B.l _ hi)) (by rw [← B.f]; exact h7)
theorem AftS.back {Γ Γ' : Gam} {U : Rho → Rho} (B : Back Γ Γ' U) {r : R α} {k : α → Hp → Rho → St → Hp → Prop} (h : AftS p W Γ S (onR U r) k) : AftS p W Γ' S r (fun a S' ρ' σ' H' => k a S' (U ρ') σ' H') := by
  cases r with
  | bad => exact h
  | exc x ρ' => exact fun S1 σ1 H1 e1 s1 => h S1 σ1 H1 e1 (B.back _ _ _ _ s1)
  | ok a ρ' => exact fun S1 σ1 H1 e1 s1 => h S1 σ1 H1 e1 (B.back _ _ _ _ s1)
theorem OwnL.own {o : HO} {d : D} {u : HO} (h : OwnL S o d) (hn : ∀ b x, o = .frz b x → x = u) (ho : (∀ b x, o ≠ .frz b x) → o = u) : Own S u d := by
  rcases h with h | ⟨b, x, e, h⟩
  · have z : o = u := ho fun b x e => by
      subst e
      cases h
    rw [← z]
    exact h
  · rw [← hn b x e]
    exact h
theorem lend_o {o : Out} {v : V} {d : D} (s : Sat Γ S ρ σ H) (hv : OutV S σ o v) (hd : deref o ρ = some d) (hm : mayLend o ρ = true) : ∃ Γ', Sat Γ' S (lendS o ρ) σ H ∧ Back Γ Γ' (unlend o ρ) ∧
    (∀ S1 ρ1 σ1 H1, Ex S S1 → Sat Γ' S1 ρ1 σ1 H1 → Top S1 H1 v d) := by
  cases o with
  | fresh e => exact hv.elim
  | fz e =>
    cases hd
    exact ⟨Γ, s, .id fun _ => rfl, fun S1 ρ1 σ1 H1 ex _ => .rp (Rp.mono ex hv)⟩
  | slot i =>
    have hv : σ[i]? = some (some v) := hv
    unfold deref at hd
    cases e : ρ[i]? with
    | none =>
      simp only [e] at hd
      cases hd
    | some x =>
      have same : (∀ y, x ≠ .ow y) → lendS (.slot i) ρ = ρ ∧ ∀ ρ', unlend (.slot i) ρ ρ' = ρ' := fun h => by
        unfold lendS unlend
        constructor
        · simp only [e]
          cases x <;> first | rfl | exact absurd rfl (h _)
        · intro ρ'
          simp only [e]
          cases x <;> first | rfl | exact absurd rfl (h _)
      cases x with
      | no =>
        simp only [e] at hd
        cases hd
      | fz y =>
        simp only [e] at hd
        cases hd
        obtain ⟨u, h1, h2⟩ := s.fz_at e
        rw [hv] at h1
        cases h1
        obtain ⟨z1, z2⟩ := same nofun
        exact ⟨Γ, by rw [z1]; exact s, .id z2, fun S1 ρ1 σ1 H1 ex _ => .rp (Rp.mono ex h2)⟩
      | io y =>
        unfold mayLend at hm
        simp only [e] at hm
        cases hm
      | lent y =>
        simp only [e] at hd
        cases hd
        obtain ⟨a, ob, h1, h2, h3, h4, _⟩ := s.lent_at e
        rw [hv] at h1
        cases h1
        obtain ⟨z1, z2⟩ := same nofun
        refine ⟨Γ, by rw [z1]; exact s, .id z2, fun S1 ρ1 σ1 H1 ex s1 => ?_⟩
        obtain ⟨hH, _⟩ := (s1.pin _ _ _ h4).ob _ rfl
        rcases h3.mono ex with h6 | ⟨b, u, q, h6⟩
        · exact .ob (.inl hH) h6
        · subst q
          exact .ob (.inr ⟨b, hH⟩) h6
      | ow y =>
        simp only [e] at hd
        cases hd
        obtain ⟨a, ob, h1, h2, h3, h4, h5⟩ := s.ow_at e
        rw [hv] at h1
        cases h1
        obtain ⟨np, nF⟩ := s.owFree e hv
        have hn : ∀ j, (i, j) ∉ Γ.L.map fun x => (x.1, x.2.1) := fun j hj => by
          obtain ⟨⟨i', a', q'⟩, hm', he⟩ := List.mem_map.mp hj
          cases he
          exact s.notPin e nofun nofun hm' rfl
        have nfz : ∀ b x, ob ≠ .frz b x := fun b x z => by
          subst z
          cases h3
        have un : ∀ S1 ρ1 σ1 H1, Sat (Γ.lend i a ob) S1 ρ1 σ1 H1 → ∃ d', ρ1[i]? = some (.lent d') ∧ unlend (.slot i) ρ ρ1 = ρ1.set i (.ow d') ∧ Sat Γ S1 (ρ1.set i (.ow d')) σ1 H1 := fun S1 ρ1 σ1 H1 s1 => by
          obtain ⟨hH, _⟩ := (s1.pin _ _ _ (mem_lend.mpr (.inl ⟨rfl, rfl, rfl⟩))).ob ob rfl
          obtain ⟨d', hd', s2⟩ := s1.unlend h5 np hn nF (fun d h => h.own (fun b x z => absurd z (nfz b x)) fun _ => rfl) hH (fun _ _ => rfl)
          refine ⟨d', hd', ?_, s2⟩
          unfold unlend
          simp only [e, hd']
        refine ⟨Γ.lend i a ob, ?_, ⟨fun S1 ρ1 σ1 H1 s1 => ?_, rfl, fun x hx => List.mem_cons_of_mem _ hx, rfl, fun S1 ρ1 σ1 H1 b s1 hb hbb => ?_⟩, fun S1 ρ1 σ1 H1 ex s1 => ?_⟩
        · have z : lendS (.slot i) ρ = ρ.set i (.lent d) := by
            unfold lendS
            simp only [e]
          rw [z]
          exact s.lend e hv (.inl h3) h2 fun _ _ => rfl
        · obtain ⟨d', _, z, s2⟩ := un S1 ρ1 σ1 H1 s1
          rw [z]
          exact s2
        · obtain ⟨d', hd', z, s2⟩ := un S1 ρ1 σ1 H1 s1
          rw [z]
          intro j e' hj
          rcases get_set hj with ⟨z1, _⟩ | ⟨_, z1⟩
          · subst z1
            have pm := (s1.pin i a _ (mem_lend.mpr (.inl ⟨rfl, rfl, rfl⟩))).at_
            rw [pm]
            intro z2
            cases z2
            exact hb i _ (mem_lend.mpr (.inl ⟨rfl, rfl, rfl⟩))
          · exact hbb j e' z1
        · obtain ⟨hH, _⟩ := (s1.pin _ _ _ (mem_lend.mpr (.inl ⟨rfl, rfl, rfl⟩))).ob ob rfl
          exact .ob (.inl hH) (h3.mono ex)
/-! ### what is walked -/
structure Walks (J : It) (xs : List D) (Ry : Hp → Hp → Prop) : Prop where
  stop : ∀ i S H, Ry S H → xs.length ≤ i → J.stop i H
  go : ∀ i S H, Ry S H → i < xs.length → J.go i H
  yld : ∀ i x S H H', Ry S H → J.yld i H x H' → H' = H ∧ ∀ Γ ρ σ y, Sat Γ S ρ σ H → xs[i]? = some y → ∃ S', Ex S S' ∧ Sat Γ S' ρ σ H ∧ Rp S' x y
def iSrc (p : Par) (W : WX) (k : ItK) (es : List E) : TI := fun σ H R => ∃ Γ S ρ, Sat Γ S ρ σ H ∧ Aft p W Γ S σ (evA p.c.cal es ρ) (fun os S1 ρ1 H1 => ∀ vs, OutVs S1 σ os vs → ∃ xs o, itemsD k os ρ1 = some (xs, o) ∧
  ∀ v d J Ry, OutV S1 σ o v → deref o ρ1 = some d → Walks J xs Ry → (∀ S2 H2, Ex S1 S2 → Ex S2 H2 → Top S2 H2 v d → Ry S2 H2) → R J H1)
theorem walks_list {K : PySem.W.Frag} {a : Addr} {xs : List D} : Walks (Itl K a) xs (fun S H => Ex S H ∧ Top S H (.ref a) (.list xs)) where
  stop := fun i S H ⟨ex, t⟩ h => by
    obtain ⟨b, zs, e, r, q⟩ := t.list ex
    cases e
    exact ⟨zs, .inl r, by rw [q.length]; exact h⟩
  go := fun i S H ⟨ex, t⟩ h => by
    obtain ⟨b, zs, e, r, q⟩ := t.list ex
    cases e
    exact ⟨zs, zs[i]'(by rw [q.length]; exact h), .inl r, by rw [List.getElem?_eq_getElem]⟩
  yld := fun i x S H H' ⟨ex, t⟩ ⟨e1, h⟩ => by
    obtain ⟨b, zs, e, r, q⟩ := t.list ex
    cases e
    refine ⟨e1, fun Γ ρ σ y s hy => ⟨S, Ex.refl S, s, ?_⟩⟩
    obtain ⟨w, h1, h2⟩ := q.getV (h zs (.inl r))
    rw [hy] at h1
    cases h1
    exact h2
theorem walks_tup {K : PySem.W.Frag} {a : Addr} {xs : List D} : Walks (Itt K a) xs (fun S H => Ex S H ∧ Top S H (.ref a) (.tuple xs)) where
  stop := fun i S H ⟨ex, t⟩ h => by
    obtain ⟨b, zs, e, r, q⟩ := t.tuple
    cases e
    exact ⟨zs, .inl (.inl (ex _ _ r)), by rw [q.length]; exact h⟩
  go := fun i S H ⟨ex, t⟩ h => by
    obtain ⟨b, zs, e, r, q⟩ := t.tuple
    cases e
    exact ⟨zs, zs[i]'(by rw [q.length]; exact h), .inl (.inl (ex _ _ r)), by rw [List.getElem?_eq_getElem]⟩
  yld := fun i x S H H' ⟨ex, t⟩ ⟨e1, h⟩ => by
    obtain ⟨b, zs, e, r, q⟩ := t.tuple
    cases e
    refine ⟨e1, fun Γ ρ σ y s hy => ⟨S, Ex.refl S, s, ?_⟩⟩
    obtain ⟨w, h1, h2⟩ := q.getV (h zs (.inl (.inl (ex _ _ r))))
    rw [hy] at h1
    cases h1
    exact h2
theorem rngD_some {lo hi : Int} {xs : List D} (h : rngD lo hi = some xs) : (-(2 ^ 60) < lo ∧ lo < 2 ^ 60 ∧ -(2 ^ 60) < hi ∧ hi < 2 ^ 60) ∧ xs = (List.range (hi - lo).toNat).map fun (i : Nat) => PyData.int (lo + i) := by
  unfold rngD at h
  split at h
  · rename_i c
    cases h
    exact ⟨⟨c.1, c.2.1, c.2.2.1, c.2.2.2.1⟩, rfl⟩
  · cases h
theorem walks_rng {lo : Int} {n : Nat} {Ry : Hp → Hp → Prop} : Walks (Itr lo n) ((List.range n).map fun (i : Nat) => PyData.int (lo + i)) Ry where
  stop := fun i S H _ h => by
    rw [List.length_map, List.length_range] at h
    exact h
  go := fun i S H _ h => by
    rw [List.length_map, List.length_range] at h
    exact h
  yld := fun i x S H H' _ ⟨e1, e2⟩ => ⟨e1, fun Γ ρ σ y s hy => by
    subst e2
    rw [List.getElem?_map] at hy
    cases z : (List.range n)[i]? with
    | none =>
      rw [z] at hy
      cases hy
    | some j =>
      rw [z] at hy
      cases hy
      have e : j = i := by
        have z := List.getElem?_eq_some_iff.mp z
        rw [← z.2, List.getElem_range]
      subst e
      exact ⟨S, Ex.refl S, s, .int _⟩⟩
end
section
variable {X : Cx} {p : Par} {W : WX} {pos pos' : Pos} {tg : Expr}
theorem PI.or {tg l : Expr} {a b : TI} (h1 : PI X tg l a) (h2 : PI X tg l b) : PI X tg l (fun σ H R => a σ H R ∨ b σ H R) := ⟨fun pins s σ H R I h => h.elim (h1.run pins s σ H R I) (h2.run pins s σ H R I)⟩
theorem PI.of {tg l : Expr} {t t' : TI} (h : PI X tg l t) (i : ∀ σ H R, t' σ H R → t σ H R) : PI X tg l t' := ⟨fun pins s σ H R I q => h.run pins s σ H R I (i σ H R q)⟩
theorem Rp.top {S H : Hp} {v : V} {d : D} (h : Rp S v d) : Top S H v d := .rp h
theorem src_seq {e : Expr} {e' : E} (he : PE X e (tE p W e')) : PI X tg e (iSrc p W .seq [e']) := PI.of (PI.or (pi_list he) (pi_tup he)) fun σ H R ⟨Γ, S, ρ, s, h⟩ => by
  unfold evA evA at h
  cases q : (ev p.c.cal e').P ρ with
  | bad =>
    rw [q] at h
    exact h.elim
  | exc x ρ1 =>
    rw [q] at h
    exact .inl ⟨Γ, S, ρ, s, by rw [q]; exact h⟩
  | ok x ρ1 =>
    rw [q] at h
    by_cases ht : ∃ ds, deref (settle x) ρ1 = some (.tuple ds)
    · obtain ⟨ds, ht⟩ := ht
      refine .inr ⟨Γ, S, ρ, s, ?_⟩
      rw [q]
      refine fun S1 H1 ex s1 => Pout.settle s1 fun S2 e2 s2 v hv => ?_
      obtain ⟨xs, o, hi, hR⟩ := h S2 H1 (ex.trans e2) s2 [v] (.cons hv .nil)
      have hi2 : some (ds, settle x) = some (xs, o) := by
        rw [← hi]
        unfold itemsD
        simp only [ht]
        rfl
      cases hi2
      obtain ⟨a, zs, ea, r, rl⟩ := (top_of s2 hv ht).tuple
      subst ea
      exact ⟨a, rfl, ⟨zs, .inl (.inl (s2.sub _ _ r))⟩, hR _ _ _ _ hv ht walks_tup fun S3 H3 e3 e4 t => ⟨e4, t⟩⟩
    · refine .inl ⟨Γ, S, ρ, s, ?_⟩
      rw [q]
      refine fun S1 H1 ex s1 => Pout.settle s1 fun S2 e2 s2 v hv => ?_
      obtain ⟨xs, o, hi, hR⟩ := h S2 H1 (ex.trans e2) s2 [v] (.cons hv .nil)
      unfold itemsD at hi
      cases z : deref (settle x) ρ1 with
      | none =>
        simp only [z] at hi
        cases hi
      | some d =>
        cases d with
        | list ds =>
          simp only [z] at hi
          cases hi
          obtain ⟨a, zs, ea, r, rl⟩ := (top_of s2 hv z).list s2.sub
          subst ea
          exact ⟨a, rfl, ⟨zs, .inl r⟩, hR _ _ _ _ hv z walks_list fun S3 H3 e3 e4 t => ⟨e4, t⟩⟩
        | tuple ds => exact absurd ⟨ds, z⟩ ht
        | _ =>
          simp only [z] at hi
          cases hi
theorem src_rng1 {a : Expr} {a' : E} {p1 : Pos} (hm : X.mg "range" = none) (ha : PA X [a] (tAr p W [a'])) (hg : Gl X "range" := by rfl) (hs : starEach [a] X.env = [(false, eval a X.env)] := by rfl) : PI X tg (.Call (.Name "range" p1) [a] [] pos) (iSrc p W .rng1 [a']) := PI.of (pi_range1 hg hm ha hs) fun σ H R ⟨Γ, S, ρ, s, h⟩ => by
  refine ⟨Γ, S, ρ, s, h.mono fun os S1 ρ1 H1 ex s1 h1 vs hv => ?_⟩
  obtain ⟨xs, o, hi, hR⟩ := h1 vs hv
  unfold itemsD at hi
  cases hv with
  | nil => cases hi
  | cons hv hr =>
    rename_i o1 v os vs
    cases hr with
    | cons _ _ => cases hi
    | nil =>
      cases z : deref o1 ρ1 with
      | none =>
        simp only [z] at hi
        cases hi
      | some d =>
        cases d with
        | int n =>
          simp only [z] at hi
          have hi : ((rngD 0 n).map fun xs => (xs, Out.fz .none)) = some (xs, o) := hi
          cases zr : rngD 0 n with
          | none =>
            rw [zr] at hi
            cases hi
          | some ys =>
            rw [zr] at hi
            cases hi
            have ev := (top_of s1 hv z).int
            subst ev
            obtain ⟨⟨_, _, b3, b4⟩, e⟩ := rngD_some zr
            subst e
            refine ⟨n, rfl, by omega, by omega, hR .non .none _ (fun _ _ => True) .non rfl ?_ fun _ _ _ _ _ => trivial⟩
            have e0 : (n - 0).toNat = n.toNat := by omega
            rw [e0]
            exact walks_rng
        | _ =>
          simp only [z] at hi
          cases hi
theorem src_rng2 {a b : Expr} {a' b' : E} {p1 : Pos} (hm : X.mg "range" = none) (ha : PA X [a, b] (tAr p W [a', b'])) (hg : Gl X "range" := by rfl) (hs : starEach [a, b] X.env = [(false, eval a X.env), (false, eval b X.env)] := by rfl) (hs2 : starEach [b] X.env = [(false, eval b X.env)] := by rfl) :
    PI X tg (.Call (.Name "range" p1) [a, b] [] pos) (iSrc p W .rng2 [a', b']) := PI.of (pi_range2 hg hm ha hs hs2) fun σ H R ⟨Γ, S, ρ, s, h⟩ => by
  refine ⟨Γ, S, ρ, s, h.mono fun os S1 ρ1 H1 ex s1 h1 vs hv => ?_⟩
  obtain ⟨xs, o, hi, hR⟩ := h1 vs hv
  unfold itemsD at hi
  cases hv with
  | nil => cases hi
  | cons hv hr =>
    rename_i o1 v os vs
    cases hr with
    | nil => cases hi
    | cons hv2 hr =>
      rename_i o2 v2 os vs
      cases hr with
      | cons _ _ => cases hi
      | nil =>
        cases z : deref o1 ρ1 with
        | none =>
          simp only [z] at hi
          cases hi
        | some d =>
          cases d with
          | int i =>
            cases z2 : deref o2 ρ1 with
            | none =>
              simp only [z, z2] at hi
              cases hi
            | some d2 =>
              cases d2 with
              | int j =>
                simp only [z, z2] at hi
                have hi : ((rngD i j).map fun xs => (xs, Out.fz .none)) = some (xs, o) := hi
                cases zr : rngD i j with
                | none =>
                  rw [zr] at hi
                  cases hi
                | some ys =>
                  rw [zr] at hi
                  cases hi
                  have ev := (top_of s1 hv z).int
                  subst ev
                  have ev := (top_of s1 hv2 z2).int
                  subst ev
                  obtain ⟨⟨b1, b2, b3, b4⟩, e⟩ := rngD_some zr
                  subst e
                  exact ⟨i, j, rfl, ⟨by omega, by omega, by omega, by omega⟩, hR .non .none _ (fun _ _ => True) .non rfl walks_rng fun _ _ _ _ _ => trivial⟩
              | _ =>
                simp only [z, z2] at hi
                cases hi
          | _ =>
            simp only [z] at hi
            cases hi
end
end DL
end

section
set_option Elab.async false
set_option linter.all false
set_option maxRecDepth 100000
set_option autoImplicit false
namespace DL
open PySem PySem.W L2
def gT (K : PySem.W.Frag) : Tg → TG
  | .nm i => gName i
  | .tp is => gTup K is.length (gNames is)
/-- a target and its form -/
inductive TgOk (X : Cx) : Expr → Tg → Prop
  | nm {x : Str} {i : Nat} {q : Pos} : X.N[i]? = some x → Loc X.env.scope x → (X.fn x = true ∨ X.env.scope.names.lookup x = some .local) → TgOk X (.Name x q) (.nm i)
  | tp {es : List Expr} {is : List Nat} {kt : Nat} {q : Pos} : Nms X es is → (assignEach es X.env).length = is.length → (assignEach es X.env).findIdx? (·.1) = none → TgOk X (.Tuple es kt q) (.tp is)
theorem TgOk.pg {X : Cx} {e : Expr} {t : Tg} (hc : X.calm = true) (hN : X.N.Nodup) (h : TgOk X e t) : PG X e (gT X.K t) := by
  cases h with
  | nm h1 h2 h3 => exact pg_name hN h1 h2 h3
  | tp h1 h2 h3 => exact pg_tup hc (pgs_names hN h1) h2 h3
section
variable {p : Par} {W : WX} {Γ : Gam} {S S' : Hp} {ρ ρ' : Rho} {σ : St} {H : Hp} {α β : Type}
theorem gT_mono {K : PySem.W.Frag} {t : Tg} {v : V} {σ : St} {H : Hp} {Q Q' : St → Hp → Prop} (h : gT K t v σ H Q) (g : ∀ σ H, Q σ H → Q' σ H) : gT K t v σ H Q' := by
  cases t with
  | nm i => exact g _ _ h
  | tp is =>
    obtain ⟨a, xs, h1, h2, h3, h4⟩ := h
    refine ⟨a, xs, h1, h2, h3, ?_⟩
    have mono : ∀ {is : List Nat} {vs : List V} {σ : St}, gNames is vs σ H Q → gNames is vs σ H Q' := by
      intro is
      induction is with
      | nil => exact fun ⟨e, q⟩ => ⟨e, g _ _ q⟩
      | cons i is ih => exact fun ⟨v, r, e, q⟩ => ⟨v, r, e, ih q⟩
    exact mono h4
theorem bindT_ok {K : PySem.W.Frag} {t : Tg} {v : V} {d : D} {f : Unit → Rho → R β} {k : β → Hp → Rho → St → Hp → Prop} (s : Sat Γ S ρ σ H) (hv : Rp S v d) (h : AftS p W Γ S ((bindT t d ρ).bind f) k) :
    gT K t v σ H (fun σ1 H1 => ∃ ρ1, Sat Γ S ρ1 σ1 H1 ∧ AftS p W Γ S (f () ρ1) k) := by
  cases t with
  | nm i =>
    obtain ⟨s1, h1⟩ := setF_ok s hv h
    exact ⟨_, s1, h1⟩
  | tp is =>
    refine tup_slots (p := p) (W := W) (k := k) (f := f) (T := fun _ => .bad) s (.rp hv) (d := d) ?_ fun σ2 H2 ρ2 s2 h2 => ⟨ρ2, s2, h2⟩
    unfold bindT at h
    cases d <;> exact h
theorem fLoop_step {turn : D → Rho → R Fl} {x : D} {xs : List D} {k : Fl → Hp → Rho → St → Hp → Prop} (h : AftS p W Γ S (fLoop turn (x :: xs) ρ) k) :
    AftS p W Γ S (turn x ρ) (fun fl S' ρ' σ' H' => match fl with
      | .next => AftS p W Γ S' (fLoop turn xs ρ') k
      | .cont => AftS p W Γ S' (fLoop turn xs ρ') k
      | .brk => k .next S' ρ' σ' H'
      | .ret fr d => k (.ret fr d) S' ρ' σ' H') := by
  unfold fLoop at h
  cases e : turn x ρ with
  | bad =>
    rw [e] at h
    exact h
  | exc c ρ' =>
    rw [e] at h
    exact h
  | ok fl ρ' =>
    rw [e] at h
    cases fl with
    | next => exact fun S1 σ1 H1 e1 s1 => h.weak e1
    | cont => exact fun S1 σ1 H1 e1 s1 => h.weak e1
    | brk => exact h
    | ret fr d => exact h
/-- a loop goes through what is walked -/
theorem for_go {K : PySem.W.Frag} {J : It} {xs : List D} {Ry : Hp → Hp → Prop} {t : Tg} {body : List DL.S} {D : Ends} {S1 : Hp} {kU : Fl → Hp → Rho → St → Hp → Prop} (w : Walks J xs Ry) (ry : ∀ S ρ σ H, Ex S1 S → Sat Γ S ρ σ H → Ry S H)
    (s : Sat Γ S1 ρ σ H) (h : AftS p W Γ S1 (fLoop (fun x ρ => (bindT t x ρ).bind fun _ ρ' => execs p.c body ρ') xs ρ) kU)
    (hnx : ∀ S ρ σ H, Ex S1 S → Sat Γ S ρ σ H → kU .next S ρ σ H → D.nx σ H)
    (hrt : ∀ fr d S ρ σ H, Ex S1 S → Sat Γ S ρ σ H → kU (.ret fr d) S ρ σ H → Pout Γ S ρ σ H (retD fr d) D.rt) :
    ∃ Wt : Nat → Nat → St → Hp → Prop, (∃ m, Wt 0 m σ H) ∧ ∀ i m σ H, Wt i m σ H →
      (J.stop i H ∧ D.nx σ H) ∨ (J.go i H ∧ ∃ N : St → Hp → Prop, (∀ σ' H', N σ' H' → ∃ m', m' < m ∧ Wt (i + 1) m' σ' H') ∧ ∀ x H', J.yld i H x H' → gT K t x σ H' fun σ2 H2 => tSs p W body { D with nx := N, ct := N, bk := D.nx } σ2 H2) := by
  let Pv : Nat → St → Hp → Prop := fun i σ H => ∃ S ρ, Ex S1 S ∧ Sat Γ S ρ σ H ∧ AftS p W Γ S (fLoop (fun x ρ => (bindT t x ρ).bind fun _ ρ' => execs p.c body ρ') (xs.drop i) ρ) kU
  refine ⟨fun i m σ H => m = xs.length - i ∧ i ≤ xs.length ∧ Pv i σ H, ⟨xs.length, by simp, Nat.zero_le _, S1, ρ, Ex.refl S1, s, h⟩, ?_⟩
  rintro i m σ H ⟨rfl, hi, S2, ρ2, ex, s2, h2⟩
  by_cases hlt : i < xs.length
  · refine .inr ⟨w.go i S2 H (ry S2 ρ2 σ H ex s2) hlt, Pv (i + 1), fun σ' H' p' => ⟨xs.length - (i + 1), by omega, rfl, hlt, p'⟩, fun x H' y => ?_⟩
    obtain ⟨e, hy⟩ := w.yld i x S2 H H' (ry S2 ρ2 σ H ex s2) y
    subst e
    obtain ⟨S3, ex3, s3, rp⟩ := hy Γ ρ2 σ xs[i] s2 (by rw [List.getElem?_eq_getElem hlt])
    rw [List.drop_eq_getElem_cons hlt] at h2
    refine gT_mono (bindT_ok s3 rp ((fLoop_step h2).weak ex3)) fun σ4 H4 ⟨ρ4, s4, h4⟩ => ?_
    refine ⟨Γ, S3, ρ4, s4, h4.mono fun fl S5 ρ5 σ5 H5 ex5 s5 h5 => ?_⟩
    have e5 := (ex.trans ex3).trans ex5
    cases fl with
    | next => exact ⟨S5, ρ5, e5, s5, h5⟩
    | cont => exact ⟨S5, ρ5, e5, s5, h5⟩
    | brk => exact hnx _ _ _ _ e5 s5 h5
    | ret fr d => exact hrt _ _ _ _ _ _ e5 s5 h5
  · have e : i = xs.length := by omega
    subst e
    rw [List.drop_length] at h2
    exact .inl ⟨w.stop _ S2 H (ry S2 ρ2 σ H ex s2) (Nat.le_refl _), hnx _ _ _ _ ex s2 (h2.now s2)⟩
end
section
variable {X : Cx} {p : Par} {W : WX} {pos pos' : Pos} {tg : Expr}
theorem dls_for {k : ItK} {iter : Expr} {es' : List E} {t : Tg} {body : List Stmt} {body' : List DL.S} (hp : PassesOwn (model X.prog X.w) X.A X.env X.xe) (hc : X.calm = true) (hN : X.N.Nodup) (hk : isKeys k = false) (hi : PI X tg iter (iSrc p W k es')) (hg : TgOk X tg t) (hb : PSs X body (tSs p W body'))
    (hs : ∀ x, foldedSetIterable iter X.env x = pure x := by intro _; rfl) : PS X (.For tg iter body [] pos) (tS p W (.forS k es' t body')) := PS.of (ps_for hp hc hi (hg.pg hc hN) hb hs) fun D σ H ⟨Γ, S, ρ, s, h⟩ => by
  unfold exec at h
  refine ⟨Γ, S, ρ, s, h.toA.mono fun os S1 ρ1 H1 ex s1 h1 vs hv => ?_⟩
  unfold fRun at h1
  cases z : itemsD k os ρ1 with
  | none =>
    simp only [z] at h1
    exact h1.elim
  | some xo =>
    obtain ⟨xs, o⟩ := xo
    simp only [z] at h1
    rw [if_neg (by rw [hk]; exact Bool.false_ne_true)] at h1
    by_cases hm : mayLend o ρ1 = true
    · rw [if_pos hm] at h1
      refine ⟨xs, o, rfl, fun v d J Ry hov hd w ry => ?_⟩
      obtain ⟨Γ', s2, B, top⟩ := lend_o s1 hov hd hm
      refine for_go w (fun S2 ρ2 σ2 H2 e2 s3 => ry S2 H2 e2 s3.sub (top S2 ρ2 σ2 H2 e2 s3)) s2 (h1.back B) (fun S2 ρ2 σ2 H2 _ s3 q => q) fun fr d' S2 ρ2 σ2 H2 _ s3 q => ?_
      exact B.pout s3 q
    · rw [if_neg hm] at h1
      exact h1.elim
/-- while -/
theorem dls_while {c : Expr} {body : List Stmt} {c' : E} {body' : List DL.S} (hp : PassesOwn (model X.prog X.w) X.A X.env X.xe) (hc : PT X c (tT p W c')) (hb : PSs X body (tSs p W body')) : PS X (.While c body [] pos) (tS p W (.whileS c' body')) := PS.of (ps_while hp hc hb) fun D σ H ⟨Γ, S, ρ, s, h⟩ => by
  unfold exec at h
  obtain ⟨n, hn⟩ := wRun_iter h.nb
  generalize wRun (wStep (ev p.c.cal c').T (execs p.c body')) ρ = r at h hn
  refine ⟨fun m σ H => ∃ S ρ r, Sat Γ S ρ σ H ∧ wIter (wStep (ev p.c.cal c').T (execs p.c body')) m ρ = some r ∧ AftS p W Γ S r (kD Γ D), ⟨n, S, ρ, r, s, hn, h⟩, ?_⟩
  rintro m σ1 H1 ⟨S1, ρ1, r1, s1, hi, h1⟩
  cases m with
  | zero => exact nomatch hi
  | succ m =>
    unfold wIter at hi
    refine ⟨Γ, S1, ρ1, s1, ?_⟩
    cases e : (ev p.c.cal c').T ρ1 with
    | bad =>
      have z : wStep (ev p.c.cal c').T (execs p.c body') ρ1 = .inl .bad := by
        unfold wStep
        rw [e]
      rw [z] at hi
      cases hi
      exact h1
    | exc x ρ2 =>
      have z : wStep (ev p.c.cal c').T (execs p.c body') ρ1 = .inl (.exc x ρ2) := by
        unfold wStep
        rw [e]
      rw [z] at hi
      cases hi
      exact fun S' H' ex s' => h1 S' σ1 H' ex s'
    | ok b ρ2 =>
      intro S2 H2 ex2 s2
      cases b with
      | false =>
        have z : wStep (ev p.c.cal c').T (execs p.c body') ρ1 = .inl (.ok .next ρ2) := by
          unfold wStep
          rw [e]
        rw [z] at hi
        cases hi
        exact h1 S2 σ1 H2 ex2 s2
      | true =>
        show ∃ N : St → Hp → Prop, _
        refine ⟨fun σ' H' => ∃ S ρ r, Sat Γ S ρ σ' H' ∧ wIter (wStep (ev p.c.cal c').T (execs p.c body')) m ρ = some r ∧ AftS p W Γ S r (kD Γ D), fun σ' H' q => ⟨m, Nat.lt_succ_self m, q⟩, Γ, S2, ρ2, s2, ?_⟩
        cases e2 : execs p.c body' ρ2 with
        | bad =>
          have z : wStep (ev p.c.cal c').T (execs p.c body') ρ1 = .inl .bad := by
            unfold wStep
            simp only [e, e2]
          rw [z] at hi
          cases hi
          exact h1
        | exc x ρ3 =>
          have z : wStep (ev p.c.cal c').T (execs p.c body') ρ1 = .inl (.exc x ρ3) := by
            unfold wStep
            simp only [e, e2]
          rw [z] at hi
          cases hi
          exact h1.weak ex2
        | ok fl ρ3 =>
          intro S3 σ3 H3 ex3 s3
          cases fl with
          | next =>
            have z : wStep (ev p.c.cal c').T (execs p.c body') ρ1 = .inr ρ3 := by
              unfold wStep
              simp only [e, e2]
            rw [z] at hi
            exact ⟨S3, ρ3, r1, s3, hi, h1.weak (ex2.trans ex3)⟩
          | cont =>
            have z : wStep (ev p.c.cal c').T (execs p.c body') ρ1 = .inr ρ3 := by
              unfold wStep
              simp only [e, e2]
            rw [z] at hi
            exact ⟨S3, ρ3, r1, s3, hi, h1.weak (ex2.trans ex3)⟩
          | brk =>
            have z : wStep (ev p.c.cal c').T (execs p.c body') ρ1 = .inl (.ok .next ρ3) := by
              unfold wStep
              simp only [e, e2]
            rw [z] at hi
            cases hi
            exact h1 S3 σ3 H3 (ex2.trans ex3) s3
          | ret fr d =>
            have z : wStep (ev p.c.cal c').T (execs p.c body') ρ1 = .inl (.ok (.ret fr d) ρ3) := by
              unfold wStep
              simp only [e, e2]
            rw [z] at hi
            cases hi
            exact h1 S3 σ3 H3 (ex2.trans ex3) s3
/-! ### try -/
/-- the except clauses' classes and suites -/
def tHs (p : Par) (cs : List Nat) (hs : List DL.S) : List (Value × (Addr → Value → Option Addr → TS)) := cs.zipWith (fun c h => (Value.ref (p.cl c), fun (_ : Addr) (_ : Value) (_ : Option Addr) => tS p (fun _ _ _ _ => False) h)) hs
theorem dls_blk {sts : List Stmt} {sts' : List DL.S} (h : PSs X sts (tSs p W sts')) : PSs X sts (tS p W (.blk sts')) := PSs.of h fun D σ H ⟨Γ, S, ρ, s, q⟩ => ⟨Γ, S, ρ, s, by
  unfold exec at q
  exact q⟩
theorem noexc_aft {p : Par} {W : WX} {Γ : Gam} {S : Hp} {α : Type} {r : R α} {k : α → Hp → Rho → St → Hp → Prop} (h : AftS p W Γ S (noexc r) k) : AftS p (fun _ _ _ _ => False) Γ S r k := by
  cases r with
  | bad => exact h
  | exc _ _ => exact h.elim
  | ok a ρ => exact h
theorem many_go {D : Ends} {Γ : Gam} {S : Hp} {ρ : Rho} {σ : St} {H : Hp} {x : Nat} (hsub : ∀ a b, PySem.W.exmOne X.K (.ref (p.cl a)) (.ref (p.cl b)) = some (p.c.sub a b)) (s : Sat Γ S ρ σ H) : ∀ {cs : List Nat} {hs : List DL.S}, cs.length = hs.length →
    (AftS p W Γ S (caught p.c.sub cs (execHs p.c hs) (.exc x ρ)) (kD Γ D)) → wMany X.K W D (tHs p cs hs) (.ref (p.cl x)) none σ H
  | [], [], _, h => h S σ H (Ex.refl S) s
  | [], _ :: _, e, _ => nomatch e
  | _ :: _, [], e, _ => nomatch e
  | c :: cs, y :: hs, e, h => by
    refine ⟨_, hsub x c, fun hb a ha => ?_, fun hb => ?_⟩
    · have z : caught p.c.sub (c :: cs) (execHs p.c (y :: hs)) (.exc x ρ) = noexc (exec p.c y ρ) := by
        unfold caught execHs pick
        simp only [hb, if_true]
      rw [z] at h
      exact ⟨Γ, S, ρ, s, noexc_aft h⟩
    · have z : caught p.c.sub (c :: cs) (execHs p.c (y :: hs)) (.exc x ρ) = caught p.c.sub cs (execHs p.c hs) (.exc x ρ) := by
        have e1 : pick p.c.sub x (c :: cs) (execHs p.c (y :: hs)) = pick p.c.sub x cs (execHs p.c hs) := by
          rw [show execHs p.c (y :: hs) = exec p.c y :: execHs p.c hs from by rw [execHs]]
          conv => lhs; unfold pick
          rw [hb]
          rfl
        unfold caught
        simp only [e1]
      rw [z] at h
      exact many_go hsub s (Nat.succ.inj e) h
theorem dls_try {body : List Stmt} {h₀ : ExceptHandler} {hds : List ExceptHandler} {body' : List DL.S} {cs : List Nat} {hs' : List DL.S} (hs : X.stack = X.env :: X.outer) (hf : X.env.frame = some X.env.locals) (tk : Takes X W)
    (hsub : ∀ a b, PySem.W.exmOne X.K (.ref (p.cl a)) (.ref (p.cl b)) = some (p.c.sub a b)) (hl : cs.length = hs'.length)
    (hb : ∀ (W : WX) (pn : List (Addr × Obj)) (xe : Value → Shared → Prop), Takes (X.tr pn xe) W → PassesOwn (model X.prog X.w) X.A X.env xe → PSs (X.tr pn xe) body (tSs p W body'))
    (hh : HdsOk X (h₀ :: hds) (tHs p cs hs')) : PS X (.Try body (h₀ :: hds) [] [] pos) (tS p W (.tryS body' cs hs')) := PS.of (ps_try_many (tb := fun W => tSs p W body') hs hf tk hb hh) fun D σ H ⟨Γ, S, ρ, s, h⟩ => by
  unfold exec at h
  refine ⟨Γ, S, ρ, s, ?_⟩
  cases e : execs p.c body' ρ with
  | bad =>
    rw [e] at h
    exact h
  | ok fl ρ1 =>
    rw [e] at h
    exact h
  | exc x ρ1 =>
    rw [e] at h
    exact fun S1 σ1 H1 ex s1 => many_go hsub s1 hl (h.weak ex)
end
end DL
end

section
set_option Elab.async false
set_option linter.all false
set_option maxRecDepth 100000
set_option autoImplicit false
namespace DL
open PySem PySem.W L2
/-! ### own slots -/
theorem wipeR_length (ρ : Rho) : ∀ vs : List Nat, (wipeR ρ vs).length = ρ.length
  | [] => rfl
  | v :: vs => by
    unfold wipeR
    rw [List.length_set, wipeR_length ρ vs]
theorem wipeR_in {ρ : Rho} {i : Nat} {x : Sl} : ∀ {vs : List Nat}, (wipeR ρ vs)[i]? = some x → (i ∈ vs ∧ x = .no) ∨ (i ∉ vs ∧ ρ[i]? = some x)
  | [], h => .inr ⟨by simp, h⟩
  | v :: vs, h => by
    unfold wipeR at h
    rcases get_set h with ⟨z1, z2⟩ | ⟨z1, z2⟩
    · exact .inl ⟨by rw [z1]; exact List.mem_cons_self, z2⟩
    · rcases wipeR_in z2 with ⟨a, b⟩ | ⟨a, b⟩
      · exact .inl ⟨List.mem_cons_of_mem _ a, b⟩
      · exact .inr ⟨fun z => (List.mem_cons.mp z).elim (fun z => z1 z.symm) a, b⟩
theorem wipe_at {σ : St} {i : Nat} {vs : List Nat} (h : i ∉ vs) : (wipe σ vs)[i]? = σ[i]? := wipe_out h
theorem giveBack_length (ρ0 ρ : Rho) : ∀ vs : List Nat, (giveBack ρ0 ρ vs).length = ρ.length
  | [] => rfl
  | v :: vs => by
    unfold giveBack
    rw [List.length_set, giveBack_length ρ0 ρ vs]
theorem giveBack_in {ρ0 ρ : Rho} {i : Nat} {x : Sl} : ∀ {vs : List Nat}, (giveBack ρ0 ρ vs)[i]? = some x → (i ∈ vs ∧ x = ρ0.getD i .no) ∨ (i ∉ vs ∧ ρ[i]? = some x)
  | [], h => .inr ⟨by simp, h⟩
  | v :: vs, h => by
    unfold giveBack at h
    rcases get_set h with ⟨z1, z2⟩ | ⟨z1, z2⟩
    · subst z1
      exact .inl ⟨List.mem_cons_self, z2⟩
    · rcases giveBack_in z2 with ⟨a, b⟩ | ⟨a, b⟩
      · exact .inl ⟨List.mem_cons_of_mem _ a, b⟩
      · exact .inr ⟨fun z => (List.mem_cons.mp z).elim (fun z => z1 z.symm) a, b⟩
theorem wipe_set {σ : St} {i : Nat} {o : Option V} : ∀ {vs : List Nat}, i ∈ vs → wipe (σ.set i o) vs = wipe σ vs
  | [], h => nomatch h
  | v :: vs, h => by
    unfold wipe
    by_cases e : i = v
    · subst e
      by_cases m : i ∈ vs
      · rw [wipe_set m]
      · have c : ∀ {vs : List Nat}, i ∉ vs → wipe (σ.set i o) vs = (wipe σ vs).set i o := by
          intro vs
          induction vs with
          | nil => exact fun _ => rfl
          | cons w ws ih =>
            intro hn
            unfold wipe
            rw [ih fun z => hn (List.mem_cons_of_mem _ z), List.set_comm _ _ (fun z => hn (by rw [z]; exact List.mem_cons_self))]
        rw [c m, List.set_set]
    · rcases List.mem_cons.mp h with h | h
      · exact absurd h e
      · rw [wipe_set h]
theorem wipe_wipe {σ : St} {vs : List Nat} : wipe (wipe σ vs) vs = wipe σ vs := by
  have h : ∀ ws : List Nat, (∀ w ∈ ws, w ∈ vs) → wipe (wipe σ ws) vs = wipe σ vs := by
    intro ws
    induction ws with
    | nil => exact fun _ => rfl
    | cons w ws ih =>
      intro hw
      show wipe ((wipe σ ws).set w none) vs = _
      rw [wipe_set (hw w List.mem_cons_self)]
      exact ih fun z hz => hw z (List.mem_cons_of_mem _ hz)
  exact h vs fun _ h => h
theorem gT_wipe {K : PySem.W.Frag} {t : Tg} {v : V} {σ : St} {H : Hp} {Q : St → Hp → Prop} {vs : List Nat} (h : gT K t v σ H Q) (ht : ∀ i ∈ t.slots, i ∈ vs) : gT K t v σ H fun σ2 H2 => wipe σ2 vs = wipe σ vs ∧ Q σ2 H2 := by
  cases t with
  | nm i => exact ⟨wipe_set (ht i List.mem_cons_self), h⟩
  | tp is =>
    obtain ⟨a, xs, h1, h2, h3, h4⟩ := h
    refine ⟨a, xs, h1, h2, h3, ?_⟩
    have go : ∀ {is : List Nat} {xs : List V} {σ0 : St}, (∀ i ∈ is, i ∈ vs) → wipe σ0 vs = wipe σ vs → gNames is xs σ0 H Q → gNames is xs σ0 H fun σ2 H2 => wipe σ2 vs = wipe σ vs ∧ Q σ2 H2 := by
      intro is
      induction is with
      | nil => exact fun _ e ⟨e1, q⟩ => ⟨e1, e, q⟩
      | cons i is ih => exact fun hi e ⟨v, r, e1, q⟩ => ⟨v, r, e1, ih (fun j hj => hi j (List.mem_cons_of_mem _ hj)) ((wipe_set (hi i List.mem_cons_self)).trans e) q⟩
    exact go ht rfl h4
theorem idle_at {ρ : Rho} {vs : List Nat} (h : idle ρ vs = true) {i : Nat} (hi : i ∈ vs) : ρ[i]? = some .no ∨ ∃ d, ρ[i]? = some (.fz d) := by
  unfold idle at h
  have := List.all_eq_true.mp h i hi
  split at this
  · exact .inl (by assumption)
  · exact .inr ⟨_, by assumption⟩
  · cases this
section
variable {p : Par} {W : WX} {Γ : Gam} {S S' : Hp} {ρ ρ' : Rho} {σ : St} {H : Hp} {α β : Type} {vs : List Nat}
theorem Sat.wipe (s : Sat Γ S ρ σ H) (hv : ∀ j a q, (j, a, q) ∈ Γ.L → j ∉ vs) : Sat Γ S (wipeR ρ vs) (wipe σ vs) H := by
  have ow : ∀ {j : Nat} {d : D} {c : Addr}, (wipeR ρ vs)[j]? = some (.ow d) → (L2.wipe σ vs)[j]? = some (some (.ref c)) → ρ[j]? = some (.ow d) ∧ σ[j]? = some (some (.ref c)) := fun {j d c} e1 e2 => by
    rcases wipeR_in e1 with ⟨_, z⟩ | ⟨z1, z2⟩
    · cases z
    · exact ⟨z2, (wipe_some e2).1⟩
  refine ⟨by rw [wipeR_length, wipe_length]; exact s.len, s.sub, s.old, s.new, s.fr, fun j x e => ?_, fun j k e1 e2 c hjk q1 q2 z1 z2 => ?_, fun j c q e => ?_, s.dis, fun c u e => ?_⟩
  · rcases wipeR_in e with ⟨_, z⟩ | ⟨z1, z2⟩
    · subst z
      exact .no
    · have g : (L2.wipe σ vs)[j]? = σ[j]? := wipe_at z1
      cases s.slot j x z2 with
      | no => exact .no
      | fz a b => exact .fz (g.trans a) b
      | ow p1 p2 p3 p4 p5 => exact .ow (g.trans p1) p2 p3 p4 p5
      | io a b c d => exact .io (g.trans a) b c d
      | lent a b c => exact .lent (g.trans a) b c
  · exact s.one j k e1 e2 c hjk (ow q1 z1).1 (ow q2 z2).1 (ow q1 z1).2 (ow q2 z2).2
  · obtain ⟨g1, g2, g3, g4, g5⟩ := s.pin j c q e
    have hj := hv _ _ _ e
    have up : ∀ {x : Sl}, ρ[j]? = some x → (wipeR ρ vs)[j]? = some x := fun {x} h => by
      have hl : j < (wipeR ρ vs).length := by
        rw [wipeR_length]
        exact (List.getElem?_eq_some_iff.mp h).1
      rcases wipeR_in (List.getElem?_eq_getElem hl) with ⟨z, _⟩ | ⟨_, z⟩
      · exact absurd z hj
      · rw [List.getElem?_eq_getElem hl, ← z]
        exact h
    exact ⟨g1, by rw [wipe_at hj]; exact g2, fun k d hk z => g3 _ _ (ow hk z).1 (ow hk z).2, fun u hu => ⟨(g4 u hu).1, (g4 u hu).2.elim fun d hd => ⟨d, up hd⟩⟩, fun hu => (g5 hu).elim fun d hd => ⟨d, up hd⟩⟩
  · obtain ⟨k1, k2, k3, k4, k5⟩ := s.kept c u e
    exact ⟨k1, k2, fun k d hk z => k3 _ _ (ow hk z).1 (ow hk z).2, k4, k5⟩
theorem Sat.giveBack {ρ0 : Rho} (s : Sat Γ S ρ (L2.wipe σ vs) H) (hv : ∀ j a q, (j, a, q) ∈ Γ.L → j ∉ vs) (hb : ∀ j ∈ vs, ρ0.getD j .no = .no ∨ ∃ d v, ρ0.getD j .no = .fz d ∧ σ[j]? = some (some v) ∧ Rp S v d) : Sat Γ S (DL.giveBack ρ0 ρ vs) σ H := by
  have ow : ∀ {j : Nat} {d : D}, (DL.giveBack ρ0 ρ vs)[j]? = some (.ow d) → ρ[j]? = some (.ow d) ∧ (L2.wipe σ vs)[j]? = σ[j]? := fun {j d} e1 => by
    rcases giveBack_in e1 with ⟨z1, z2⟩ | ⟨z1, z2⟩
    · rcases hb j z1 with h | ⟨d', v, h, _⟩
      · rw [h] at z2
        cases z2
      · rw [h] at z2
        cases z2
    · exact ⟨z2, wipe_at z1⟩
  refine ⟨by rw [giveBack_length, s.len, wipe_length], s.sub, s.old, s.new, s.fr, fun j x e => ?_, fun j k e1 e2 c hjk q1 q2 z1 z2 => ?_, fun j c q e => ?_, s.dis, fun c u e => ?_⟩
  · rcases giveBack_in e with ⟨z1, z2⟩ | ⟨z1, z2⟩
    · rcases hb j z1 with h | ⟨d', v, h, h1, h2⟩
      · rw [h] at z2
        subst z2
        exact .no
      · rw [h] at z2
        subst z2
        exact .fz h1 h2
    · have g : (L2.wipe σ vs)[j]? = σ[j]? := wipe_at z1
      cases s.slot j x z2 with
      | no => exact .no
      | fz a b => exact .fz (g.symm.trans a) b
      | ow p1 p2 p3 p4 p5 => exact .ow (g.symm.trans p1) p2 p3 p4 p5
      | io a b c d => exact .io (g.symm.trans a) b c d
      | lent a b c => exact .lent (g.symm.trans a) b c
  · obtain ⟨a1, a2⟩ := ow q1
    obtain ⟨b1, b2⟩ := ow q2
    exact s.one j k e1 e2 c hjk a1 b1 (a2.trans z1) (b2.trans z2)
  · obtain ⟨g1, g2, g3, g4, g5⟩ := s.pin j c q e
    have hj := hv _ _ _ e
    have up : ∀ {x : Sl}, ρ[j]? = some x → (DL.giveBack ρ0 ρ vs)[j]? = some x := fun {x} h => by
      have hl : j < (DL.giveBack ρ0 ρ vs).length := by
        rw [giveBack_length]
        exact (List.getElem?_eq_some_iff.mp h).1
      rcases giveBack_in (List.getElem?_eq_getElem hl) with ⟨z, _⟩ | ⟨_, z⟩
      · exact absurd z hj
      · rw [List.getElem?_eq_getElem hl, ← z]
        exact h
    exact ⟨g1, by rw [← wipe_at hj]; exact g2, fun k d hk z => by
      obtain ⟨a1, a2⟩ := ow hk
      exact g3 _ _ a1 (a2.trans z), fun u hu => ⟨(g4 u hu).1, (g4 u hu).2.elim fun d hd => ⟨d, up hd⟩⟩, fun hu => (g5 hu).elim fun d hd => ⟨d, up hd⟩⟩
  · obtain ⟨k1, k2, k3, k4, k5⟩ := s.kept c u e
    exact ⟨k1, k2, fun k d hk z => by
      obtain ⟨a1, a2⟩ := ow hk
      exact k3 _ _ a1 (a2.trans z), k4, k5⟩
theorem AftS.ofEq {r : R α} {a : α} (e : r = .ok a ρ) : AftS p W Γ S r (fun a' _ ρ' _ _ => a' = a ∧ ρ' = ρ) := by
  subst e
  exact fun _ _ _ _ _ => ⟨rfl, rfl⟩
theorem bind_ok {r : R α} {f : α → Rho → R β} {b : β} {ρ' : Rho} (h : r.bind f = .ok b ρ') : ∃ a ρ1, r = .ok a ρ1 ∧ f a ρ1 = .ok b ρ' := by
  cases r with
  | bad => cases h
  | exc c r => cases h
  | ok a ρ1 => exact ⟨a, ρ1, rfl, h⟩
/-- the readings of a clause's tests -/
def CoR (p : Par) (c : E) (t : TT) : Prop := (isNop c = true ∧ t = tYes) ∨ (isNop c = false ∧ t = tT p (fun _ _ _ _ => False) c)
theorem co_go {c : E} {t : TT} {Q : Bool → Hp → Prop} {f : Bool → Rho → R β} {k : β → Hp → Rho → St → Hp → Prop} (hc : CoR p c t) (s : Sat Γ S ρ σ H) (h : AftS p (fun _ _ _ _ => False) Γ S ((condT c (ev p.c.cal c) ρ).bind f) k)
    (cont : ∀ b S1 ρ1 H1, Ex S S1 → Sat Γ S1 ρ1 σ H1 → AftS p (fun _ _ _ _ => False) Γ S1 (f b ρ1) k → Q b H1) : t σ H Q := by
  unfold condT at h
  rcases hc with ⟨e, rfl⟩ | ⟨e, rfl⟩
  · rw [if_pos e] at h
    exact cont true S ρ H (Ex.refl S) s h
  · rw [if_neg (by rw [e]; exact Bool.false_ne_true)] at h
    exact go_TS s h cont
/-- a comprehension's block -/
theorem comp_go {W : WX} {k : ItK} {es' : List E} {t : Tg} {own : List Nat} {cond elt : E} {tt : TT} {K : PySem.W.Frag} {Q : VK} (hco : CoR p cond tt) (s : Sat Γ S ρ σ H) (h : Aft p W Γ S σ ((ev p.c.cal (.comp k es' t own cond elt)).P ρ) (POk Γ σ Q)) :
    tLc (iSrc p W k es') (gT K t) tt (tE p (fun _ _ _ _ => False) elt) own σ H Q := by
  unfold ev at h
  refine ⟨Γ, S, ρ, s, (Aft.bind h).mono fun os S1 ρ1 H1 ex s1 h1 vs hvs => ?_⟩
  unfold cRun at h1
  cases z : itemsD k os ρ1 with
  | none =>
    simp only [z] at h1
    exact h1.elim
  | some xo =>
    obtain ⟨xs, o⟩ := xo
    simp only [z] at h1
    by_cases hc : (mayLend o ρ1 && !isKeys k && idle ρ1 own && (t.slots.all fun i => own.contains i) && decide (xs.length ≤ LIM)) = true
    · rw [if_pos hc] at h1
      simp only [Bool.and_eq_true, decide_eq_true_eq] at hc
      obtain ⟨⟨⟨⟨hm, hk⟩, hid⟩, hts⟩, hln⟩ := hc
      refine ⟨xs, o, rfl, fun v d J Ry hov hd w ry D hD => ?_⟩
      obtain ⟨Γ', s2, B, top⟩ := lend_o s1 hov hd hm
      have hts : ∀ i ∈ t.slots, i ∈ own := fun i hi => by
        have := List.all_eq_true.mp hts i hi
        simpa using this
      have hv' : ∀ j a q, (j, a, q) ∈ Γ'.L → j ∉ own := fun j a q hj hm' => by
        have P := s2.pin j a q hj
        have low : (∃ e, (lendS o ρ1)[j]? = some (.lent e)) ∨ ∃ e, (lendS o ρ1)[j]? = some (.io e) := by
          cases q with
          | none => exact .inr (P.io rfl)
          | some u => exact .inl (P.ob u rfl).2
        have back : (∃ x, ρ1[j]? = some x ∧ (∀ e, x ≠ .fz e) ∧ x ≠ .no) := by
          cases o with
          | fz _ => rcases low with ⟨e, z⟩ | ⟨e, z⟩ <;> exact ⟨_, z, nofun, nofun⟩
          | fresh _ => rcases low with ⟨e, z⟩ | ⟨e, z⟩ <;> exact ⟨_, z, nofun, nofun⟩
          | slot i =>
            unfold lendS at low
            cases q2 : ρ1[i]? with
            | none =>
              simp only [q2] at low
              rcases low with ⟨e, z⟩ | ⟨e, z⟩ <;> exact ⟨_, z, nofun, nofun⟩
            | some y =>
              cases y with
              | ow y =>
                simp only [q2] at low
                by_cases hij : i = j
                · subst hij
                  exact ⟨_, q2, nofun, nofun⟩
                · rw [List.getElem?_set_ne hij] at low
                  rcases low with ⟨e, z⟩ | ⟨e, z⟩ <;> exact ⟨_, z, nofun, nofun⟩
              | _ =>
                simp only [q2] at low
                rcases low with ⟨e, z⟩ | ⟨e, z⟩ <;> exact ⟨_, z, nofun, nofun⟩
        obtain ⟨x, hx, n1, n2⟩ := back
        rcases idle_at hid hm' with h | ⟨e, h⟩
        · rw [hx] at h
          cases h
          exact n2 rfl
        · rw [hx] at h
          cases h
          exact n1 _ rfl
      cases zc : cLoop (cTurn t own (condT cond (ev p.c.cal cond)) (ev p.c.cal elt).P) xs [] (wipeR (lendS o ρ1) own) with
      | bad =>
        rw [zc] at h1
        exact h1.elim
      | exc c r =>
        rw [zc] at h1
        exact h1.elim
      | ok dsF ρF =>
        rw [zc] at h1
        have h1 : Aft p W Γ S1 σ (.ok (.fresh (.list dsF)) (unlend o ρ1 (giveBack ρ1 ρF own))) (POk Γ σ Q) := h1
        have hDF : ∀ u, (D, u) ∉ Γ.F := s1.noKept hD
        have hDF' : ∀ u, (D, u) ∉ Γ'.F := s2.noKept hD
        have hD0 : Γ'.H0 D = none := s2.h0none hD
        have sw := (s2.wipe hv').newOb (o := .lst []) hD
        have k0 : Kept Γ' S1 (upd H1 D (.lst [])) (wipeR (lendS o ρ1) own) (L2.wipe σ own) D (.lst []) := ⟨upd_same, s2.sub.none hD, Bare.of_none (s2.wipe hv') hD, (s2.wipe hv').noPin hD, nofun⟩
        let Pv : Nat → Hp → Prop := fun i H => ∃ S ρ acc vacc, Ex S1 S ∧ Sat (Γ'.keep D (.lst vacc)) S ρ (L2.wipe σ own) H ∧ RpL S vacc acc ∧ vacc.length ≤ i ∧ cLoop (cTurn t own (condT cond (ev p.c.cal cond)) (ev p.c.cal elt).P) (xs.drop i) acc ρ = .ok dsF ρF
        refine ⟨fun i m H => m = xs.length - i ∧ i ≤ xs.length ∧ Pv i H, ⟨xs.length, by simp, Nat.zero_le _, S1, _, [], [], Ex.refl S1, sw.keep k0, .nil, Nat.le_refl _, zc⟩, ?_⟩
        rintro i m H ⟨rfl, hi, S2, ρ2, acc, vacc, e2, s3, racc, lacc, zl⟩
        have s3' := s3.unkeep.1
        have ryN : Ry S2 H := ry S2 H e2 s3.sub (top S2 ρ2 (L2.wipe σ own) H e2 s3')
        by_cases hlt : i < xs.length
        · refine .inr ⟨w.go i S2 H ryN hlt, Pv (i + 1), fun H' p' => ⟨xs.length - (i + 1), by omega, rfl, hlt, p'⟩, fun x H' y => ?_⟩
          obtain ⟨e, hy⟩ := w.yld i x S2 H H' ryN y
          subst e
          obtain ⟨S3, ex3, s4, rp⟩ := hy _ ρ2 _ xs[i] s3 (by rw [List.getElem?_eq_getElem hlt])
          rw [List.drop_eq_getElem_cons hlt] at zl
          unfold cLoop at zl
          obtain ⟨oT, ρT, zt, zl⟩ := bind_ok zl
          have aft := AftS.ofEq (p := p) (W := fun _ _ _ _ => False) (Γ := Γ'.keep D (.lst vacc)) (S := S3) zt
          unfold cTurn at aft
          refine gT_mono (gT_wipe (bindT_ok s4 rp aft) hts) fun σ5 H5 ⟨wp, ρ5, s5, h5⟩ => ⟨by rw [wp, wipe_wipe], ?_⟩
          rw [wipe_wipe] at wp
          refine co_go hco s5 h5 fun b S6 ρ6 H6 e6 s6 h6 => ?_
          have hvk : ∀ u j a q, (j, a, q) ∈ (Γ'.keep D u).L → j ∉ own := fun u => hv'
          cases b with
          | false =>
            simp only [Bool.false_eq_true, if_false] at h6 ⊢
            have q := h6.now (s6.wipe (hvk _))
            obtain ⟨q1, q2⟩ := q
            subst q1 q2
            have s7 := s6.wipe (hvk (.lst vacc))
            rw [wp] at s7
            exact ⟨S6, _, acc, vacc, (e2.trans ex3).trans e6, s7, racc.mono (ex3.trans e6), Nat.le_succ_of_le lacc, zl⟩
          | true =>
            simp only [if_true] at h6 ⊢
            refine go_ESv s6 h6 fun y2 S7 ρ7 H7 yv e7 s7 hyv h7 => ?_
            obtain ⟨dy, S8, ρ8, e8, s8, ry8, h8⟩ := escS s7 hyv h7
            have q := h8.now (s8.wipe (hvk _))
            obtain ⟨q1, q2⟩ := q
            subst q1 q2
            have e38 := ((ex3.trans e6).trans e7).trans e8
            refine ⟨vacc, s8.unkeep.2.ob, ?_, S8, _, acc ++ [dy], vacc ++ [yv], e2.trans e38, ?_, (racc.mono e38).append (.cons ry8 .nil), ?_, zl⟩
            · have : vacc.length < LIM := by omega
              exact Nat.lt_of_lt_of_le this (by unfold LIM sizeLine; decide)
            · have s9 := (s8.turn (o' := .lst (vacc ++ [yv])) nofun hDF' hD0).wipe (hvk _)
              rw [wp] at s9
              exact s9
            · rw [List.length_append]
              exact Nat.succ_le_succ lacc
        · have e : i = xs.length := by omega
          subst e
          rw [List.drop_length] at zl
          cases zl
          refine .inl ⟨w.stop _ S2 H ryN (Nat.le_refl _), ?_⟩
          have sb := s3'.giveBack (ρ0 := ρ1) hv' fun j hj => by
            rcases idle_at hid hj with h | ⟨e, h⟩
            · exact .inl (by rw [List.getD_eq_getElem?_getD, h]; rfl)
            · obtain ⟨v, a, b⟩ := s1.fz_at h
              exact .inr ⟨e, v, by rw [List.getD_eq_getElem?_getD, h]; rfl, a, b.mono e2⟩
          have K3 := s3.unkeep.2
          have sF := B.back _ _ _ _ sb
          have bare2 : Bare (giveBack ρ1 ρF own) σ D := fun j e hj => by
            rcases giveBack_in hj with ⟨z1, z2⟩ | ⟨z1, z2⟩
            · rcases idle_at hid z1 with h | ⟨e, h⟩
              · rw [List.getD_eq_getElem?_getD, h] at z2
                cases z2
              · rw [List.getD_eq_getElem?_getD, h] at z2
                cases z2
            · have := K3.bare j e z2
              rw [wipe_at z1] at this
              exact this
          exact h1 S2 H e2 sF D (.lst vacc) K3.ob (.lst racc) K3.s (by rw [← B.h0]; exact hD0) (B.bare _ _ _ _ _ sb K3.nopin bare2) (fun i q hi => K3.nopin i q (B.l _ hi)) hDF
    · rw [if_neg hc] at h1
      exact h1.elim
end
section
variable {X : Cx} {p : Par} {W : WX} {pos pos' : Pos} {tg iter elt : Expr} {ifs : List Expr} {scope : Scope} {own : List (Str × Nat)} {k : ItK} {es' : List E} {t : Tg} {cond' elt' : E} {tt : TT}
theorem dl_comp (hc : X.calm = true) (hN : X.N.Nodup) (hi : PI X tg iter (iSrc p W k es')) (ok : BlkOk X.N X.env.scope scope own)
    (hg : ∀ (s : Shared) (H : Hp) (C : Addr) (cl : List (Str × Addr)) (fp : List Addr), TgOk (X.blk s H scope (compEnvC scope cl C X.env) fp) tg t) (hco : CoR p cond' tt) (ht : ∀ (s : Shared) (H : Hp) (C : Addr) (cl : List (Str × Addr)) (fp : List Addr), PTs (X.blk s H scope (compEnvC scope cl C X.env) fp) ifs tt)
    (he : ∀ (s : Shared) (H : Hp) (C : Addr) (cl : List (Str × Addr)) (fp : List Addr), PE (X.blk s H scope (compEnvC scope cl C X.env) fp) elt (tE p (fun _ _ _ _ => False) elt')) (hs : ∀ x, foldedSetIterable iter X.env x = pure x := by intro _; rfl) :
    PE X (.ListComp elt [⟨tg, iter, ifs, 0⟩] scope pos) (tE p W (.comp k es' t (own.map (·.2)) cond' elt')) :=
  PE.of (pe_lc hc hN hi ok (fun s H C cl fp => TgOk.pg (X := X.blk s H scope (compEnvC scope cl C X.env) fp) hc hN (hg s H C cl fp)) ht he hs) fun σ H Q ⟨Γ, S, ρ, s, h⟩ => comp_go hco s h
theorem dls_asgC {i : Nat} {y : Str} {py cpos : Pos} (hc : X.calm = true) (hN : X.N.Nodup) (hy : X.N[i]? = some y) (hyl : X.env.scope.names.lookup y = some .local)
    (hsw : swapsWith (.ListComp elt [⟨tg, iter, ifs, 0⟩] scope cpos) (some (.Name y py)) pos.line X.env = pure true) (hi : PI X tg iter (iSrc p W k es')) (ok : BlkOk X.N X.env.scope scope own)
    (hg : ∀ (s : Shared) (H : Hp) (C : Addr) (cl : List (Str × Addr)) (fp : List Addr), TgOk (X.blk s H scope (compEnvC scope cl C X.env) fp) tg t) (hco : CoR p cond' tt) (ht : ∀ (s : Shared) (H : Hp) (C : Addr) (cl : List (Str × Addr)) (fp : List Addr), PTs (X.blk s H scope (compEnvC scope cl C X.env) fp) ifs tt)
    (he : ∀ (s : Shared) (H : Hp) (C : Addr) (cl : List (Str × Addr)) (fp : List Addr), PE (X.blk s H scope (compEnvC scope cl C X.env) fp) elt (tE p (fun _ _ _ _ => False) elt')) (hs : ∀ x, foldedSetIterable iter X.env x = pure x := by intro _; rfl) :
    PS X (.Assign [.Name y py] (.ListComp elt [⟨tg, iter, ifs, 0⟩] scope cpos) pos) (tS p W (.asg (.nm i) (.comp k es' t (own.map (·.2)) cond' elt'))) :=
  PS.of (ps_setLc hc hN hy hyl hsw hi ok (fun s H C cl fp => TgOk.pg (X := X.blk s H scope (compEnvC scope cl C X.env) fp) hc hN (hg s H C cl fp)) ht he hs) fun D σ H ⟨Γ, S, ρ, s, h⟩ => by
    unfold exec at h
    refine comp_go (K := X.K) (t := t) hco s (Q := fun v H1 => D.nx (σ.set i (some v)) H1) ?_
    exact h.toA.mono fun o S1 ρ1 H1 ex s1 h1 => (setO_ok s1 h1).mono fun v ⟨S2, ρ2, s2, h2⟩ => h2.now s2
end
end DL
end

section
set_option Elab.async false
set_option linter.all false
set_option maxRecDepth 100000
set_option autoImplicit false
namespace DL
open PySem PySem.W L2
/-- all tuples that stand may be counted as frozen -/
def addT (S H : Hp) : Hp := fun a => match S a with
  | some o => some o
  | none => match H a with
    | some (.tup xs) => some (.tup xs)
    | _ => none
section
variable {S H : Hp}
theorem addT_ex : Ex S (addT S H) := fun a o e => by
  unfold addT
  rw [e]
theorem addT_some {a : Addr} {o : HO} (h : addT S H a = some o) : S a = some o ∨ ∃ xs, H a = some (.tup xs) ∧ o = .tup xs := by
  unfold addT at h
  cases e : S a with
  | some u =>
    simp only [e] at h
    exact .inl h
  | none =>
    simp only [e] at h
    cases z : H a with
    | none =>
      simp only [z] at h
      cases h
    | some u =>
      cases u with
      | tup xs =>
        simp only [z] at h
        cases h
        exact .inr ⟨xs, rfl, rfl⟩
      | _ =>
        simp only [z] at h
        cases h
theorem addT_sub (e : Ex S H) : Ex (addT S H) H := fun a o h => by
  rcases addT_some h with h | ⟨xs, h1, rfl⟩
  · exact e a o h
  · exact h1
theorem addT_tup (e : Ex S H) {a : Addr} {xs : List V} (h : H a = some (.tup xs)) : addT S H a = some (.tup xs) := by
  unfold addT
  cases z : S a with
  | none => simp only [h]
  | some o =>
    have := e a o z
    rw [h] at this
    cases this
    rfl
theorem Sat.addT {Γ : Gam} {ρ : Rho} {σ : St} (s : Sat Γ S ρ σ H) : Sat Γ (DL.addT S H) ρ σ H :=
  s.grow addT_ex (addT_sub s.sub) (fun a o h => h) fun a o h => by
    rcases addT_some h with h | ⟨xs, h1, rfl⟩
    · exact .inl h
    · exact .inr (.inr ⟨xs, h1⟩)
theorem rp_kV (k : Key) : Rp S (kV k) (keyD k) := by
  cases k with
  | inl i => exact .int i
  | inr x => exact .str x
theorem rpL_kV : ∀ ks : List Key, RpL S (ks.map kV) (ks.map keyD)
  | [] => .nil
  | k :: ks => .cons (rp_kV k) (rpL_kV ks)
theorem rpK_keys : ∀ {ps : List (Key × V)} {kvs : List (D × D)}, RpK S ps kvs → kvs.map (·.1) = ps.map fun p => keyD p.1
  | _, _, .nil => rfl
  | _, _, .cons h r => by
    rw [List.map_cons, List.map_cons, rpK_keys r]
theorem rpT_keys : ∀ {ps : List (List Key × V)} {kvs : List (D × D)}, RpT S ps kvs → kvs.map (·.1) = ps.map fun p => PyData.tuple (p.1.map keyD)
  | _, _, .nil => rfl
  | _, _, .cons h r => by
    rw [List.map_cons, List.map_cons, rpT_keys r]
theorem keysD_K {ps : List (Key × V)} {kvs : List (D × D)} (r : RpK S ps kvs) : keysD (.dict kvs) = some (ps.map fun p => keyD p.1) := by
  rw [← rpK_keys r]
  cases r with
  | nil => rfl
  | cons h r =>
    rename_i k v ps d kvs
    cases k <;> rfl
theorem keysD_T {ps : List (List Key × V)} {kvs : List (D × D)} (r : RpT S ps kvs) : keysD (.dict ((.none, .none) :: kvs)) = some (ps.map fun p => PyData.tuple (p.1.map keyD)) := by
  rw [← rpT_keys r]
  rfl
theorem keysD_some {dd : D} {ks : List D} (h : keysD dd = some ks) : ∃ kvs, dd = .dict kvs := by
  cases dd <;> first | exact ⟨_, rfl⟩ | cases h
/-! ### a loop over a dict's keys -/
theorem walks_K {a : Addr} {od : Obj} {ps : List (Key × V)} : Walks (Itk a od ps) (ps.map fun p => keyD p.1) (fun S H => H a = some (.frz od (.dK ps))) where
  stop := fun i S H h hi => ⟨h, by rw [List.length_map] at hi; exact hi⟩
  go := fun i S H h hi => ⟨h, by rw [List.length_map] at hi; exact hi⟩
  yld := fun i x S H H' h ⟨e1, k, v, e2, e3⟩ => ⟨e1, fun Γ ρ σ y s hy => by
    rw [List.getElem?_map, e2] at hy
    cases hy
    subst e3
    exact ⟨S, Ex.refl S, s, rp_kV k⟩⟩
theorem walks_T {a : Addr} {od : Obj} {ps : List (List Key × V)} : Walks (Itkt a od ps) (ps.map fun p => PyData.tuple (p.1.map keyD)) (fun S H => H a = some (.frz od (.dT ps))) where
  stop := fun i S H h hi => ⟨h, by rw [List.length_map] at hi; exact hi⟩
  go := fun i S H h hi => ⟨h, by rw [List.length_map] at hi; exact hi⟩
  yld := fun i x S H H' h ⟨e1, k, v, q, e2, e3, e4⟩ => ⟨e1, fun Γ ρ σ y s hy => by
    rw [List.getElem?_map, e2] at hy
    cases hy
    subst e3
    exact ⟨_, addT_ex, s.addT, .tup (addT_tup s.sub e4) (rpL_kV k)⟩⟩
end
section
variable {X : Cx} {p : Par} {W : WX} {pos pos' : Pos} {tg : Expr}
theorem itemsK (o : Out) (ρ : Rho) : itemsD .keys [o] ρ = (deref o ρ).bind fun d => (keysD d).map fun xs => (xs, o) := rfl
theorem isOw_some {o : Out} {ρ : Rho} (h : isOw o ρ = true) : ∃ i d, o = .slot i ∧ ρ[i]? = some (.ow d) := by
  cases o with
  | slot i =>
    unfold isOw at h
    cases e : ρ[i]? with
    | none =>
      simp only [e] at h
      cases h
    | some x =>
      cases x with
      | ow d => exact ⟨i, d, rfl, e⟩
      | _ =>
        simp only [e] at h
        cases h
  | _ => cases h
theorem dls_forK {i : Nat} {iter : Expr} {t : Tg} {body : List Stmt} {body' : List DL.S} (hp : PassesOwn (model X.prog X.w) X.A X.env X.xe) (hc : X.calm = true) (hN : X.N.Nodup) (he : PE X iter (tE p W (.var i))) (hg : TgOk X tg t) (hb : PSs X body (tSs p (fun _ _ _ _ => False) body'))
    (hs : ∀ x, foldedSetIterable iter X.env x = pure x := by intro _; rfl) : PS X (.For tg iter body [] pos) (tS p W (.forS .keys [.var i] t body')) := PS.of (ps_lock (ps_for hp hc (pi_keys he) (hg.pg hc hN) hb hs)) fun D σ H ⟨Γ, S, ρ, s, h⟩ => by
  unfold exec evA evA ev Ev.of at h
  dsimp only at h
  cases zi : ρ[i]? with
  | none =>
    simp only [zi] at h
    exact h.elim
  | some x =>
    have hx : ∃ d, x = .ow d := by
      cases x with
      | ow d => exact ⟨d, rfl⟩
      | no =>
        simp only [zi] at h
        exact h.elim
      | fz d =>
        simp only [zi] at h
        unfold fRun at h
        cases z : itemsD .keys [settle (.fz d)] ρ with
        | none =>
          simp only [R.bind_ok, z] at h
          exact h.elim
        | some xo =>
          simp only [R.bind_ok, z] at h
          obtain ⟨xs, o⟩ := xo
          rw [if_pos (show isKeys .keys = true from rfl)] at h
          split at h
          · rename_i ho
            obtain ⟨j, d', eo, _⟩ := isOw_some ho
            subst eo
            rw [itemsK] at z
            cases q : (deref (settle (.fz d)) ρ).bind fun d => (keysD d).map fun xs => (xs, settle (.fz d)) with
            | none =>
              have z : none = some (xs, Out.slot j) := by rw [← q]; exact z
              cases z
            | some y =>
              have z2 : some y = some (xs, Out.slot j) := by rw [← q]; exact z
              cases z2
              have q : ((keysD d).map fun xs => (xs, Out.fz d)) = some (xs, Out.slot j) := q
              cases q3 : keysD d with
              | none => rw [q3] at q; cases q
              | some _ => rw [q3] at q; cases q
          · exact h.elim
      | io d =>
        simp only [zi] at h
        unfold fRun at h
        cases z : itemsD .keys [settle (.slot i)] ρ with
        | none =>
          simp only [R.bind_ok, z] at h
          exact h.elim
        | some xo =>
          simp only [R.bind_ok, z] at h
          obtain ⟨xs, o⟩ := xo
          rw [if_pos (show isKeys .keys = true from rfl)] at h
          split at h
          · rename_i ho
            obtain ⟨j, d', eo, hj⟩ := isOw_some ho
            subst eo
            rw [itemsK] at z
            have dr : deref (settle (.slot i)) ρ = some d := by
              show deref (.slot i) ρ = _
              unfold deref
              simp only [zi]
            rw [dr] at z
            have q : ((keysD d).map fun xs => (xs, Out.slot i)) = some (xs, Out.slot j) := z
            cases q3 : keysD d with
            | none => rw [q3] at q; cases q
            | some _ =>
              rw [q3] at q
              cases q
              rw [zi] at hj
              cases hj
          · exact h.elim
      | lent d =>
        simp only [zi] at h
        unfold fRun at h
        cases z : itemsD .keys [settle (.slot i)] ρ with
        | none =>
          simp only [R.bind_ok, z] at h
          exact h.elim
        | some xo =>
          simp only [R.bind_ok, z] at h
          obtain ⟨xs, o⟩ := xo
          rw [if_pos (show isKeys .keys = true from rfl)] at h
          split at h
          · rename_i ho
            obtain ⟨j, d', eo, hj⟩ := isOw_some ho
            subst eo
            rw [itemsK] at z
            have dr : deref (settle (.slot i)) ρ = some d := by
              show deref (.slot i) ρ = _
              unfold deref
              simp only [zi]
            rw [dr] at z
            have q : ((keysD d).map fun xs => (xs, Out.slot i)) = some (xs, Out.slot j) := z
            cases q3 : keysD d with
            | none => rw [q3] at q; cases q
            | some _ =>
              rw [q3] at q
              cases q
              rw [zi] at hj
              cases hj
          · exact h.elim
    obtain ⟨d, rfl⟩ := hx
    simp only [zi] at h
    have dr : deref (.slot i) ρ = some d := by
      unfold deref
      simp only [zi]
    cases zk : keysD d with
    | none =>
      have z : itemsD .keys [settle (.slot i)] ρ = none := by
        show (deref (.slot i) ρ).bind _ = _
        rw [dr]
        show (keysD d).map _ = _
        rw [zk]
        rfl
      unfold fRun at h
      simp only [R.bind_ok, z] at h
      exact h.elim
    | some ks =>
      have z : itemsD .keys [settle (.slot i)] ρ = some (ks, .slot i) := by
        show (deref (.slot i) ρ).bind _ = _
        rw [dr]
        show (keysD d).map _ = _
        rw [zk]
        rfl
      unfold fRun at h
      simp only [R.bind_ok, z] at h
      rw [if_pos (show isKeys .keys = true from rfl), if_pos (show isOw (.slot i) ρ = true by
        unfold isOw
        simp only [zi])] at h
      have zl : lendS (.slot i) ρ = ρ.set i (.lent d) := by
        unfold lendS
        simp only [zi]
      rw [zl] at h
      obtain ⟨a, ob, h1, h2, h3, h4, h5⟩ := s.ow_at zi
      obtain ⟨np, nF⟩ := s.owFree zi h1
      have hn : ∀ j, (i, j) ∉ Γ.L.map fun x => (x.1, x.2.1) := fun j hj => by
        obtain ⟨⟨i', a', q'⟩, hm', he⟩ := List.mem_map.mp hj
        cases he
        exact s.notPin zi nofun nofun hm' rfl
      refine ⟨a, ob, h2, h3.mut, fun od => ?_⟩
      have sl := s.lend (o := .frz od ob) (H' := upd H a (.frz od ob)) zi h1 (.inr ⟨od, ob, rfl, h3⟩) upd_same fun b hb => upd_ne hb
      have pinF : ∀ {S1 ρ1 σ1 H1}, Sat (Γ.lend i a (.frz od ob)) S1 ρ1 σ1 H1 → H1 a = some (.frz od ob) := fun s1 => ((s1.pin _ _ _ (mem_lend.mpr (.inl ⟨rfl, rfl, rfl⟩))).ob _ rfl).1
      have un : ∀ {S1 ρ1 σ1 H1}, Sat (Γ.lend i a (.frz od ob)) S1 ρ1 σ1 H1 → Sat Γ S1 (unlend (.slot i) ρ ρ1) σ1 (upd H1 a ob) := fun {S1 ρ1 σ1 H1} s1 => by
        obtain ⟨d', hd', s2⟩ := s1.unlend (H' := upd H1 a ob) (u := ob) h5 np hn nF (fun d h => h.own (fun b x z => by cases z; rfl) fun hh => absurd rfl (hh od ob)) upd_same (fun b hb => upd_ne hb)
        have z : unlend (.slot i) ρ ρ1 = ρ1.set i (.ow d') := by
          unfold unlend
          simp only [zi, hd']
        rw [z]
        exact s2
      have hU : AftS p (fun _ _ _ _ => False) (Γ.lend i a (.frz od ob)) S (fLoop (fun x ρ => (bindT t x ρ).bind fun _ ρ' => execs p.c body' ρ') ks (ρ.set i (.lent d)))
          (fun fl S' ρ' σ' H' => kD Γ D fl S' (unlend (.slot i) ρ ρ') σ' (upd H' a ob)) := by
        generalize fLoop (fun x ρ => (bindT t x ρ).bind fun _ ρ' => execs p.c body' ρ') ks (ρ.set i (.lent d)) = r at h ⊢
        cases r with
        | bad => exact h
        | exc x ρ' => exact h.elim
        | ok fl ρ' => exact fun S1 σ1 H1 e1 s1 => h S1 σ1 _ e1 (un s1)
      have bareU : ∀ {S1 ρ1 σ1 H1 b}, Sat (Γ.lend i a (.frz od ob)) S1 ρ1 σ1 H1 → b ≠ a → Bare ρ1 σ1 b → Bare (unlend (.slot i) ρ ρ1) σ1 b := fun {S1 ρ1 σ1 H1 b} s1 hb bb => by
        unfold unlend
        simp only [zi]
        cases q : ρ1[i]? with
        | none => exact bb
        | some y =>
          cases y with
          | lent y =>
            intro j e hj
            rcases get_set hj with ⟨z1, _⟩ | ⟨_, z1⟩
            · subst z1
              have pm := (s1.pin i a _ (mem_lend.mpr (.inl ⟨rfl, rfl, rfl⟩))).at_
              rw [pm]
              intro z2
              cases z2
              exact hb rfl
            · exact bb j e z1
          | _ => exact bb
      refine ⟨Γ.lend i a (.frz od ob), S, _, sl, ?_⟩
      have gi : (ρ.set i (.lent d))[i]? = some (.lent d) := get_set_self zi
      unfold ev Ev.of
      dsimp only
      simp only [gi]
      refine fun S1 H1 e1 s1 v hv => ?_
      rw [h1] at hv
      cases hv
      have go := fun (J : It) (Ry : Hp → Hp → Prop) (w : Walks J ks Ry) (ry : ∀ S ρ σ H, Ex S1 S → Sat (Γ.lend i a (.frz od ob)) S ρ σ H → Ry S H) =>
        for_go (K := X.K) (p := p) (W := fun _ _ _ _ => False) (t := t) (body := body') (D := ⟨fun σ' H' => H' a = some (.frz od ob) ∧ D.nx σ' (upd H' a ob), fun v H' => H' a = some (.frz od ob) ∧ D.rt v (upd H' a ob), fun σ' H' => H' a = some (.frz od ob) ∧ D.bk σ' (upd H' a ob), fun σ' H' => H' a = some (.frz od ob) ∧ D.ct σ' (upd H' a ob)⟩) w ry s1 (hU.weak e1)
          (fun S2 ρ2 σ2 H2 _ s2 q => ⟨pinF s2, q⟩) fun fr d' S2 ρ2 σ2 H2 _ s2 q => by
            cases fr with
            | false => exact fun v hv => ⟨pinF s2, q v hv⟩
            | true =>
              intro b ob2 g1 g2 g3 g4 g5 g6 g7
              have hb : b ≠ a := fun z => g6 i _ (mem_lend.mpr (.inl ⟨rfl, z, rfl⟩))
              exact ⟨pinF s2, q b ob2 (by rw [upd_ne hb]; exact g1) g2 g3 g4 (bareU s2 hb g5) (fun j q hj => g6 j q (mem_lend.mpr (.inr hj))) g7⟩
      cases h3 with
      | lst r => cases zk
      | dK r =>
        rename_i ps kvs
        rw [keysD_K r] at zk
        cases zk
        exact ⟨a, od, rfl, .inl ⟨ps, pinF s1, go _ _ walks_K fun S2 ρ2 σ2 H2 _ s2 => pinF s2⟩⟩
      | dT r =>
        rename_i ps kvs
        rw [keysD_T r] at zk
        cases zk
        exact ⟨a, od, rfl, .inr ⟨ps, pinF s1, go _ _ walks_T fun S2 ρ2 σ2 H2 _ s2 => pinF s2⟩⟩
end
end DL
end

section
set_option Elab.async false
set_option linter.all false
set_option maxRecDepth 100000
set_option autoImplicit false
namespace DL
open PyProof.Rows (envOfC)
open PySem PySem.W L2
/-! ### what a def promises -/
def Ios (md : List Bool) (vs : List V) (a : Addr) : Prop := ∃ i : Nat, md[i]? = some true ∧ vs[i]? = some (V.ref a)
inductive ArgIn (S H : Hp) : List Bool → List V → List D → Prop
  | nil : ArgIn S H [] [] []
  | val {v : V} {d : D} {ms : List Bool} {vs : List V} {ds : List D} : Rp S v d → ArgIn S H ms vs ds → ArgIn S H (false :: ms) (v :: vs) (d :: ds)
  | io {a : Addr} {ob : HO} {d : D} {ms : List Bool} {vs : List V} {ds : List D} : H a = some ob → Own S ob d → S a = none → ¬ Ios ms vs a → ArgIn S H ms vs ds → ArgIn S H (true :: ms) (.ref a :: vs) (d :: ds)
inductive OutsOk (S H : Hp) : List Bool → List V → List (Option D) → Prop
  | nil : OutsOk S H [] [] []
  | val {v : V} {ms : List Bool} {vs : List V} {os : List (Option D)} : OutsOk S H ms vs os → OutsOk S H (false :: ms) (v :: vs) (none :: os)
  | io {a : Addr} {ob : HO} {d : D} {ms : List Bool} {vs : List V} {os : List (Option D)} : H a = some ob → Own S ob d → S a = none → OutsOk S H ms vs os → OutsOk S H (true :: ms) (.ref a :: vs) (some d :: os)
structure CallEnd (S S' H H' : Hp) (md : List Bool) (vs : List V) (os : List (Option D)) : Prop where
  ex : Ex S S'
  sub : Ex S' H'
  new : ∀ a o, S' a = some o → S a = some o ∨ H a = none ∨ ∃ xs, H a = some (.tup xs)
  fr : ∀ a o, H a = some o → ¬ Ios md vs a → H' a = some o
  outs : OutsOk S' H' md vs os
def spEnd (S H : Hp) (md : List Bool) (cl : Nat → Addr) (vs : List V) (Q : VK) (E : XK) : FR → Prop
  | .ret false d os => ∀ S' H', CallEnd S S' H H' md vs os → ∀ v, Rp S' v d → Q v H'
  | .ret true d os => ∀ S' H', CallEnd S S' H H' md vs os → ∀ a ob, H' a = some ob → Own S' ob d → S' a = none → H a = none → Q (.ref a) H'
  | .exc x os => ∀ S' H', CallEnd S S' H H' md vs os → E (.ref (cl x)) none H'
def spF (Φ : Nat → List D → Option FR) (md : List Bool) (cl : Nat → Addr) (f : Nat) : Sp := fun vs H Q E => ∃ S ds fr, Φ f ds = some fr ∧ Ex S H ∧ ArgIn S H md vs ds ∧ spEnd S H md cl vs Q E fr
theorem ArgIn.len {S H : Hp} {md : List Bool} {vs : List V} {ds : List D} (h : ArgIn S H md vs ds) : vs.length = md.length ∧ ds.length = md.length := by
  induction h with
  | nil => exact ⟨rfl, rfl⟩
  | val _ _ ih => exact ⟨congrArg Nat.succ ih.1, congrArg Nat.succ ih.2⟩
  | io _ _ _ _ _ ih => exact ⟨congrArg Nat.succ ih.1, congrArg Nat.succ ih.2⟩
theorem ArgIn.get {S H : Hp} {md : List Bool} {vs : List V} {ds : List D} (h : ArgIn S H md vs ds) : ∀ {k : Nat} {m : Bool} {d : D}, md[k]? = some m → ds[k]? = some d → (m = false ∧ ∃ v, vs[k]? = some v ∧ Rp S v d) ∨ (m = true ∧ ∃ a ob, vs[k]? = some (.ref a) ∧ H a = some ob ∧ Own S ob d ∧ S a = none) := by
  induction h with
  | nil =>
    intro k m d h1 h2
    cases h1
  | val h1 _ ih =>
    intro k m d e1 e2
    cases k with
    | zero =>
      cases e1
      cases e2
      exact .inl ⟨rfl, _, rfl, h1⟩
    | succ k => exact ih (k := k) e1 e2
  | io h1 h2 h3 h4 _ ih =>
    intro k m d e1 e2
    cases k with
    | zero =>
      cases e1
      cases e2
      exact .inr ⟨rfl, _, _, rfl, h1, h2, h3⟩
    | succ k => exact ih (k := k) e1 e2
theorem ArgIn.inj {S H : Hp} {md : List Bool} {vs : List V} {ds : List D} (h : ArgIn S H md vs ds) : ∀ {i j : Nat} {a : Addr}, md[i]? = some true → vs[i]? = some (.ref a) → md[j]? = some true → vs[j]? = some (.ref a) → i = j := by
  induction h with
  | nil =>
    intro i j a h1
    cases h1
  | val _ _ ih =>
    intro i j a h1 h2 h3 h4
    cases i with
    | zero => cases h1
    | succ i =>
      cases j with
      | zero => cases h3
      | succ j => exact congrArg Nat.succ (ih (i := i) (j := j) h1 h2 h3 h4)
  | io _ _ _ hn _ ih =>
    intro i j a h1 h2 h3 h4
    cases i with
    | zero =>
      cases j with
      | zero => rfl
      | succ j =>
        cases h2
        exact absurd ⟨j, h3, h4⟩ hn
    | succ i =>
      cases j with
      | zero =>
        cases h4
        exact absurd ⟨i, h1, h2⟩ hn
      | succ j => exact congrArg Nat.succ (ih (i := i) (j := j) h1 h2 h3 h4)
/-! ### a def's body -/
def ioP : Nat → List Bool → List V → List (Nat × Addr × Option HO)
  | i, true :: ms, .ref a :: vs => (i, a, none) :: ioP (i + 1) ms vs
  | i, _ :: ms, _ :: vs => ioP (i + 1) ms vs
  | _, _, _ => []
theorem mem_ioP : ∀ {md : List Bool} {vs : List V} {i j : Nat} {a : Addr} {q : Option HO}, (j, a, q) ∈ ioP i md vs ↔ q = none ∧ ∃ k, j = i + k ∧ md[k]? = some true ∧ vs[k]? = some (.ref a)
  | [], vs, i, j, a, q => by
    unfold ioP
    constructor
    · exact fun h => nomatch h
    · rintro ⟨_, k, _, h, _⟩
      cases h
  | m :: ms, [], i, j, a, q => by
    have e : ioP i (m :: ms) [] = [] := by
      cases m <;> rfl
    rw [e]
    constructor
    · exact fun h => nomatch h
    · rintro ⟨_, k, _, _, h⟩
      cases h
  | m :: ms, v :: vs, i, j, a, q => by
    have ih := mem_ioP (md := ms) (vs := vs) (i := i + 1) (j := j) (a := a) (q := q)
    have shift : (q = none ∧ ∃ k, j = i + 1 + k ∧ ms[k]? = some true ∧ vs[k]? = some (.ref a)) → q = none ∧ ∃ k, j = i + k ∧ (m :: ms)[k]? = some true ∧ (v :: vs)[k]? = some (.ref a) := fun ⟨h, k, h1, h2, h3⟩ => ⟨h, k + 1, by omega, h2, h3⟩
    have back : (q = none ∧ ∃ k, j = i + k ∧ (m :: ms)[k]? = some true ∧ (v :: vs)[k]? = some (.ref a)) → (q = none ∧ j = i ∧ m = true ∧ v = .ref a) ∨ (q = none ∧ ∃ k, j = i + 1 + k ∧ ms[k]? = some true ∧ vs[k]? = some (.ref a)) := fun ⟨h, k, h1, h2, h3⟩ => by
      cases k with
      | zero =>
        cases h2
        cases h3
        exact .inl ⟨h, h1, rfl, rfl⟩
      | succ k => exact .inr ⟨h, k, by omega, h2, h3⟩
    have plain : ioP i (m :: ms) (v :: vs) = ioP (i + 1) ms vs → (m = true → ∀ b, v ≠ .ref b) → ((j, a, q) ∈ ioP i (m :: ms) (v :: vs) ↔ q = none ∧ ∃ k, j = i + k ∧ (m :: ms)[k]? = some true ∧ (v :: vs)[k]? = some (.ref a)) := fun e hn => by
      rw [e, ih]
      constructor
      · exact shift
      · intro h
        rcases back h with ⟨_, _, h2, h3⟩ | h
        · exact absurd h3 (hn h2 _)
        · exact h
    cases m with
    | false => exact plain (by cases v <;> rfl) nofun
    | true =>
      cases v with
      | ref b =>
        have e : ioP i (true :: ms) (.ref b :: vs) = (i, b, none) :: ioP (i + 1) ms vs := rfl
        rw [e, List.mem_cons, ih]
        constructor
        · rintro (h | h)
          · cases h
            exact ⟨rfl, 0, rfl, rfl, rfl⟩
          · exact shift h
        · intro h
          rcases back h with ⟨h1, h2, h3, h4⟩ | h
          · cases h4
            subst h1 h2
            exact .inl rfl
          · exact .inr h
      | _ => exact plain rfl (fun _ b => nofun)
theorem startR_at {fd : FDef} {ds : List D} {i : Nat} {x : Sl} (h : (startR fd ds)[i]? = some x) (hl : ds.length = fd.md.length) : (∃ m d, fd.md[i]? = some m ∧ ds[i]? = some d ∧ x = if m then .io d else .fz d) ∨ x = .no := by
  unfold startR at h
  rw [List.getElem?_append] at h
  split at h
  · rw [List.getElem?_map] at h
    cases z : (fd.md.zip ds)[i]? with
    | none =>
      rw [z] at h
      cases h
    | some q =>
      rw [z] at h
      obtain ⟨m, d⟩ := q
      rw [List.getElem?_zip_eq_some] at z
      cases h
      exact .inl ⟨m, d, z.1, z.2, rfl⟩
  · exact .inr (List.eq_of_mem_replicate (List.mem_of_getElem? h))
theorem startR_lt {fd : FDef} {ds : List D} {i : Nat} {m : Bool} {d : D} (h1 : fd.md[i]? = some m) (h2 : ds[i]? = some d) : (startR fd ds)[i]? = some (if m then .io d else .fz d) := by
  unfold startR
  have z : (fd.md.zip ds)[i]? = some (m, d) := List.getElem?_zip_eq_some.mpr ⟨h1, h2⟩
  have hl : i < ((fd.md.zip ds).map (fun p => if p.1 then Sl.io p.2 else Sl.fz p.2)).length := by
    rw [List.length_map]
    exact (List.getElem?_eq_some_iff.mp z).1
  rw [List.getElem?_append_left hl, List.getElem?_map, z]
  rfl
theorem start_at {N : List Str} {vs : List V} {i : Nat} {v : V} (h : vs[i]? = some v) : (L2.start N vs)[i]? = some (some v) := by
  unfold L2.start
  have hl : i < (vs.map some).length := by
    rw [List.length_map]
    exact (List.getElem?_eq_some_iff.mp h).1
  rw [List.getElem?_append_left hl, List.getElem?_map, h]
  rfl
def Gam.top (S H : Hp) (md : List Bool) (vs : List V) : Gam := ⟨S, H, ioP 0 md vs, []⟩
theorem mem_top {S H : Hp} {md : List Bool} {vs : List V} {j : Nat} {a : Addr} {q : Option HO} : (j, a, q) ∈ (Gam.top S H md vs).L ↔ q = none ∧ md[j]? = some true ∧ vs[j]? = some (.ref a) := by
  show _ ∈ ioP 0 md vs ↔ _
  rw [mem_ioP]
  constructor
  · rintro ⟨h, k, e, h1, h2⟩
    have e : j = k := by omega
    subst e
    exact ⟨h, h1, h2⟩
  · rintro ⟨h, h1, h2⟩
    exact ⟨h, j, by omega, h1, h2⟩
theorem sat_start {S H : Hp} {fd : FDef} {vs : List V} {ds : List D} {N : List Str} (ex : Ex S H) (h : ArgIn S H fd.md vs ds) (hN : fd.slots = N.length) (hl : fd.md.length ≤ N.length) : Sat (Gam.top S H fd.md vs) S (startR fd ds) (L2.start N vs) H := by
  have l1 := h.len.1
  have l2 := h.len.2
  have noow : ∀ {j : Nat} {d : D}, (startR fd ds)[j]? ≠ some (.ow d) := fun {j d} z => by
    rcases startR_at z l2 with ⟨m, e, _, _, q⟩ | q
    · cases m <;> cases q
    · cases q
  refine ⟨?_, ex, Ex.refl S, fun a o h => .inl h, fun a o h _ => h, fun i x e => ?_, fun i j d e a hij q1 => absurd q1 noow, fun i a q e => ?_, fun i a q j b r e1 e2 hij => ?_, fun a o hm => nomatch hm⟩
  · unfold startR L2.start
    rw [List.length_append, List.length_append, List.length_map, List.length_map, List.length_zip, List.length_replicate, List.length_replicate]
    omega
  · rcases startR_at e l2 with ⟨m, d, h1, h2, q⟩ | q
    · rcases h.get h1 h2 with ⟨hm, v, g1, g2⟩ | ⟨hm, a, ob, g1, g2, g3, g4⟩
      · subst hm
        subst q
        exact .fz (start_at g1) g2
      · subst hm
        subst q
        exact .io (start_at g1) g2 g3 (mem_top.mpr ⟨rfl, h1, g1⟩)
    · subst q
      exact .no
  · obtain ⟨rfl, h1, h2⟩ := mem_top.mp e
    have hd : ∃ d, ds[i]? = some d := by
      have : i < ds.length := by
        rw [l2]
        exact (List.getElem?_eq_some_iff.mp h1).1
      exact ⟨_, List.getElem?_eq_getElem this⟩
    obtain ⟨d, hd⟩ := hd
    rcases h.get h1 hd with ⟨hm, _⟩ | ⟨_, b, ob, g1, g2, g3, g4⟩
    · cases hm
    · rw [h2] at g1
      cases g1
      refine ⟨g4, start_at h2, fun j d z => absurd z noow, nofun, fun _ => ⟨d, ?_⟩⟩
      rw [startR_lt h1 hd]
      rfl
  · obtain ⟨_, h1, h2⟩ := mem_top.mp e1
    obtain ⟨_, h3, h4⟩ := mem_top.mp e2
    intro z
    subst z
    exact hij (h.inj h1 h2 h3 h4)
theorem outs_ok {S H : Hp} : ∀ {md : List Bool} {vs : List V} {ρ : Rho} {os : List (Option D)}, (∀ (k : Nat) (d : D), ρ[k]? = some (Sl.io d) → md[k]? = some true → ∃ (a : Addr) (ob : HO), vs[k]? = some (V.ref a) ∧ H a = some ob ∧ Own S ob d ∧ S a = none) → outsR md ρ = some os → vs.length = md.length → OutsOk S H md vs os
  | [], [], ρ, os, _, h, _ => by
    cases h
    exact .nil
  | [], _ :: _, _, _, _, _, hl => nomatch hl
  | _ :: _, [], _, _, _, _, hl => nomatch hl
  | m :: ms, v :: vs, [], os, _, h, hl => by
    cases m <;> cases h
  | false :: ms, v :: vs, x :: ρ, os, hk, h, hl => by
    unfold outsR at h
    cases z : outsR ms ρ with
    | none =>
      rw [z] at h
      cases h
    | some r =>
      rw [z] at h
      cases h
      exact .val (outs_ok (fun k d h1 h2 => hk (k + 1) d h1 h2) z (Nat.succ.inj hl))
  | true :: ms, v :: vs, x :: ρ, os, hk, h, hl => by
    unfold outsR at h
    cases x with
    | io d =>
      cases z : outsR ms ρ with
      | none =>
        simp only [z] at h
        cases h
      | some r =>
        simp only [z] at h
        cases h
        obtain ⟨a, ob, h1, h2, h3, h4⟩ := hk 0 d rfl rfl
        cases h1
        exact .io h2 h3 h4 (outs_ok (fun k d h1 h2 => hk (k + 1) d h1 h2) z (Nat.succ.inj hl))
    | _ => cases h
theorem call_end {S S' H H' : Hp} {md : List Bool} {vs : List V} {ρ : Rho} {σ : St} {os : List (Option D)} (s : Sat (Gam.top S H md vs) S' ρ σ H') (h : outsR md ρ = some os) (hl : vs.length = md.length) : CallEnd S S' H H' md vs os := by
  refine ⟨s.old, s.sub, s.new, fun a o e hi => s.fr a o e fun i hm => hi ⟨i, (mem_top.mp hm).2.1, (mem_top.mp hm).2.2⟩, outs_ok (fun k d h1 h2 => ?_) h hl⟩
  obtain ⟨a, ob, h3, h4, h5, h6, h7⟩ := s.io_at h1
  exact ⟨a, ob, (mem_top.mp h6).2.2, h4, h5, h7⟩
/-- the table's meaning of a def, from its body -/
theorem fn_ok {P : Program} {w : World} {K : PySem.W.Frag} {mg : Str → Option Value} {base : Heap} {x qual : Str} {params : Arguments} {bd : List Stmt} {scope : Scope} {dvs : List V} {kws : List (Str × V)} {fa : Addr} {fdat : FuncData} {N ps : List Str} {k n i : Nat} {T : Tab} {d : FDef} {cl : Nat → Addr} (F : FunD K x qual params bd scope dvs kws fa fdat) (Sc : FnScope N ps scope)
    (hT : T.defs[i]? = some d) (hps : ps.length = d.md.length) (hN : d.slots = N.length) (hl : d.md.length ≤ N.length)
    (hb : ∀ (cdv : Value) (A : Around) (outer : List Env) (s : Shared) (H : Hp) (E : XK), Room k (A.deeper (envOfC qual scope s.heap.objs.size fa cdv)) →
      PSs (cxOf (L2.CX P w) P w K mg base N qual scope fa cdv A outer s H E) bd (tSs ⟨⟨⟨runF T n, T.md⟩, T.sub⟩, cl⟩ (fun cls dd _ H => E cls dd H) d.body)) :
    FnOk P w K mg base (L2.CX P w) (k + 1) fa fdat ps (spF (runF T (n + 1)) d.md cl i) := by
  refine F.ok Sc (fun vs H Q E h => ?_) fun cdv A outer s H vs Q E hr h => ⟨_, hb cdv A outer s H E hr, ?_⟩
  · obtain ⟨S, ds, fr, _, _, ha, _⟩ := h
    rw [ha.len.1, hps]
  · obtain ⟨S, ds, fr, hf, ex, ha, he⟩ := h
    refine ⟨_, S, startR d ds, sat_start ex ha hN hl, ?_⟩
    unfold runF at hf
    rw [hT] at hf
    have hf : (if ds.length = d.md.length then finish d.md (execs ⟨⟨runF T n, T.md⟩, T.sub⟩ d.body (startR d ds)) else none) = some fr := hf
    rw [if_pos ha.len.2] at hf
    generalize execs ⟨⟨runF T n, T.md⟩, T.sub⟩ d.body (startR d ds) = r at hf ⊢
    cases r with
    | bad => cases hf
    | exc c ρ =>
      unfold finish at hf
      dsimp only at hf
      cases z : outsR d.md ρ with
      | none =>
        rw [z] at hf
        cases hf
      | some os =>
        rw [z] at hf
        cases hf
        exact fun S' σ' H' e1 s1 => he S' H' (call_end s1 z ha.len.1)
    | ok fl ρ =>
      cases fl with
      | brk => cases hf
      | cont => cases hf
      | next =>
        unfold finish at hf
        dsimp only at hf
        cases z : outsR d.md ρ with
        | none =>
          rw [z] at hf
          cases hf
        | some os =>
          rw [z] at hf
          cases hf
          exact fun S' σ' H' e1 s1 => he S' H' (call_end s1 z ha.len.1) _ .non
      | ret fr v =>
        unfold finish at hf
        dsimp only at hf
        cases z : outsR d.md ρ with
        | none =>
          rw [z] at hf
          cases hf
        | some os =>
          rw [z] at hf
          cases hf
          intro S' σ' H' e1 s1
          have ce := call_end s1 z ha.len.1
          cases fr with
          | false => exact fun v hv => he S' H' ce v hv
          | true => exact fun a ob h1 h2 h3 h4 _ _ _ => he S' H' ce a ob h1 h2 h3 h4
theorem fn_none {P : Program} {w : World} {K : PySem.W.Frag} {mg : Str → Option Value} {base : Heap} {CX : CXT} {k : Nat} {f : Addr} {fd : FuncData} {ps : List Str} {Φ : Nat → List D → Option FR} {md : List Bool} {cl : Nat → Addr} {i : Nat} (h : ∀ ds, Φ i ds = none) : FnOk P w K mg base CX k f fd ps (spF Φ md cl i) :=
  have no : ∀ {vs : List V} {H : Hp} {Q : VK} {E : XK}, ¬ spF Φ md cl i vs H Q E := fun ⟨_, ds, _, e, _⟩ => by
    rw [h] at e
    cases e
  ⟨fun _ _ _ _ q => (no q).elim, fun _ _ _ _ _ _ _ _ _ _ _ _ _ q => (no q).elim⟩
theorem hu_room {A : Around} {k : Nat} (hr : Room k A) : A.units + 64 < cLine := by
  have := hr.un
  omega
theorem hu_room1 {A : Around} {k : Nat} (hr : Room k A) : A.units + 1 < cLine := by
  have := hr.un
  omega
end DL
end

section
set_option Elab.async false
set_option linter.all false
set_option maxRecDepth 100000
set_option autoImplicit false
namespace DL
open PySem PySem.W L2
/-! ### frozen parts more and less -/
open Classical in
noncomputable def plusB (S H : Hp) (B : Addr → Prop) : Hp := fun a => match S a with
  | some o => some o
  | none => if B a then H a else none
open Classical in
noncomputable def cutB (S : Hp) (B : Addr → Prop) : Hp := fun a => if B a then none else S a
section
variable {S H S' H' : Hp} {B : Addr → Prop}
theorem plusB_ex : Ex S (plusB S H B) := fun a o e => by
  unfold plusB
  rw [e]
theorem plusB_some {a : Addr} {o : HO} (h : plusB S H B a = some o) : S a = some o ∨ (S a = none ∧ B a ∧ H a = some o) := by
  unfold plusB at h
  cases e : S a with
  | some u =>
    simp only [e] at h
    exact .inl h
  | none =>
    simp only [e] at h
    split at h
    · exact .inr ⟨rfl, by assumption, h⟩
    · cases h
theorem plusB_at {a : Addr} {o : HO} (hs : S a = none) (hb : B a) (h : H a = some o) : plusB S H B a = some o := by
  unfold plusB
  simp only [hs]
  rw [if_pos hb]
  exact h
theorem plusB_none {a : Addr} (hs : S a = none) (hb : ¬ B a) : plusB S H B a = none := by
  unfold plusB
  simp only [hs]
  rw [if_neg hb]
theorem plusB_sub (e : Ex S H) : Ex (plusB S H B) H := fun a o h => by
  rcases plusB_some h with h | ⟨_, _, h⟩
  · exact e a o h
  · exact h
theorem cutB_some {a : Addr} {o : HO} (h : cutB S B a = some o) : S a = some o ∧ ¬ B a := by
  unfold cutB at h
  split at h
  · cases h
  · exact ⟨h, by assumption⟩
theorem cutB_at {a : Addr} {o : HO} (h : S a = some o) (hb : ¬ B a) : cutB S B a = some o := by
  unfold cutB
  rw [if_neg hb]
  exact h
theorem cutB_in {a : Addr} (hb : B a) : cutB S B a = none := by
  unfold cutB
  rw [if_pos hb]
theorem cutB_none {a : Addr} (h : S a = none) : cutB S B a = none := by
  unfold cutB
  split
  · rfl
  · exact h
/-- flat data lies in no list -/
theorem Rp.trim (hB : ∀ a, B a → ∀ xs, S a ≠ some (.tup xs)) : ∀ {v : V} {d : D}, Rp S v d → flat d = true → Rp (cutB S B) v d
  | _, _, .non, _ => .non
  | _, _, .bl b, _ => .bl b
  | _, _, .int i, _ => .int i
  | _, _, .str x, _ => .str x
  | _, _, .tup (a := a) (xs := xs) (ds := ds) h r, f => by
    have go : ∀ {vs : List V} {ds : List D}, RpL S vs ds → flats ds = true → (∀ v d, d ∈ ds → Rp S v d → flat d = true → Rp (cutB S B) v d) → RpL (cutB S B) vs ds := by
      intro vs ds
      induction ds generalizing vs with
      | nil =>
        intro r _ _
        cases r
        exact .nil
      | cons d ds ih =>
        intro r f h
        cases r with
        | cons r1 r2 =>
          unfold flats at f
          rw [Bool.and_eq_true] at f
          exact .cons (h _ _ List.mem_cons_self r1 f.1) (ih r2 f.2 fun v d hd => h v d (List.mem_cons_of_mem _ hd))
    unfold flat at f
    exact .tup (cutB_at h fun hb => hB a hb xs h) (go r f fun v d hd hr hf => by
      have := List.sizeOf_lt_of_mem hd
      exact Rp.trim hB hr hf)
  | _, _, .lst _ _, f => by cases f
  | _, _, .dK _ _, f => by cases f
  | _, _, .dT _ _, f => by cases f
termination_by _ d => sizeOf d
theorem RpL.trim (hB : ∀ a, B a → ∀ xs, S a ≠ some (.tup xs)) : ∀ {vs : List V} {ds : List D}, RpL S vs ds → flats ds = true → RpL (cutB S B) vs ds
  | _, _, .nil, _ => .nil
  | _, _, .cons r1 r2, f => by
    unfold flats at f
    rw [Bool.and_eq_true] at f
    exact .cons (r1.trim hB f.1) (RpL.trim hB r2 f.2)
def flatOwn : D → Bool
  | .list xs => flats xs
  | d => flat d
theorem Own.trim (hB : ∀ a, B a → ∀ xs, S a ≠ some (.tup xs)) {o : HO} {d : D} (h : Own S o d) (f : flatOwn d = true) : Own (cutB S B) o d := by
  cases h with
  | lst r => exact .lst (r.trim hB f)
  | dK r => cases f
  | dT r => cases f
theorem cut_id (hB : ∀ a, ¬ B a) : cutB S B = S := by
  funext a
  unfold cutB
  rw [if_neg (hB a)]
end
section
variable {p : Par} {W : WX} {Γ : Gam} {S S' : Hp} {ρ ρ' : Rho} {σ : St} {H H' : Hp} {α β : Type}
/-- a slot whose object nobody else holds -/
def Held (ρ : Rho) (i : Nat) : Prop := ∃ d, ρ[i]? = some (.ow d) ∨ ρ[i]? = some (.io d) ∨ ρ[i]? = some (.lent d)
theorem Sat.held (s : Sat Γ S ρ σ H) {i : Nat} (h : Held ρ i) : ∃ a o, σ[i]? = some (some (.ref a)) ∧ H a = some o ∧ S a = none ∧ (∀ xs, o ≠ .tup xs) := by
  obtain ⟨d, h | h | h⟩ := h
  · obtain ⟨a, o, h1, h2, h3, h4, _⟩ := s.ow_at h
    exact ⟨a, o, h1, h2, h4, h3.notTup⟩
  · obtain ⟨a, o, h1, h2, h3, _, h4⟩ := s.io_at h
    exact ⟨a, o, h1, h2, h4, h3.notTup⟩
  · obtain ⟨a, o, h1, h2, h3, _, h4⟩ := s.lent_at h
    exact ⟨a, o, h1, h2, h4, h3.notTup⟩
theorem Sat.apart (s : Sat Γ S ρ σ H) {i j : Nat} {a : Addr} (hi : Held ρ i) (hj : Held ρ j) (ei : σ[i]? = some (some (.ref a))) (ej : σ[j]? = some (some (.ref a))) : i = j := by
  by_cases e : i = j
  · exact e
  · exfalso
    have pinned : ∀ {k : Nat} {d : D}, σ[k]? = some (some (.ref a)) → (ρ[k]? = some (.io d) ∨ ρ[k]? = some (.lent d)) → ∃ q, (k, a, q) ∈ Γ.L := fun {k d} ek h => by
      rcases h with h | h
      · obtain ⟨b, o, h1, _, _, h4, _⟩ := s.io_at h
        rw [ek] at h1
        cases h1
        exact ⟨_, h4⟩
      · obtain ⟨b, o, h1, _, _, h4, _⟩ := s.lent_at h
        rw [ek] at h1
        cases h1
        exact ⟨_, h4⟩
    obtain ⟨d, hi | hi⟩ := hi
    · obtain ⟨d', hj | hj⟩ := hj
      · exact s.one i j d d' a e hi hj ei ej
      · obtain ⟨q, hq⟩ := pinned ej hj
        exact (s.pin _ _ _ hq).bare i d hi ei
    · obtain ⟨q, hq⟩ := pinned ei hi
      obtain ⟨d', hj | hj⟩ := hj
      · exact (s.pin _ _ _ hq).bare j d' hj ej
      · obtain ⟨r, hr⟩ := pinned ej hj
        exact s.dis _ _ _ _ _ _ hq hr e rfl
theorem deref_held {i : Nat} {d : D} (h : deref (.slot i) ρ = some d) : ρ[i]? = some (.fz d) ∨ Held ρ i := by
  unfold deref at h
  cases e : ρ[i]? with
  | none =>
    simp only [e] at h
    cases h
  | some x =>
    cases x with
    | no =>
      simp only [e] at h
      cases h
    | fz y =>
      simp only [e] at h
      cases h
      exact .inl rfl
    | ow y => exact .inr ⟨y, .inl e⟩
    | io y => exact .inr ⟨y, .inr (.inl e)⟩
    | lent y => exact .inr ⟨y, .inr (.inr e)⟩
/-- freezing what is only handed over -/
theorem freeze_go : ∀ {is : List Nat} {S : Hp} {ρ : Rho}, Sat Γ S ρ σ H → freezeAll is ρ = some ρ' → ∃ S', Ex S S' ∧ Sat Γ S' ρ' σ H ∧ (∀ j : Nat, j ∉ is → ρ'[j]? = ρ[j]?) ∧ (∀ (j : Nat) (x : Sl), ρ'[j]? = some x → (∀ d, x ≠ Sl.fz d) → ρ[j]? = some x) ∧ (∀ i ∈ is, ∃ (d : D) (v : V), ρ'[i]? = some (Sl.fz d) ∧ deref (.slot i) ρ = some d ∧ σ[i]? = some (some v) ∧ Rp S' v d)
  | [], S, ρ, s, h => by
    cases h
    exact ⟨S, Ex.refl S, s, fun _ _ => rfl, fun _ _ e _ => e, fun _ h => nomatch h⟩
  | i :: is, S, ρ, s, h => by
    unfold freezeAll at h
    cases e : ρ[i]? with
    | none =>
      simp only [e] at h
      cases h
    | some x =>
      cases x with
      | ow d =>
        simp only [e] at h
        obtain ⟨a, S1, h1, ex1, rp, s1⟩ := s.fzSlot e
        obtain ⟨S2, ex2, s2, k1, k2, k3⟩ := freeze_go s1 h
        have gi : (ρ.set i (.fz d))[i]? = some (.fz d) := get_set_self e
        have di : deref (.slot i) ρ = some d := by
          unfold deref
          simp only [e]
        refine ⟨S2, ex1.trans ex2, s2, fun j hj => ?_, fun j x hx hn => ?_, fun j hj => ?_⟩
        · rw [k1 j fun z => hj (List.mem_cons_of_mem _ z), List.getElem?_set_ne fun z => hj (by rw [z]; exact List.mem_cons_self)]
        · have := k2 j x hx hn
          rcases get_set this with ⟨_, z⟩ | ⟨_, z⟩
          · exact absurd z (hn d)
          · exact z
        · by_cases hij : i = j
          · subst hij
            by_cases hm : i ∈ is
            · obtain ⟨d', v, q1, q2, q3, q4⟩ := k3 i hm
              unfold deref at q2
              simp only [gi] at q2
              cases q2
              exact ⟨d, v, q1, di, q3, q4⟩
            · exact ⟨d, .ref a, by rw [k1 i hm]; exact gi, di, h1, rp.mono ex2⟩
          · rcases List.mem_cons.mp hj with z | hj
            · exact absurd z.symm hij
            · obtain ⟨d', v, q1, q2, q3, q4⟩ := k3 j hj
              refine ⟨d', v, q1, ?_, q3, q4⟩
              rw [← q2]
              unfold deref
              dsimp only
              rw [List.getElem?_set_ne hij]
      | fz d =>
        simp only [e] at h
        obtain ⟨v, h1, rp⟩ := s.fz_at e
        obtain ⟨S2, ex2, s2, k1, k2, k3⟩ := freeze_go s h
        have di : deref (.slot i) ρ = some d := by
          unfold deref
          simp only [e]
        refine ⟨S2, ex2, s2, fun j hj => k1 j fun z => hj (List.mem_cons_of_mem _ z), k2, fun j hj => ?_⟩
        rcases List.mem_cons.mp hj with z | hj
        · subst z
          by_cases hm : j ∈ is
          · exact k3 j hm
          · exact ⟨d, v, by rw [k1 j hm]; exact e, di, h1, rp.mono ex2⟩
        · exact k3 j hj
      | _ =>
        simp only [e] at h
        cases h
/-- the arguments at the entry -/
theorem arg_in {Sp : Hp} (s : Sat Γ S ρ σ H) : ∀ {md : List Bool} {os : List Out} {vs : List V} {ds : List D}, OutVs S σ os vs → argsD md os ρ = some ds →
    (∀ o v d, o ∈ os → (∀ i, o = .slot i → i ∈ valSlots md os) → OutV S σ o v → deref o ρ = some d → Rp Sp v d) →
    (∀ i ∈ inSlots md os, ∀ a o d, σ[i]? = some (some (.ref a)) → H a = some o → Own S o d → S a = none → Own Sp o d ∧ Sp a = none) → (inSlots md os).Nodup → ArgIn Sp H md vs ds
  | [], [], _, _, .nil, h, _, _, _ => by
    cases h
    exact .nil
  | [], _ :: _, _, _, _, h, _, _, _ => by cases h
  | m :: ms, [], _, _, .nil, h, _, _, _ => by cases m <;> cases h
  | false :: ms, o :: os, v :: vs, ds, .cons hv hr, h, hval, hio, nd => by
    unfold argsD at h
    cases z : deref o ρ with
    | none =>
      rw [z] at h
      cases h
    | some d =>
      rw [z] at h
      cases z2 : argsD ms os ρ with
      | none =>
        rw [z2] at h
        cases h
      | some es =>
        rw [z2] at h
        cases h
        have hi : inSlots (false :: ms) (o :: os) = inSlots ms os := by
          cases o <;> rfl
        rw [hi] at hio nd
        refine .val (hval o v d List.mem_cons_self (fun i e => ?_) hv z) (arg_in s hr z2 (fun o' v' d' ho h1 h2 h3 => hval o' v' d' (List.mem_cons_of_mem _ ho) (fun i e => ?_) h2 h3) hio nd)
        · subst e
          show i ∈ i :: valSlots ms os
          exact List.mem_cons_self
        · have := h1 i e
          cases o with
          | slot j => exact List.mem_cons_of_mem _ this
          | _ => exact this
  | true :: ms, o :: os, v :: vs, ds, .cons hv hr, h, hval, hio, nd => by
    cases o with
    | slot i =>
      unfold argsD at h
      have hv : σ[i]? = some (some v) := hv
      have hi : inSlots (true :: ms) (.slot i :: os) = i :: inSlots ms os := rfl
      rw [hi] at hio nd
      have hvs : valSlots (true :: ms) (.slot i :: os) = valSlots ms os := rfl
      have hval' : ∀ o v d, o ∈ os → (∀ i, o = .slot i → i ∈ valSlots ms os) → OutV S σ o v → deref o ρ = some d → Rp Sp v d := fun o v d ho h1 => hval o v d (List.mem_cons_of_mem _ ho) (fun j e => by rw [hvs]; exact h1 j e)
      have nd1 := (List.nodup_cons.mp nd).1
      have nd2 := (List.nodup_cons.mp nd).2
      have fin : ∀ (es : List D) (d : D), Held ρ i → (∃ a o, σ[i]? = some (some (.ref a)) ∧ H a = some o ∧ Own S o d ∧ S a = none) → argsD ms os ρ = some es → ArgIn Sp H (true :: ms) (v :: vs) (d :: es) := fun es d hh ⟨a, o, h1, h2, h3, h4⟩ z2 => by
        rw [hv] at h1
        cases h1
        obtain ⟨g1, g2⟩ := hio i List.mem_cons_self a o d hv h2 h3 h4
        refine .io h2 g1 g2 ?_ (arg_in s hr z2 hval' (fun j hj => hio j (List.mem_cons_of_mem _ hj)) nd2)
        -- nobody else holds it
        have far : ∀ {ms : List Bool} {os : List Out} {vs : List V} {es : List D}, OutVs S σ os vs → argsD ms os ρ = some es → i ∉ inSlots ms os → ¬ Ios ms vs a := by
          intro ms os vs es hr z hn ⟨k, hk1, hk2⟩
          induction k generalizing ms os vs es with
          | zero =>
            cases ms with
            | nil => cases hk1
            | cons m ms =>
              cases hk1
              cases hr with
              | nil => cases hk2
              | cons hv2 hr2 =>
                rename_i o2 v2 os2 vs2
                cases hk2
                cases o2 with
                | slot j =>
                  have hj : Held ρ j := by
                    unfold argsD at z
                    cases e : ρ[j]? with
                    | none =>
                      simp only [e] at z
                      cases z
                    | some x =>
                      cases x with
                      | ow y => exact ⟨y, .inl e⟩
                      | io y => exact ⟨y, .inr (.inl e)⟩
                      | _ =>
                        simp only [e] at z
                        cases z
                  have := s.apart hh hj hv hv2
                  subst this
                  exact hn List.mem_cons_self
                | _ => cases z
          | succ k ih =>
            cases ms with
            | nil => cases hk1
            | cons m ms =>
              cases hr with
              | nil => cases hk2
              | cons hv2 hr2 =>
                rename_i o2 v2 os2 vs2
                have : ∃ es, argsD ms os2 ρ = some es ∧ i ∉ inSlots ms os2 := by
                  cases m with
                  | false =>
                    unfold argsD at z
                    cases e : deref o2 ρ with
                    | none =>
                      rw [e] at z
                      cases z
                    | some y =>
                      rw [e] at z
                      cases e2 : argsD ms os2 ρ with
                      | none =>
                        rw [e2] at z
                        cases z
                      | some ys =>
                        refine ⟨ys, rfl, ?_⟩
                        have hi2 : inSlots (false :: ms) (o2 :: os2) = inSlots ms os2 := by
                          cases o2 <;> rfl
                        rw [← hi2]
                        exact hn
                  | true =>
                    cases o2 with
                    | slot j =>
                      have hi2 : i ∉ inSlots ms os2 := fun q => hn (List.mem_cons_of_mem _ q)
                      unfold argsD at z
                      cases e : ρ[j]? with
                      | none =>
                        simp only [e] at z
                        cases z
                      | some x =>
                        cases x with
                        | ow y =>
                          simp only [e] at z
                          cases e2 : argsD ms os2 ρ with
                          | none =>
                            rw [e2] at z
                            cases z
                          | some ys => exact ⟨ys, rfl, hi2⟩
                        | io y =>
                          simp only [e] at z
                          cases e2 : argsD ms os2 ρ with
                          | none =>
                            rw [e2] at z
                            cases z
                          | some ys => exact ⟨ys, rfl, hi2⟩
                        | _ =>
                          simp only [e] at z
                          cases z
                    | _ => cases z
                obtain ⟨es2, z2, hn2⟩ := this
                exact ih hr2 z2 hn2 hk1 hk2
        exact far hr z2 nd1
      cases e : ρ[i]? with
      | none =>
        simp only [e] at h
        cases h
      | some x =>
        cases x with
        | ow y =>
          simp only [e] at h
          cases z2 : argsD ms os ρ with
          | none =>
            rw [z2] at h
            cases h
          | some es =>
            rw [z2] at h
            cases h
            obtain ⟨a, o, h1, h2, h3, h4, _⟩ := s.ow_at e
            exact fin es _ ⟨_, .inl e⟩ ⟨a, o, h1, h2, h3, h4⟩ z2
        | io y =>
          simp only [e] at h
          cases z2 : argsD ms os ρ with
          | none =>
            rw [z2] at h
            cases h
          | some es =>
            rw [z2] at h
            cases h
            obtain ⟨a, o, h1, h2, h3, _, h4⟩ := s.io_at e
            exact fin es _ ⟨_, .inr (.inl e)⟩ ⟨a, o, h1, h2, h3, h4⟩ z2
        | _ =>
          simp only [e] at h
          cases h
    | _ => cases h
end
end DL
end

section
set_option Elab.async false
set_option linter.all false
set_option maxRecDepth 100000
set_option autoImplicit false
namespace DL
open PySem PySem.W L2
section
variable {p : Par} {W : WX} {Γ : Gam} {S S' : Hp} {ρ ρ' : Rho} {σ : St} {H H' : Hp} {α β : Type}
def OutSpec (S' H' : Hp) (σ : St) (ins : List Nat) (ρ ρ' : Rho) (fl : Bool) : Prop := ∀ (j : Nat) (x : Sl), ρ'[j]? = some x → (j ∉ ins ∧ ρ[j]? = some x) ∨ (j ∈ ins ∧ ∃ (a : Addr) (ob : HO) (d' : D), σ[j]? = some (some (V.ref a)) ∧ H' a = some ob ∧ Own S' ob d' ∧ S' a = none ∧ (fl = true → flatOwn d' = true) ∧
  ((x = Sl.ow d' ∧ ∃ d : D, ρ[j]? = some (Sl.ow d)) ∨ (x = Sl.io d' ∧ ∃ d : D, ρ[j]? = some (Sl.io d))))
theorem flatO_cons {d : D} {r : List (Option D)} (h : flatO (some d :: r) = true) : flatOwn d = true ∧ flatO r = true := by
  cases d <;> (unfold flatO at h; rw [Bool.and_eq_true] at h; exact h)
theorem outs_spec {σ : St} : ∀ {md : List Bool} {os : List Out} {vs : List V} {outs : List (Option D)} {ρ ρ' : Rho}, OutVs S σ os vs → OutsOk S' H' md vs outs → setOuts md os outs ρ = some ρ' →
    ρ'.length = ρ.length ∧ OutSpec S' H' σ (inSlots md os) ρ ρ' (flatO outs) ∧ ∀ j ∈ inSlots md os, ∃ d : D, ρ[j]? = some (Sl.ow d) ∨ ρ[j]? = some (Sl.io d)  := by
  intro md os vs outs ρ ρ' hr ho h
  induction ho generalizing os ρ with
  | nil =>
    cases hr
    cases h
    exact ⟨rfl, fun j x e => .inl ⟨nofun, e⟩, fun j hj => nomatch hj⟩
  | val ho ih =>
    rename_i v ms vs outs
    cases hr with
    | cons hv hr =>
      rename_i o os
      unfold setOuts at h
      obtain ⟨h1, h2, h3⟩ := ih hr h
      have hi : inSlots (false :: ms) (o :: os) = inSlots ms os := by
        cases o <;> rfl
      rw [hi]
      exact ⟨h1, h2, h3⟩
  | io k1 k2 k3 ho ih =>
   rename_i a ob d ms vs outs
   cases hr with
   | cons hv hr =>
    rename_i o os
    cases o with
    | slot i =>
      have hv : σ[i]? = some (some (.ref a)) := hv
      unfold setOuts at h
      have hfl := fun (f : flatO (some d :: outs) = true) => flatO_cons f
      have go : ∀ (y : Sl), ((y = Sl.ow d ∧ ∃ d0 : D, ρ[i]? = some (Sl.ow d0)) ∨ (y = Sl.io d ∧ ∃ d0 : D, ρ[i]? = some (Sl.io d0))) → setOuts ms os outs (ρ.set i y) = some ρ' →
          ρ'.length = ρ.length ∧ OutSpec S' H' σ (i :: inSlots ms os) ρ ρ' (flatO (some d :: outs)) ∧ ∀ j ∈ i :: inSlots ms os, ∃ d : D, ρ[j]? = some (Sl.ow d) ∨ ρ[j]? = some (Sl.io d) := by
        intro y hy h
        obtain ⟨h1, h2, h3⟩ := ih hr h
        have old : ∀ {j : Nat} {x : Sl}, (ρ.set i y)[j]? = some x → (i = j ∧ x = y) ∨ (i ≠ j ∧ ρ[j]? = some x) := get_set
        have kind : ∀ {j : Nat} {d0 : D}, ((ρ.set i y)[j]? = some (Sl.ow d0) → ∃ d1 : D, ρ[j]? = some (Sl.ow d1)) ∧ ((ρ.set i y)[j]? = some (Sl.io d0) → ∃ d1 : D, ρ[j]? = some (Sl.io d1)) := fun {j d0} => by
          constructor
          · intro e
            rcases old e with ⟨z1, z2⟩ | ⟨_, z⟩
            · subst z1
              rcases hy with ⟨q, w⟩ | ⟨q, w⟩
              · exact w
              · rw [q] at z2
                cases z2
            · exact ⟨d0, z⟩
          · intro e
            rcases old e with ⟨z1, z2⟩ | ⟨_, z⟩
            · subst z1
              rcases hy with ⟨q, w⟩ | ⟨q, w⟩
              · rw [q] at z2
                cases z2
              · exact w
            · exact ⟨d0, z⟩
        refine ⟨by rw [h1, List.length_set], fun j x e => ?_, fun j hj => ?_⟩
        · rcases h2 j x e with ⟨n1, n2⟩ | ⟨n1, b, ob', d', g1, g2, g3, g4, g5, g6⟩
          · rcases old n2 with ⟨z1, z2⟩ | ⟨z1, z2⟩
            · subst z1
              refine .inr ⟨List.mem_cons_self, a, ob, d, hv, k1, k2, k3, fun f => (hfl f).1, ?_⟩
              rw [z2]
              exact hy
            · exact .inl ⟨fun m => (List.mem_cons.mp m).elim (fun e => z1 e.symm) n1, z2⟩
          · refine .inr ⟨List.mem_cons_of_mem _ n1, b, ob', d', g1, g2, g3, g4, fun f => g5 (hfl f).2, ?_⟩
            rcases g6 with ⟨q, d0, w⟩ | ⟨q, d0, w⟩
            · exact .inl ⟨q, kind.1 w⟩
            · exact .inr ⟨q, kind.2 w⟩
        · rcases List.mem_cons.mp hj with z | hj
          · subst z
            rcases hy with ⟨_, d0, w⟩ | ⟨_, d0, w⟩
            · exact ⟨d0, .inl w⟩
            · exact ⟨d0, .inr w⟩
          · obtain ⟨d0, w | w⟩ := h3 j hj
            · obtain ⟨d1, w⟩ := kind.1 w
              exact ⟨d1, .inl w⟩
            · obtain ⟨d1, w⟩ := kind.2 w
              exact ⟨d1, .inr w⟩
      cases e : ρ[i]? with
      | none =>
        simp only [e] at h
        cases h
      | some x =>
        cases x with
        | ow y =>
          simp only [e] at h
          exact go _ (.inl ⟨rfl, y, e⟩) h
        | io y =>
          simp only [e] at h
          exact go _ (.inr ⟨rfl, y, e⟩) h
        | _ =>
          simp only [e] at h
          cases h
    | _ => cases h
theorem ios_slot {σ : St} {a : Addr} : ∀ {md : List Bool} {os : List Out} {vs : List V} {outs : List (Option D)} {ρ ρ' : Rho}, OutVs S σ os vs → setOuts md os outs ρ = some ρ' → Ios md vs a → ∃ j ∈ inSlots md os, σ[j]? = some (some (V.ref a)) := by
  intro md os vs outs ρ ρ' hr h ⟨k, h1, h2⟩
  induction k generalizing md os vs outs ρ with
  | zero =>
    cases md with
    | nil => cases h1
    | cons m ms =>
      cases h1
      cases hr with
      | nil => cases h2
      | cons hv hr2 =>
        rename_i o v os vs
        cases h2
        cases o with
        | slot i => exact ⟨i, List.mem_cons_self, hv⟩
        | _ =>
          cases outs with
          | nil => cases h
          | cons _ _ => cases h
  | succ k ih =>
    cases md with
    | nil => cases h1
    | cons m ms =>
      cases hr with
      | nil => cases h2
      | cons hv hr2 =>
        rename_i o v os vs
        cases outs with
        | nil =>
          cases m with
          | false => cases h
          | true => cases o <;> cases h
        | cons od outs =>
          have nx : (∃ ρ1, setOuts ms os outs ρ1 = some ρ') ∧ ∀ j ∈ inSlots ms os, j ∈ inSlots (m :: ms) (o :: os) := by
            cases m with
            | false =>
              refine ⟨⟨ρ, h⟩, fun j hj => ?_⟩
              have hi : inSlots (false :: ms) (o :: os) = inSlots ms os := by
                cases o <;> rfl
              rw [hi]
              exact hj
            | true =>
              cases o with
              | slot i =>
                refine ⟨?_, fun j hj => List.mem_cons_of_mem _ hj⟩
                cases od with
                | none => cases h
                | some d =>
                  unfold setOuts at h
                  cases e : ρ[i]? with
                  | none =>
                    simp only [e] at h
                    cases h
                  | some x =>
                    cases x with
                    | ow y =>
                      simp only [e] at h
                      exact ⟨_, h⟩
                    | io y =>
                      simp only [e] at h
                      exact ⟨_, h⟩
                    | _ =>
                      simp only [e] at h
                      cases h
              | _ => cases h
          obtain ⟨⟨ρ1, n1⟩, n2⟩ := nx
          obtain ⟨j, hj, e⟩ := ih hr2 n1 h1 h2
          exact ⟨j, n2 j hj, e⟩
/-- the slots behind a call -/
theorem call_sat {B : Addr → Prop} {md : List Bool} {os : List Out} {vs : List V} {outs : List (Option D)} (s : Sat Γ S ρ σ H) (hB : ∀ a, B a → ∃ i, Held ρ i ∧ i ∉ inSlots md os ∧ σ[i]? = some (some (V.ref a)))
    (ce : CallEnd (plusB S H B) S' H H' md vs outs) (hvs : OutVs S σ os vs) (so : setOuts md os outs ρ = some ρ') (hfl : flatO outs = true ∨ ∀ a, ¬ B a) : Sat Γ (cutB S' B) ρ' σ H' ∧ Ex S (cutB S' B) ∧ (∀ a, B a → ∀ xs, S' a ≠ some (.tup xs)) ∧
      (∀ a, H a = none → Γ.H0 a = none ∧ Bare ρ' σ a ∧ (∀ i q, (i, a, q) ∉ Γ.L) ∧ ∀ u, (a, u) ∉ Γ.F) := by
  obtain ⟨hl, sp, hin⟩ := outs_spec hvs ce.outs so
  have bs : ∀ a, B a → S a = none := fun a hb => by
    obtain ⟨i, h1, _, h2⟩ := hB a hb
    obtain ⟨b, o, g1, g2, g3, _⟩ := s.held h1
    rw [h2] at g1
    cases g1
    exact g3
  have exS : Ex S (cutB S' B) := fun a o e => cutB_at (ce.ex _ _ (plusB_ex _ _ e)) fun hb => by
    rw [bs a hb] at e
    cases e
  -- what stands where a held slot points
  have low : ∀ {a : Addr} {o : HO}, cutB S' B a = some o → S a = some o ∨ H a = none ∨ ∃ xs, H a = some (.tup xs) := fun {a o} h => by
    obtain ⟨h1, h2⟩ := cutB_some h
    rcases ce.new a o h1 with h3 | h3 | h3
    · rcases plusB_some h3 with h3 | ⟨_, h4, _⟩
      · exact .inl h3
      · exact absurd h4 h2
    · exact .inr (.inl h3)
    · exact .inr (.inr h3)
  have away : ∀ {a : Addr} {o : HO}, H a = some o → S a = none → (∀ xs, o ≠ .tup xs) → cutB S' B a = none := fun {a o} h1 h2 h3 => by
    cases z : cutB S' B a with
    | none => rfl
    | some u =>
      rcases low z with h | h | ⟨xs, h⟩
      · rw [h2] at h
        cases h
      · rw [h1] at h
        cases h
      · rw [h1] at h
        cases h
        exact absurd rfl (h3 xs)
  have heldIn : ∀ j ∈ inSlots md os, Held ρ j := fun j hj => by
    obtain ⟨d, h | h⟩ := hin j hj
    · exact ⟨d, .inl h⟩
    · exact ⟨d, .inr (.inl h)⟩
  have ios : ∀ {a : Addr}, Ios md vs a → ∃ j ∈ inSlots md os, σ[j]? = some (some (V.ref a)) := fun h => ios_slot hvs so h
  have noIos : ∀ {j : Nat} {a : Addr}, Held ρ j → σ[j]? = some (some (V.ref a)) → j ∉ inSlots md os → ¬ Ios md vs a := fun {j a} h1 h2 h3 h => by
    obtain ⟨k, hk, e⟩ := ios h
    have := s.apart h1 (heldIn k hk) h2 e
    subst this
    exact h3 hk
  -- the owned slots behind the call
  have ow : ∀ {j : Nat} {d : D}, ρ'[j]? = some (Sl.ow d) → ∃ d0 : D, ρ[j]? = some (Sl.ow d0) := fun {j d} e => by
    rcases sp j _ e with ⟨_, h⟩ | ⟨_, a, ob, d', _, _, _, _, _, h⟩
    · exact ⟨d, h⟩
    · rcases h with ⟨_, h⟩ | ⟨h, _⟩
      · exact h
      · cases h
  have up : ∀ {j : Nat} {x : Sl}, ρ[j]? = some x → j ∉ inSlots md os → ρ'[j]? = some x := fun {j x} e hj => by
    have hlt : j < ρ'.length := by
      rw [hl]
      exact (List.getElem?_eq_some_iff.mp e).1
    rcases sp j _ (List.getElem?_eq_getElem hlt) with ⟨_, h⟩ | ⟨h, _⟩
    · rw [List.getElem?_eq_getElem hlt, ← h]
      exact e
    · exact absurd h hj
  have bare : ∀ {a : Addr}, Bare ρ σ a → Bare ρ' σ a := fun {a} hb j d hj => by
    obtain ⟨d0, h⟩ := ow hj
    exact hb j d0 h
  have ownF : ∀ {ob : HO} {d : D}, Own S' ob d → (flatO outs = true → flatOwn d = true) → Own (cutB S' B) ob d := fun {ob d} h1 h2 => by
    rcases hfl with f | f
    · refine h1.trim (fun a hb xs e => ?_) (h2 f)
      obtain ⟨i, g1, _, g2⟩ := hB a hb
      obtain ⟨b, o, g3, g4, g5, g6⟩ := s.held g1
      rw [g2] at g3
      cases g3
      have := ce.ex _ _ (plusB_at g5 hb g4)
      rw [e] at this
      cases this
      exact g6 _ rfl
    · rw [cut_id f]
      exact h1
  refine ⟨⟨by rw [hl]; exact s.len, fun a o e => ce.sub _ _ (cutB_some e).1, s.old.trans exS, fun a o e => ?_, fun a o e hn => ?_, fun j x e => ?_, fun i j d e a hij q1 q2 z1 => ?_, fun i a q e => ?_, s.dis, fun a o e => ?_⟩, exS, fun a hb xs e => ?_, fun a ha => ⟨s.h0none ha, fun j d hj => ?_, s.noPin ha, s.noKept ha⟩⟩
  · rcases low e with h | h | ⟨xs, h⟩
    · exact s.new a o h
    · exact .inr (.inl (s.h0none h))
    · by_cases hL : ∀ i, (i, a, none) ∉ Γ.L
      · cases z : Γ.H0 a with
        | none => exact .inr (.inl rfl)
        | some u =>
          have := s.fr a u z hL
          rw [h] at this
          cases this
          exact .inr (.inr ⟨xs, rfl⟩)
      · exact absurd (fun i hi => by
          obtain ⟨d, e1⟩ := (s.pin _ _ _ hi).io rfl
          obtain ⟨b, o, h1, h2, h3, h4, _⟩ := s.io_at e1
          have z := s.pin_one hi h4
          subst z
          rw [h] at h2
          cases h2
          exact absurd rfl (h3.notTup xs)) hL
  · have h1 := s.fr a o e hn
    refine ce.fr a o h1 fun hi => ?_
    obtain ⟨j, hj, ej⟩ := ios hi
    obtain ⟨d, h | h⟩ := hin j hj
    · obtain ⟨b, ob, g1, _, _, _, g5⟩ := s.ow_at h
      rw [ej] at g1
      cases g1
      rw [e] at g5
      cases g5
    · obtain ⟨b, ob, g1, _, _, g4, _⟩ := s.io_at h
      rw [ej] at g1
      cases g1
      exact hn j g4
  · rcases sp j x e with ⟨n1, n2⟩ | ⟨n1, a, ob, d', g1, g2, g3, g4, g5, g6⟩
    · cases s.slot j x n2 with
      | no => exact .no
      | fz a b => exact .fz a (b.mono exS)
      | ow p1 p2 p3 p4 p5 => exact .ow p1 (ce.fr _ _ p2 (noIos ⟨_, .inl n2⟩ p1 n1)) (p3.mono exS) (away p2 p4 p3.notTup) p5
      | io p1 p2 p3 p4 => exact .io p1 (ce.fr _ _ p2 (noIos ⟨_, .inr (.inl n2)⟩ p1 n1)) (p3.mono exS) p4
      | lent p1 p2 p3 => exact .lent p1 (p2.mono exS) p3
    · have own := ownF g3 g5
      rcases g6 with ⟨q, d0, w⟩ | ⟨q, d0, w⟩
      · subst q
        obtain ⟨b, o, k1, _, _, _, k5⟩ := s.ow_at w
        rw [g1] at k1
        cases k1
        exact .ow g1 g2 own (cutB_none g4) k5
      · subst q
        obtain ⟨b, o, k1, _, _, k4, _⟩ := s.io_at w
        rw [g1] at k1
        cases k1
        exact .io g1 g2 own k4
  · obtain ⟨d0, h1⟩ := ow q1
    obtain ⟨d1, h2⟩ := ow q2
    exact s.one i j d0 d1 a hij h1 h2 z1
  · obtain ⟨g1, g2, g3, g4, g5⟩ := s.pin i a q e
    obtain ⟨o, ho⟩ := s.pin_at e
    have nt : ∀ xs, o ≠ .tup xs := fun xs z => by
      subst z
      cases q with
      | none =>
        obtain ⟨d, h⟩ := g5 rfl
        obtain ⟨b, o', h1, h2, h3, h4, _⟩ := s.io_at h
        have z := s.pin_one e h4
        subst z
        rw [ho] at h2
        cases h2
        exact h3.notTup xs rfl
      | some u =>
        obtain ⟨hu, d, h⟩ := g4 u rfl
        obtain ⟨b, o', h1, h2, h3, h4, _⟩ := s.lent_at h
        have z := s.pin_one e h4
        subst z
        rw [ho] at h2
        cases h2
        exact h3.notTup xs rfl
    refine ⟨away ho g1 nt, g2, bare g3, fun u hu => ?_, fun hu => ?_⟩
    · obtain ⟨h1, d, h2⟩ := g4 u hu
      have ni : i ∉ inSlots md os := fun hm => by
        obtain ⟨d0, h | h⟩ := hin i hm <;> (rw [h2] at h; cases h)
      exact ⟨ce.fr _ _ h1 (noIos ⟨d, .inr (.inr h2)⟩ g2 ni), d, up h2 ni⟩
    · obtain ⟨d, h2⟩ := g5 hu
      by_cases hm : i ∈ inSlots md os
      · have hlt : i < ρ'.length := by
          rw [hl]
          exact (List.getElem?_eq_some_iff.mp h2).1
        rcases sp i _ (List.getElem?_eq_getElem hlt) with ⟨h, _⟩ | ⟨_, b, ob, d', _, _, _, _, _, h⟩
        · exact absurd hm h
        · rcases h with ⟨_, d0, h⟩ | ⟨h, _⟩
          · rw [h2] at h
            cases h
          · exact ⟨d', by rw [List.getElem?_eq_getElem hlt, h]⟩
      · exact ⟨d, up h2 hm⟩
  · obtain ⟨k1, k2, k3, k4, k5⟩ := s.kept a o e
    refine ⟨ce.fr _ _ k1 fun hi => ?_, away k1 k2 k5, bare k3, k4, k5⟩
    obtain ⟨j, hj, ej⟩ := ios hi
    obtain ⟨d, h | h⟩ := hin j hj
    · exact k3 j d h ej
    · obtain ⟨b, ob, g1, _, _, g4, _⟩ := s.io_at h
      rw [ej] at g1
      cases g1
      exact k4 _ _ g4
  · obtain ⟨i, g1, _, g2⟩ := hB a hb
    obtain ⟨b, o, g3, g4, g5, g6⟩ := s.held g1
    rw [g2] at g3
    cases g3
    have := ce.ex _ _ (plusB_at g5 hb g4)
    rw [e] at this
    cases this
    exact g6 _ rfl
  · obtain ⟨d0, h⟩ := ow hj
    obtain ⟨b, o, g1, g2, _⟩ := s.ow_at h
    rw [g1]
    intro z
    cases z
    rw [ha] at g2
    cases g2
end
end DL
end

section
set_option Elab.async false
set_option linter.all false
set_option maxRecDepth 100000
set_option autoImplicit false
namespace DL
open PySem PySem.W L2
section
variable {p : Par} {W : WX} {Γ : Gam} {S S' : Hp} {ρ ρ' : Rho} {σ : St} {H H' : Hp} {α β : Type}
theorem ins_held : ∀ {md : List Bool} {os : List Out} {ds : List D}, argsD md os ρ = some ds → ∀ i ∈ inSlots md os, ∃ d : D, ρ[i]? = some (Sl.ow d) ∨ ρ[i]? = some (Sl.io d)
  | [], [], _, _, i, hi => nomatch hi
  | [], _ :: _, _, h, _, _ => nomatch h
  | m :: ms, [], _, h, _, hi => by cases m <;> cases hi
  | false :: ms, o :: os, ds, h, i, hi => by
    have e : inSlots (false :: ms) (o :: os) = inSlots ms os := by
      cases o <;> rfl
    rw [e] at hi
    unfold argsD at h
    cases z : deref o ρ with
    | none =>
      rw [z] at h
      cases h
    | some d =>
      rw [z] at h
      cases z2 : argsD ms os ρ with
      | none =>
        rw [z2] at h
        cases h
      | some es => exact ins_held z2 i hi
  | true :: ms, o :: os, ds, h, i, hi => by
    cases o with
    | slot j =>
      unfold argsD at h
      have hi : i ∈ j :: inSlots ms os := hi
      cases e : ρ[j]? with
      | none =>
        simp only [e] at h
        cases h
      | some x =>
        cases x with
        | ow y =>
          simp only [e] at h
          cases z2 : argsD ms os ρ with
          | none =>
            rw [z2] at h
            cases h
          | some es =>
            rcases List.mem_cons.mp hi with q | hi
            · subst q
              exact ⟨y, .inl e⟩
            · exact ins_held z2 i hi
        | io y =>
          simp only [e] at h
          cases z2 : argsD ms os ρ with
          | none =>
            rw [z2] at h
            cases h
          | some es =>
            rcases List.mem_cons.mp hi with q | hi
            · subst q
              exact ⟨y, .inr e⟩
            · exact ins_held z2 i hi
        | _ =>
          simp only [e] at h
          cases h
    | _ => cases h
def BorB (fl : Bool) (vals : List Nat) (ρ : Rho) (σ : St) (a : Addr) : Prop := fl = true ∧ ∃ i ∈ vals, Held ρ i ∧ σ[i]? = some (some (V.ref a))
/-- ahead of a call -/
theorem call_pre {md : List Bool} {os : List Out} {vs : List V} {ds : List D} {fl : Bool} {ρ2 : Rho} (s : Sat Γ S ρ σ H) (hok : okSlots md os = true) (hvs : OutVs S σ os vs) (ha : argsD md os ρ = some ds) (hf : afterC fl (valSlots md os) ρ = some ρ2) :
    ∃ S2, Ex S S2 ∧ Sat Γ S2 ρ2 σ H ∧ (∀ a, BorB fl (valSlots md os) ρ σ a → ∃ i, Held ρ2 i ∧ i ∉ inSlots md os ∧ σ[i]? = some (some (V.ref a))) ∧ ArgIn (plusB S2 H (BorB fl (valSlots md os) ρ σ)) H md vs ds := by
  unfold okSlots at hok
  rw [Bool.and_eq_true, decide_eq_true_eq] at hok
  obtain ⟨nd, dis⟩ := hok
  have dis : ∀ i ∈ inSlots md os, i ∉ valSlots md os := fun i hi hm => by
    have := List.all_eq_true.mp dis i hi
    rw [List.contains_iff_mem.mpr hm] at this
    cases this
  have hin := ins_held ha
  have heldIn : ∀ j ∈ inSlots md os, Held ρ j := fun j hj => by
    obtain ⟨d, h | h⟩ := hin j hj
    · exact ⟨d, .inl h⟩
    · exact ⟨d, .inr (.inl h)⟩
  have pre : ∃ S2, Ex S S2 ∧ Sat Γ S2 ρ2 σ H ∧ (fl = true → ρ2 = ρ ∧ S2 = S) ∧ (∀ j, j ∉ valSlots md os → ρ2[j]? = ρ[j]?) ∧ (fl = false → ∀ i ∈ valSlots md os, ∃ (d : D) (v : V), deref (.slot i) ρ = some d ∧ σ[i]? = some (some v) ∧ Rp S2 v d) := by
    unfold afterC at hf
    cases fl with
    | true =>
      rw [if_pos rfl] at hf
      cases hf
      exact ⟨S, Ex.refl S, s, fun _ => ⟨rfl, rfl⟩, fun _ _ => rfl, nofun⟩
    | false =>
      rw [if_neg Bool.false_ne_true] at hf
      obtain ⟨S2, e2, s2, k1, _, k3⟩ := freeze_go s hf
      refine ⟨S2, e2, s2, nofun, k1, fun _ i hi => ?_⟩
      obtain ⟨d, v, _, h2, h3, h4⟩ := k3 i hi
      exact ⟨d, v, h2, h3, h4⟩
  obtain ⟨S2, e2, s2, hfl, keep, frz⟩ := pre
  refine ⟨S2, e2, s2, fun a ⟨f, i, hi, hh, he⟩ => ?_, arg_in s hvs ha (fun o v d ho hm hv hd => ?_) (fun i hi a o d he hH hO hS => ?_) nd⟩
  · refine ⟨i, ?_, fun z => dis i z hi, he⟩
    rw [(hfl f).1]
    exact hh
  · cases o with
    | fz e =>
      cases hd
      exact Rp.mono (e2.trans plusB_ex) hv
    | fresh e => exact hv.elim
    | slot i =>
      have hv : σ[i]? = some (some v) := hv
      have hi := hm i rfl
      cases hflv : fl with
      | false =>
        obtain ⟨d', v', h1, h2, h3⟩ := frz hflv i hi
        rw [hd] at h1
        cases h1
        rw [hv] at h2
        cases h2
        exact h3.mono plusB_ex
      | true =>
        obtain ⟨_, q⟩ := hfl hflv
        subst q
        rcases deref_held hd with h | h
        · obtain ⟨u, h1, h2⟩ := s.fz_at h
          rw [hv] at h1
          cases h1
          exact h2.mono plusB_ex
        · obtain ⟨a, o, h1, h2, h3, h4⟩ := s.held h
          rw [hv] at h1
          cases h1
          have at_ : ∀ {B : Addr → Prop}, B a → plusB S2 H B a = some o := fun hb => plusB_at h3 hb h2
          have hB : BorB true (valSlots md os) ρ σ a := ⟨rfl, i, hi, h, hv⟩
          obtain ⟨d0, w | w | w⟩ := h
          · obtain ⟨b, ob, g1, g2, g3, _⟩ := s.ow_at w
            rw [hv] at g1
            cases g1
            rw [h2] at g2
            cases g2
            unfold deref at hd
            simp only [w] at hd
            cases hd
            exact (g3.mono plusB_ex).rp (.inl (at_ hB))
          · obtain ⟨b, ob, g1, g2, g3, _⟩ := s.io_at w
            rw [hv] at g1
            cases g1
            rw [h2] at g2
            cases g2
            unfold deref at hd
            simp only [w] at hd
            cases hd
            exact (g3.mono plusB_ex).rp (.inl (at_ hB))
          · obtain ⟨b, ob, g1, g2, g3, _⟩ := s.lent_at w
            rw [hv] at g1
            cases g1
            rw [h2] at g2
            cases g2
            unfold deref at hd
            simp only [w] at hd
            cases hd
            exact (g3.mono plusB_ex).rp (at_ hB)
  · have hh := heldIn i hi
    have h2 : Held ρ2 i := by
      obtain ⟨d0, w⟩ := hh
      rw [← keep i (dis i hi)] at w
      exact ⟨d0, w⟩
    obtain ⟨b, ob, g1, _, g3, _⟩ := s2.held h2
    rw [he] at g1
    cases g1
    refine ⟨hO.mono (e2.trans plusB_ex), plusB_none g3 fun ⟨f, j, hj, hhj, hej⟩ => ?_⟩
    have := s.apart hh hhj he hej
    subst this
    exact dis i hi hj
theorem flatR_own {b : Bool} {d : D} (h : flatR b d = true) : (b = false → flat d = true) ∧ flatOwn d = true := by
  unfold flatR at h
  split at h
  · exact ⟨nofun, h⟩
  · rename_i hn
    refine ⟨fun _ => h, ?_⟩
    cases d with
    | list xs => cases h
    | _ => exact h
theorem call_go {f : Nat} {os : List Out} {vs : List V} {Q : VK} (s : Sat Γ S ρ σ H) (hvs : OutVs S σ os vs) (h : Aft p W Γ S σ (callF p.c.cal f os ρ) (POk Γ σ Q)) : spF p.c.cal.Φ (p.c.cal.md f) p.cl f vs H Q (WE W σ) := by
  unfold callF at h
  by_cases hok : okSlots (p.c.cal.md f) os = true
  · rw [if_pos hok] at h
    cases ha : argsD (p.c.cal.md f) os ρ with
    | none =>
      simp only [ha] at h
      exact h.elim
    | some ds =>
      cases hf : p.c.cal.Φ f ds with
      | none =>
        simp only [ha, hf] at h
        exact h.elim
      | some fr =>
        cases fr with
        | exc x outs =>
          simp only [ha, hf] at h
          cases hA : afterC (flatO outs) (valSlots (p.c.cal.md f) os) ρ with
          | none =>
            rw [hA] at h
            exact h.elim
          | some ρ2 =>
            rw [hA] at h
            obtain ⟨S2, e2, s2, hB, ai⟩ := call_pre s hok hvs ha hA
            refine ⟨_, ds, _, hf, plusB_sub s2.sub, ai, fun S' H' ce => ?_⟩
            cases hs : setOuts (p.c.cal.md f) os outs ρ2 with
            | none =>
              have h : Aft p W Γ S σ (match setOuts (p.c.cal.md f) os outs ρ2 with | some ρ' => R.exc x ρ' | none => .bad) (POk Γ σ Q) := h
              rw [hs] at h
              exact h.elim
            | some ρ' =>
              have h : Aft p W Γ S σ (match setOuts (p.c.cal.md f) os outs ρ2 with | some ρ' => R.exc x ρ' | none => .bad) (POk Γ σ Q) := h
              rw [hs] at h
              have hfl : flatO outs = true ∨ ∀ a, ¬ BorB (flatO outs) (valSlots (p.c.cal.md f) os) ρ σ a := by
                cases q : flatO outs with
                | true => exact .inl rfl
                | false => exact .inr fun a z => by cases z.1
              obtain ⟨sF, exF, _, _⟩ := call_sat s2 hB ce (hvs.mono e2) hs hfl
              exact h _ H' (e2.trans exF) sF
        | ret b d outs =>
          simp only [ha, hf] at h
          cases hA : afterC (flatR b d && flatO outs) (valSlots (p.c.cal.md f) os) ρ with
          | none =>
            rw [hA] at h
            exact h.elim
          | some ρ2 =>
            rw [hA] at h
            obtain ⟨S2, e2, s2, hB, ai⟩ := call_pre s hok hvs ha hA
            refine ⟨_, ds, _, hf, plusB_sub s2.sub, ai, ?_⟩
            have h : Aft p W Γ S σ (match setOuts (p.c.cal.md f) os outs ρ2 with | some ρ' => R.ok (retD b d) ρ' | none => .bad) (POk Γ σ Q) := h
            cases hs : setOuts (p.c.cal.md f) os outs ρ2 with
            | none =>
              rw [hs] at h
              exact h.elim
            | some ρ' =>
              rw [hs] at h
              have hfl : flatO outs = true ∨ ∀ a, ¬ BorB (flatR b d && flatO outs) (valSlots (p.c.cal.md f) os) ρ σ a := by
                cases q : flatO outs with
                | true => exact .inl rfl
                | false =>
                  exact .inr fun a z => by
                    have f := z.1
                    rw [Bool.and_false] at f
                    cases f
              have hfr : flatR b d = true ∨ ∀ a, ¬ BorB (flatR b d && flatO outs) (valSlots (p.c.cal.md f) os) ρ σ a := by
                cases q : flatR b d with
                | true => exact .inl rfl
                | false =>
                  exact .inr fun a z => by
                    have f := z.1
                    rw [Bool.false_and] at f
                    cases f
              cases b with
              | false =>
                intro S' H' ce v hv
                obtain ⟨sF, exF, hT, _⟩ := call_sat s2 hB ce (hvs.mono e2) hs hfl
                refine h _ H' (e2.trans exF) sF v ?_
                rcases hfr with q | q
                · exact hv.trim hT ((flatR_own q).1 rfl)
                · rw [cut_id q]
                  exact hv
              | true =>
                intro S' H' ce a ob h1 h2 h3 h4
                obtain ⟨sF, exF, hT, hN⟩ := call_sat s2 hB ce (hvs.mono e2) hs hfl
                obtain ⟨n1, n2, n3, n4⟩ := hN a h4
                refine h _ H' (e2.trans exF) sF a ob h1 ?_ (cutB_none h3) n1 n2 n3 n4
                rcases hfr with q | q
                · exact h2.trim hT (flatR_own q).2
                · rw [cut_id q]
                  exact h2
  · rw [if_neg hok] at h
    exact h.elim
end
section
variable {X : Cx} {p : Par} {W : WX} {pos : Pos} {e : Expr} {es : List Expr} {ie : E} {ies : List E}
theorem dl_call {f k : Nat} {fa : Addr} {fd : FuncData} {ps : List Str} {x : Str} {p1 : Pos} (F : FnOk X.prog X.w X.K X.mg X.base (L2.CX X.prog X.w) k fa fd ps (spF p.c.cal.Φ (p.c.cal.md f) p.cl f)) (hr : Room k X.A) (hm : X.mg x = some (.ref fa)) (hk : PySem.W.keepIn X.K (.ref fa) = true) (hb : Binds X.K fd ps []) (tk : Takes X W)
    (ha : PA X (e :: es) (tAr p W (ie :: ies))) (hg : Gl X x := by rfl) (hdb : (x == ("__debug__" : Str)) = false := by decide) (he : starEach (e :: es) X.env = (false, eval e X.env) :: starEach es X.env := by rfl) (hpl : (backTo pos (starEach es X.env)).any (·.1) = false := by rfl) :
    PE X (.Call (.Name x p1) (e :: es) [] pos) (tE p W (.call f (ie :: ies))) := PE.of (pe_callS F hr hg hm hk hb (fun σ => passAt tk σ) ha hdb he hpl) fun σ H Q ⟨Γ, S, ρ, s, h⟩ => by
  rw [ev] at h
  exact go_A s h fun os S1 ρ1 H1 vs e1 s1 hvs h1 => call_go s1 hvs h1
end
end DL
end

section
set_option Elab.async false
set_option linter.all false
set_option maxRecDepth 100000
set_option autoImplicit false
namespace DL
open PySem PySem.W L2
open PyProof.Rows (sortedHeap_at sortedHeap_old size_push' seqObj)
section
variable {X : Cx} {S H : Hp}
/-- data without lists reads off no list -/
theorem reads_key {h : Heap} {v : Value} {k : Key} {as : List Addr} (r : Reads h v (keyD k) as) : as = [] := by
  cases k <;> (cases r; rfl)
theorem reads_keys {h : Heap} : ∀ {ks : List Key} {vs : List Value} {as : List Addr}, ReadsAll h vs (ks.map keyD) as → as = []
  | [], _, _, r => by
    cases r
    rfl
  | k :: ks, _, _, r => by
    cases r with
    | cons a b => rw [reads_key a, reads_keys b, List.nil_append]
theorem reads_keyT {h : Heap} {v : Value} {ks : List Key} {as : List Addr} (r : Reads h v (.tuple (ks.map keyD)) as) : as = [] := by
  cases r with
  | tuple _ _ _ h4 => exact reads_keys h4
/-- keys collected, then sorted -/
theorem skeys_tail {A : Around} {E : Value → Shared → Prop} {pins : List (Addr × Obj)} {s : Shared} {σ : St} {Q : VK} {its : List Value} {ys : List V} {ks : List D} (hu : A.units + 60 < cLine) (I : Inv X pins σ H s) (ex : Ex S H) (h4 : RpL S ys ks) (r : Vals ys its) (hkey : ∀ (h : Heap) (v : Value) (d : D) (as : List Addr), d ∈ ks → Reads h v d as → as = [])
    (h1 : AllAlike ks) (h2 : Sortable ks) (h3 : okD (.list ks) = true) (hz : ks.length ≤ LIM) (k : ∀ p zs, H p = none → RpL S zs (ks.mergeSort (dataLe false id)) → Q (.ref p) (upd H p (.lst zs))) :
    wpAny (model X.prog X.w) A (do let l ← newList its; let _ ← holding [l] (call (.builtin "list.sort") [l]); ret l) (fun f s' => ∃ u, f = .done (.ret u) ∧ EP X pins σ Q u s') E s := by
  have hp : PyData.plainAll ks = true := plain_in (.inl rfl) (okD_iff.mp h3).1
  have hd : PyData.depthAll ks + 1 ≤ DEP := by rw [← depth_in (e := .list ks) (.inl rfl)]; exact (okD_iff.mp h3).2
  have hD : DEP = 40 := rfl
  have hil : its.length = ks.length := by rw [← r.length, h4.length]
  have hz2 : its.length ≤ sizeLine := by rw [hil]; exact lim_le hz
  refine wpAny_bind (wpAny_newList ?_ hz2)
  have hf : H s.heap.objs.size = none := I.hok.fresh (Nat.le_refl _)
  have I1 : Inv X pins σ (upd H s.heap.objs.size (.lst ys)) { s with heap := s.heap.push { cls := .type "list", data := .seq its.toArray } } :=
    I.laid (t' := s.toks) (fun b o e => Heap.get?_push_of_some _ e) (Nat.le_refl _) ⟨by rw [r.length]; exact hz2, its, 0, r, Heap.get?_push_size _ rfl⟩
  have exU : Ex H (upd H s.heap.objs.size (.lst ys)) := Ex.new hf
  obtain ⟨as, ra⟩ := RpL.reads I1 (ex.trans exU) h4 r hp
  have er : EachIs (fun v b => ∃ as, Reads (s.heap.push { cls := .type "list", data := .seq its.toArray }) v (id b) as ∧ s.heap.objs.size ∉ as) its ks := by
    have e0 := each_reads ra
    have go : ∀ {us : List Value} {ds : List D}, (∀ d ∈ ds, d ∈ ks) → EachIs (fun v b => ∃ as, Reads (s.heap.push { cls := .type "list", data := .seq its.toArray }) v (id b) as) us ds → EachIs (fun v b => ∃ as, Reads (s.heap.push { cls := .type "list", data := .seq its.toArray }) v (id b) as ∧ s.heap.objs.size ∉ as) us ds := by
      intro us ds hm e
      induction e with
      | nil => exact .nil
      | cons a b ih =>
        obtain ⟨as, ha⟩ := a
        refine .cons ⟨as, ha, ?_⟩ (ih fun d hd => hm d (List.mem_cons_of_mem _ hd))
        rw [hkey _ _ _ _ (hm _ List.mem_cons_self) ha]
        exact nofun
    exact go (fun _ h => h) e0
  have ho : (s.heap.push { cls := .type "list", data := .seq its.toArray }).get? s.heap.objs.size = some (seqObj "list" its.toArray 0) := Heap.get?_push_size _ rfl
  refine wpAny_bind (wpAny_holding (list_sort_data (enc := id) (R := fun u d => ∃ x, RelV x u ∧ Rp S x d) ho (each_of r h4) er (by rw [List.map_id]; exact h1) (by rw [List.map_id]; exact h2) (lim_le hz) (fun d hb => ?_) fun out hlen he => ?_))
  · have := depth_mem hb
    show A.units + 1 + d.depth < cLine
    omega
  · obtain ⟨zs, v1, v2⟩ := of_each he
    obtain ⟨ep, he'⟩ := sortedHeap_at (vs := its) (out := out.toArray) ho
    have hzs : zs.length ≤ sizeLine := by
      rw [v1.length, hlen]
      exact lim_le hz
    refine wpAny_pure ⟨_, rfl, .ref _, upd H s.heap.objs.size (.lst zs), I.laid (t' := s.toks) (fun b u e => ?_) (Nat.le_refl _) ⟨hzs, out, ep, v1, he'⟩, rfl, k _ zs hf v2⟩
    have hb : b < s.heap.objs.size := Heap.lt_size e
    rw [sortedHeap_old (Nat.ne_of_lt hb) (by rw [size_push']; exact Nat.lt_succ_of_lt hb)]
    exact Heap.get?_push_of_some _ e
theorem vals_of_get : ∀ {us : List Value} {vs : List V}, us.length = vs.length → (∀ (j : Nat) (u : Value), us[j]? = some u → ∃ v, vs[j]? = some v ∧ RelV v u) → Vals vs us
  | [], [], _, _ => .nil
  | [], _ :: _, hl, _ => nomatch hl
  | _ :: _, [], hl, _ => nomatch hl
  | u :: us, v :: vs, hl, h => by
    obtain ⟨w, e, r⟩ := h 0 u rfl
    cases e
    exact .cons r (vals_of_get (Nat.succ.inj hl) fun j u e => h (j + 1) u e)
theorem cb_skeys (hcalm : X.calm = true) (hu : X.A.units + 64 < cLine) : CallR X (.builtin "sorted") (fun vs H Q => ∃ S v dd ks fr res, Ex S H ∧ vs = [v] ∧ Top S H v dd ∧ keysD dd = some ks ∧ biD .sorted [.list ks] = some (fr, res) ∧ ResK (addT S H) H fr res Q) := by
  intro pins s σ H vs us Q I rv h
  obtain ⟨S, v, dd, ks, fr, res, ex, rfl, t, hk, hg, k⟩ := h
  obtain ⟨xs, e0, h2, h3, h4, h5, hr⟩ := biD_sorted hg
  cases e0
  cases hr
  obtain ⟨u, rfl, ru⟩ := vals1 rv
  obtain ⟨kvs, rfl⟩ := keysD_some hk
  obtain ⟨a, rfl, hd⟩ := t.dict ex
  cases ru
  have exT : Ex (addT S H) H := addT_sub ex
  refine Calls.call_function_entry PyProof.Rows.kind_sorted PyProof.Rows.plain_sorted PyProof.Rows.entry_sorted (PyProof.Rows.args_sorted1 _) ?_
  unfold Builtin.«sorted»
  refine wpAny_bind (m := checkCount "sorted" 1 1 _) (wpAny_pure ?_)
  rcases hd with ⟨ps, h7, h8⟩ | ⟨ps, kvs', e1, h7, h8⟩
  · rw [keysD_K h8] at hk
    cases hk
    obtain ⟨z, lo, vs, rel, dd⟩ := dk_rd I.hok h7
    obtain ⟨ep, hat⟩ := dd.dictAt
    have hl : vs.length = ps.length := rel.length.symm
    refine wpAny_bind (PySem.W.kdu_collect (A := X.A.in1) (PySem.W.kdl_dict (knd := mixKind X.prog X.w) (kvs := vs) (ep := ep) lo) (I.ok.hd hcalm) hat (by rw [hl]; exact z) fun h' tk acc hkp hacc => ?_)
    have I1 : Inv X pins σ H { s with heap := h', toks := tk } := I.kept hkp
    have ek : (ps.map fun kv => kV kv.1) = vs.map fun p => kV p.1 := by
      have e := congrArg (List.map kV) rel.keys
      rw [List.map_map, List.map_map] at e
      exact e
    have hv : Vals (ps.map fun p => kV p.1) acc.toList := by
      rw [ek]
      exact keys_at (by rw [Array.length_toList]; exact hacc.1) fun j v e => hacc.2 j v (by rw [← Array.getElem?_toList]; exact e)
    refine skeys_tail (A := X.A.in1) (S := addT S H) (show X.A.units + 1 + 60 < cLine by omega) I1 exT ?_ hv (fun h v d as hd r => ?_) h2 h3 h4 h5 fun p zs hp hz => k.new hp (.lst hz)
    · have go : ∀ l : List (Key × V), RpL (addT S H) (l.map fun p => kV p.1) (l.map fun p => keyD p.1) := fun l => by
        induction l with
        | nil => exact .nil
        | cons q l ih => exact .cons (rp_kV q.1) ih
      exact go ps
    · obtain ⟨q, _, rfl⟩ := List.mem_map.mp hd
      exact reads_key r
  · cases e1
    rw [keysD_T h8] at hk
    cases hk
    obtain ⟨z, hs, xs, pr, o, es, ep, ho, hx, hdt, he, hn⟩ := (show ObjOk X.prog X.w H s.heap a (.dT ps) from h7.ok I.hok)
    have l1 : es.size = xs.length := size_of_entries he
    have l2 : ps.length = xs.length := Paired.length pr
    refine wpAny_bind (PySem.W.kdu_collect (A := X.A.in1) (kdl_raw hs hx hdt) (I.ok.hd hcalm) ho (by omega) fun h' tk acc hkp hacc => ?_)
    have I1 : Inv X pins σ H { s with heap := h', toks := tk } := I.kept hkp
    have ea : acc.toList = xs.map fun x => Value.ref x.2.1 := by
      have hl : acc.toList.length = xs.length := by rw [Array.length_toList, hacc.1]; exact l1
      apply List.ext_getElem?
      intro j
      rw [List.getElem?_map]
      cases hj : acc.toList[j]? with
      | none =>
        have h1 := List.getElem?_eq_none_iff.mp hj
        rw [List.getElem?_eq_none (by omega)]
        rfl
      | some v =>
        obtain ⟨en, hen, hv⟩ := hacc.2 j v (by rw [← Array.getElem?_toList]; exact hj)
        have qe := entry_at he j
        rw [hen] at qe
        cases hb : xs[j]? with
        | none =>
          rw [hb] at qe
          exact nomatch (show some en = none from qe)
        | some b =>
          rw [hb] at qe
          have e2 : en = entryOfKey (tupleKind (mixKind X.prog X.w)) b := Option.some.inj qe
          rw [hv, e2]
          rfl
    have eb : acc.toList = (xs.map fun x => x.2.1).map Value.ref := by rw [ea, List.map_map]; rfl
    have hv : Vals ((xs.map fun x => x.2.1).map V.ref) acc.toList := by rw [eb]; exact vals_refs _
    have kt : IsKeys H ps (xs.map fun x => x.2.1) := isKeys_of pr
    refine skeys_tail (A := X.A.in1) (S := addT S H) (show X.A.units + 1 + 60 < cLine by omega) I1 exT ?_ hv (fun h v d as hd r => ?_) h2 h3 h4 h5 fun p zs hp hz => k.new hp (.lst hz)
    · have go : ∀ (l : List (List Key × V)) (bs : List Addr), IsKeys H l bs → RpL (addT S H) (bs.map V.ref) (l.map fun p => PyData.tuple (p.1.map keyD)) := fun l bs q => by
        unfold IsKeys at q
        induction q with
        | nil => exact .nil
        | cons h t ih => exact .cons (.tup (addT_tup ex h) (rpL_kV _)) ih
      exact go ps _ kt
    · obtain ⟨q, _, rfl⟩ := List.mem_map.mp hd
      exact reads_keyT r
theorem dl_skeys {p : Par} {W : WX} {pos p1 : Pos} {e : Expr} {e' : E} (hcalm : X.calm = true) (hu : X.A.units + 64 < cLine) (hm : X.mg "sorted" = none) (ha : PE X e (tE p W e')) (hv : bootBuiltins "sorted" = some (.builtin "sorted") := by decide +kernel) (hg : Gl X "sorted" := by rfl)
    (he : starEach [e] X.env = (false, eval e X.env) :: starEach [] X.env := by rfl) (hpl : (backTo pos (starEach [] X.env)).any (·.1) = false := by rfl) :
    PE X (.Call (.Name "sorted" p1) [e] [] pos) (tE p W (.skeys e')) := PE.of (pe_callB (cb_skeys hcalm hu) hg hm hv (pa_cons ha pa_nil he) (by decide) (by decide) he hpl) fun σ H Q ⟨Γ, S, ρ, s, h⟩ => by
  rw [ev] at h
  refine go_E s h fun x S1 ρ1 H1 v e1 s1 hv h1 => ?_
  obtain ⟨dd, hd, h2⟩ := h1.dref
  obtain ⟨ks, hk, h3⟩ := h2.opt
  have s2 := s1.addT
  obtain ⟨fr, res, hr, k⟩ := fin_res s2 (h3.weak addT_ex)
  exact ⟨S1, v, dd, ks, fr, res, s1.sub, rfl, top_of s1 hv hd, hk, hr, k⟩
end
end DL
end

section
set_option Elab.async false
set_option linter.all false
set_option maxRecDepth 100000
set_option autoImplicit false
namespace DL
open PySem PySem.W L2
/-! ### the head's facts; no list among what is written -/
def noLst (K : PySem.W.Frag) : Bool := K.all fun p => match p.2.cls with
  | .type c => !(c == "list")
  | _ => true
theorem noLst_at {K : PySem.W.Frag} (h : noLst K = true) {a : Addr} {o : Obj} (e : K.lookup a = some o) : o.cls ≠ .type "list" := by
  intro z
  induction K with
  | nil => cases e
  | cons p K ih =>
    obtain ⟨b, ob⟩ := p
    unfold noLst at h
    rw [List.all_cons, Bool.and_eq_true] at h
    have e2 : (match a == b with | true => some ob | false => K.lookup a) = some o := e
    cases q : (a == b) with
    | true =>
      rw [q] at e2
      cases e2
      have h1 := h.1
      simp only [z] at h1
      exact absurd h1 (by decide)
    | false =>
      rw [q] at e2
      exact ih h.2 e2
def hookY (n : Nat) (fa : List He.Fa) (fn : List He.DefD) : PySem.W.Hook where
  α := He.AlD × Bool
  obs := fun s => (He.obsDG n fa fn s.heap.get?, noLst (He.frG s.heap.get? (He.asD s.heap.get? n)))
  val := fun _ => (He.valD fn, true)
  says := fun _ h => ∃ K : PySem.W.Frag, K.In h ∧ He.SaysD fa fn K ∧ noLst K = true
  of := fun _ _ e => ⟨_, He.frG_in, congrArg (fun z : He.AlD × Bool => z.1) e, congrArg (fun z : He.AlD × Bool => z.2) e⟩
  keeps := fun _ _ _ ⟨K, hK, c⟩ k => ⟨K, PySem.W.Frag.In.keeps hK k, c⟩
def obY (n : Nat) (fa : List He.Fa) (fn : List He.DefD) (g : Addr → Option Obj) : He.AlD × Bool := (He.obsDG n fa fn g, noLst (He.frG g (He.asD g n)))
theorem obY_eq {n : Nat} {fa : List He.Fa} {fn : List He.DefD} {g : Addr → Option Obj} {s : Shared} (h : ∀ a, g a = s.heap.get? a) : obY n fa fn g = (hookY n fa fn).obs s := by
  have e : g = s.heap.get? := funext h
  rw [e] <;> rfl
theorem sp_law {K : PySem.W.Frag} {H : Hp} {a : Addr} {ns : List Int} {Φ : Nat → List D → Option FR} {md : List Bool} {cl : Nat → Addr} {i : Nat} {os : List (Option D)} (no : noLst K = true) (hS : SqL K H a (ns.map V.int)) (hmd : md = [false])
    (hrun : Φ i [.list (ns.map PyData.int)] = some (.ret false (.bool true) os)) : spF Φ md cl i [.ref a] H (fun v _ => v = .bl true) (fun _ _ _ => False) := by
  subst hmd
  rcases hS with hS | ⟨o, its, n, h1, h2, _⟩
  · refine ⟨H, _, _, hrun, Ex.refl H, .val (.lst hS (RpL.of_ints ns)) .nil, fun S' H' ce v hv => ?_⟩
    cases hv
    rfl
  · exact absurd h2 (noLst_at no h1)
/-- a law that may raise within -/
theorem walk_ofY {l : PySem.W.OpenLaw} {n k : Nat} {q : Program} {loose : List Str} {XP : (Str → Option Value) → Heap → Prop} {YP : World → Heap → Prop} {d : DefRec} {x : Str}
    (hn : l.most = some n) (hn2 : n ≤ sizeLine) (hdf : d.params.defaults = []) (hr : Room k callerA)
    (F : ∀ (w : World) (mg : Str → Option Value) (fa : Addr) (h : Heap), YP w h → h.Ns mainGlobals mg → mg d.name = some (.ref fa) →
      ∃ (K : PySem.W.Frag) (fd : FuncData) (sp : Sp), K.In h ∧ (∀ (s : Shared) (u : Value), BindsTo s fd ⟨[u], []⟩ [(x, u)]) ∧
        (∀ (H : Hp) (a : Addr) (ns : List Int), ns.length ≤ n → Only H → SqL K H a (ns.map V.int) → sp [.ref a] H (fun v _ => v = .bl true) fun _ _ _ => False) ∧
        ∀ base : Heap, K.In base → base.Ns mainGlobals mg → FnOk l.prog w K mg base (L2.CX l.prog w) k fa fd [x] sp) :
    PySem.W.WalkO q loose XP YP l.row.toRowW d [] (fun f vs => PySem.call f vs) := by
  refine Att.attach_call hn hdf fun w s₀ s₁ mg mb fa o pm cd doc a vs ns G Y ho hd hcd hmg hobj hints hlen hg => ?_
  obtain ⟨K, fd, sp, KX, hb, hsp, hF⟩ := F w mg fa _ Y G.T.g hmg
  refine law_call KX G.T.g G.T.b G.T.builtins G.T.nolimit hg hobj hints (Nat.le_trans hlen hn2) hr hF hb (fun H hO hS => hsp H a ns hlen hO hS) fun H e s' h => ?_
  obtain ⟨_, _, _, _, _, _, _, _, _, _, _, _, z⟩ := h
  exact z.elim
end DL
end

section
set_option Elab.async false
set_option linter.all false
set_option maxRecDepth 100000
set_option maxHeartbeats 4000000
set_option autoImplicit false
namespace K40
open PySem PySem.W DL
/-! ### each def, as the evaluator takes it -/
abbrev n_is_within : Nat := 0
abbrev n_is_tuple : Nat := 1
abbrev n_is_bag_of : Nat := 2
abbrev n_check_rules : Nat := 3
abbrev n_check_bag : Nat := 4
abbrev n_is_within_bag : Nat := 5
abbrev n_put_for : Nat := 6
abbrev n_all_exchanges : Nat := 7
abbrev n_exchanges : Nat := 8
abbrev n_check_sum : Nat := 9
abbrev n_is_chain : Nat := 10
abbrev n_shortest_chain : Nat := 11
abbrev n__law_mixed : Nat := 12
abbrev n__law_numbers : Nat := 13
abbrev n__law_draw : Nat := 14
abbrev n__law_equal : Nat := 15
abbrev n__law_all_equal : Nat := 16
abbrev n__law_rules : Nat := 17
abbrev n__law_has : Nat := 18
abbrev n__law_put : Nat := 19
abbrev n__law_exchanges : Nat := 20
abbrev n__law_is_chain : Nat := 21
abbrev n__law_shortest : Nat := 22
abbrev n__law_error : Nat := 23
abbrev n__law_walked : Nat := 24
abbrev n_law : Nat := 25
/-- is_within: 0 value, 1 least, 2 most -/
def fd_is_within : FDef := ⟨[false, false, false], 3, [.ret (.and (.isa (.var 0) .int) (.and (.not (.isa (.var 0) .bool)) (.chain .le .le (.var 1) (.var 0) (.var 2))))]⟩
/-- is_tuple: 0 value, 1 size -/
def fd_is_tuple : FDef := ⟨[false, false], 2, [.ret (.and (.isa (.var 0) .tuple) (.cmp .eq (.bi .len [.var 0]) (.var 1)))]⟩
/-- is_bag_of: 0 value, 1 kinds, 2 most, 3 one -/
def fd_is_bag_of : FDef := ⟨[false, false, false], 4, [.ret (.and (.call n_is_tuple [.var 0, .var 1]) (.cmp .eq (.comp .seq [.var 0] (.nm 3) [3] (.not (.call n_is_within [.var 3, .con (.int 0), .var 2])) (.var 3)) (.lst [])))]⟩
/-- check_rules: 0 rules, 1 kinds, 2 left, 3 right, 4 one -/
def fd_check_rules : FDef := ⟨[false], 5, [.ifS (.or (.not (.isa (.var 0) .list)) (.not (.chain .le .le (.con (.int 1)) (.bi .len [.var 0]) (.con (.int 4))))) [.raise 0] [], .ifS (.comp .seq [.var 0] (.nm 4) [4] (.not (.call n_is_tuple [.var 4, .con (.int 2)])) (.var 4)) [.raise 0] [], .ifS (.or (.not (.isa (.sub (.sub (.var 0) (.con (.int 0))) (.con (.int 0))) .tuple)) (.not (.chain .le .le (.con (.int 1)) (.bi .len [.sub (.sub (.var 0) (.con (.int 0))) (.con (.int 0))]) (.con (.int 3))))) [.raise 0] [], .asg (.nm 1) (.bi .len [.sub (.sub (.var 0) (.con (.int 0))) (.con (.int 0))]), .forS .seq [.var 0] (.tp [2, 3]) [.ifS (.or (.not (.call n_is_bag_of [.var 2, .var 1, .con (.int 4)])) (.or (.not (.call n_is_bag_of [.var 3, .var 1, .con (.int 4)])) (.cmp .eq (.var 2) (.var 3)))) [.raise 0] []]]⟩
/-- check_bag: 0 rules, 1 bag -/
def fd_check_bag : FDef := ⟨[false, false], 2, [.expr (.call n_check_rules [.var 0]), .ifS (.not (.call n_is_bag_of [.var 1, .bi .len [.sub (.sub (.var 0) (.con (.int 0))) (.con (.int 0))], .con (.int 60)])) [.raise 1] []]⟩
/-- is_within_bag: 0 one, 1 bag, 2 k -/
def fd_is_within_bag : FDef := ⟨[false, false], 3, [.ret (.cmp .eq (.comp .rng1 [.bi .len [.var 1]] (.nm 2) [2] (.cmp .gt (.sub (.var 0) (.var 2)) (.sub (.var 1) (.var 2))) (.var 2)) (.lst []))]⟩
/-- put_for: 0 bag, 1 left, 2 right, 3 k -/
def fd_put_for : FDef := ⟨[false, false, false], 4, [.ret (.bi .tup [.comp .rng1 [.bi .len [.var 0]] (.nm 3) [3] (.nop) (.bin .add (.bin .sub (.sub (.var 0) (.var 3)) (.sub (.var 1) (.var 3))) (.sub (.var 2) (.var 3)))])]⟩
/-- all_exchanges: 0 rules, 1 bag, 2 found, 3 place, 4 left, 5 right -/
def fd_all_exchanges : FDef := ⟨[false, false], 6, [.asg (.nm 2) (.lst []), .forS .rng1 [.bi .len [.var 0]] (.nm 3) [.asg (.tp [4, 5]) (.sub (.var 0) (.var 3)), .ifS (.call n_is_within_bag [.var 4, .var 1]) [.expr (.app (.var 2) (.tup [.var 3, .con (.int 0), .call n_put_for [.var 1, .var 4, .var 5]]))] [], .ifS (.call n_is_within_bag [.var 5, .var 1]) [.expr (.app (.var 2) (.tup [.var 3, .con (.int 1), .call n_put_for [.var 1, .var 5, .var 4]]))] []], .ret (.var 2)]⟩
/-- exchanges: 0 rules, 1 bag -/
def fd_exchanges : FDef := ⟨[false, false], 2, [.expr (.call n_check_bag [.var 0, .var 1]), .ret (.call n_all_exchanges [.var 0, .var 1])]⟩
/-- check_sum: 0 most -/
def fd_check_sum : FDef := ⟨[false], 1, [.ifS (.not (.call n_is_within [.var 0, .con (.int 0), .con (.int 30)])) [.raise 2] []]⟩
/-- is_chain: 0 rules, 1 value, 2 k, 3 one -/
def fd_is_chain : FDef := ⟨[false, false], 4, [.expr (.call n_check_rules [.var 0]), .ifS (.or (.not (.isa (.var 1) .list)) (.not (.var 1))) [.ret (.con (.bool false))] [], .ifS (.comp .seq [.var 1] (.nm 3) [3] (.not (.call n_is_bag_of [.var 3, .bi .len [.sub (.sub (.var 0) (.con (.int 0))) (.con (.int 0))], .con (.int 60)])) (.var 3)) [.ret (.con (.bool false))] [], .forS .rng2 [.con (.int 1), .bi .len [.var 1]] (.nm 2) [.ifS (.cmp .eq (.comp .seq [.call n_all_exchanges [.var 0, .sub (.var 1) (.bin .sub (.var 2) (.con (.int 1)))]] (.nm 3) [3] (.cmp .eq (.sub (.var 3) (.con (.int 2))) (.sub (.var 1) (.var 2))) (.var 3)) (.lst [])) [.ret (.con (.bool false))] []], .ret (.con (.bool true))]⟩
/-- shortest_chain: 0 rules, 1 bag, 2 other, 3 most, 4 far, 5 line, 6 at, 7 place, 8 way, 9 there, 10 found, 11 near, 12 one -/
def fd_shortest_chain : FDef := ⟨[false, false, false, false], 13, [.expr (.call n_check_bag [.var 0, .var 1]), .expr (.call n_check_bag [.var 0, .var 2]), .expr (.call n_check_sum [.var 3]), .ifS (.or (.cmp .gt (.bi .sum [.var 1]) (.var 3)) (.cmp .gt (.bi .sum [.var 2]) (.var 3))) [.ret (.con .none)] [], .asg (.nm 4) (.dsp1 true (.var 2) (.con (.int 0))), .asg (.nm 5) (.lst [.var 2]), .asg (.nm 6) (.con (.int 0)), .whileS (.cmp .lt (.var 6) (.bi .len [.var 5])) [.forS .seq [.call n_all_exchanges [.var 0, .sub (.var 5) (.var 6)]] (.tp [7, 8, 9]) [.ifS (.and (.din true (.var 9) (.var 4)) (.cmp .le (.bi .sum [.var 9]) (.var 3))) [.dset (.var 4) (.var 9) (.bin .add (.dsub (.var 4) (.sub (.var 5) (.var 6))) (.con (.int 1))), .expr (.app (.var 5) (.var 9))] []], .asg (.nm 6) (.bin .add (.var 6) (.con (.int 1)))], .ifS (.din true (.var 1) (.var 4)) [.ret (.con .none)] [], .asg (.nm 10) (.lst [.var 1]), .whileS (.cmp .ne (.sub (.var 10) (.neg (.con (.int 1)))) (.var 2)) [.asg (.nm 11) (.comp .seq [.call n_all_exchanges [.var 0, .sub (.var 10) (.neg (.con (.int 1)))]] (.nm 12) [12] (.nop) (.sub (.var 12) (.con (.int 2)))), .expr (.app (.var 10) (.bi .min [.comp .seq [.var 11] (.nm 9) [9] (.cmp .eq (.dget1 (.var 4) (.var 9)) (.bin .sub (.dsub (.var 4) (.sub (.var 10) (.neg (.con (.int 1))))) (.con (.int 1)))) (.var 9)]))], .ret (.var 10)]⟩
/-- _law_mixed: 0 number, 1 k, 2 step -/
def fd__law_mixed : FDef := ⟨[false, false], 3, [.asg (.nm 2) (.bin .mod (.bin .add (.bin .add (.bin .mul (.var 0) (.con (.int 48271))) (.bin .mul (.var 1) (.con (.int 69621)))) (.con (.int 12345))) (.con (.int 2147483647))), .ret (.bin .mod (.bin .add (.bin .mul (.var 2) (.bin .add (.bin .fdiv (.var 2) (.con (.int 65536))) (.con (.int 3)))) (.var 1)) (.con (.int 2147483647)))]⟩
/-- _law_numbers: 0 script, 1 numbers, 2 cell, 3 rest, 4 k -/
def fd__law_numbers : FDef := ⟨[false], 5, [.asg (.nm 1) (.lst []), .forS .seq [.var 0] (.nm 2) [.ifS (.cmp .ge (.var 2) (.bin .pow (.con (.int 10)) (.con (.int 18)))) [.asg (.nm 3) (.var 2), .forS .rng1 [.con (.int 60)] (.nm 4) [.ifS (.cmp .gt (.var 3) (.con (.int 0))) [.expr (.app (.var 1) (.bin .mod (.var 3) (.con (.int 1000000)))), .asg (.nm 3) (.bin .fdiv (.var 3) (.con (.int 1000000)))] []]] [.expr (.app (.var 1) (.bin .mod (.var 2) (.con (.int 1000000)))), .forS .rng1 [.con (.int 5)] (.nm 4) [.expr (.app (.var 1) (.bin .mod (.call n__law_mixed [.call n__law_mixed [.bin .mod (.var 2) (.con (.int 2147483647)), .var 4], .bin .add (.var 4) (.con (.int 7))]) (.con (.int 1000000))))]]], .ret (.var 1)]⟩
/-- _law_draw: 0 draws, 1 at, 2 first -/
def fd__law_draw : FDef := ⟨[true], 3, [.asg (.nm 1) (.sub (.var 0) (.con (.int 1))), .setix (.var 0) (.con (.int 1)) (.bin .add (.var 1) (.con (.int 1))), .ifS (.cmp .lt (.var 1) (.bi .len [.sub (.var 0) (.con (.int 0))])) [.ret (.sub (.sub (.var 0) (.con (.int 0))) (.var 1))] [], .asg (.nm 2) (.bin .add (.con (.int 1)) (.var 1)), .ifS (.cmp .gt (.bi .len [.sub (.var 0) (.con (.int 0))]) (.con (.int 0))) [.asg (.nm 2) (.bin .add (.var 2) (.bin .mul (.con (.int 1009)) (.sub (.sub (.var 0) (.con (.int 0))) (.con (.int 0)))))] [], .ret (.bin .mod (.call n__law_mixed [.call n__law_mixed [.var 2, .var 1], .con (.int 5)]) (.con (.int 1000000)))]⟩
/-- _law_equal: 0 actual, 1 due -/
def fd__law_equal : FDef := ⟨[false, false], 2, [.ifS (.isa (.var 1) .list) [.ret (.and (.isa (.var 0) .list) (.and (.cmp .eq (.bi .len [.var 0]) (.bi .len [.var 1])) (.call n__law_all_equal [.var 0, .var 1])))] [], .ifS (.isa (.var 1) .tuple) [.ret (.and (.isa (.var 0) .tuple) (.and (.cmp .eq (.bi .len [.var 0]) (.bi .len [.var 1])) (.call n__law_all_equal [.var 0, .var 1])))] [], .ifS (.isa (.var 1) .bool) [.ret (.and (.isa (.var 0) .bool) (.cmp .eq (.var 0) (.var 1)))] [], .ifS (.isa (.var 1) .int) [.ret (.and (.isa (.var 0) .int) (.and (.not (.isa (.var 0) .bool)) (.cmp .eq (.var 0) (.var 1))))] [], .ifS (.isa (.var 1) .str) [.ret (.and (.isa (.var 0) .str) (.cmp .eq (.var 0) (.var 1)))] [], .ret (.cmp .isN (.var 0) (.con .none))]⟩
/-- _law_all_equal: 0 actual, 1 due, 2 k -/
def fd__law_all_equal : FDef := ⟨[false, false], 3, [.forS .rng1 [.bi .len [.var 1]] (.nm 2) [.ifS (.not (.call n__law_equal [.sub (.var 0) (.var 2), .sub (.var 1) (.var 2)])) [.ret (.con (.bool false))] []], .ret (.con (.bool true))]⟩
/-- _law_rules: 0 draws, 1 kinds, 2 most, 3 many, 4 found, 5 left, 6 right, 7 k -/
def fd__law_rules : FDef := ⟨[true, false, false, false], 8, [.asg (.nm 4) (.lst []), .whileS (.cmp .lt (.bi .len [.var 4]) (.var 3)) [.asg (.nm 5) (.bi .tup [.comp .rng1 [.var 1] (.nm 7) [7] (.nop) (.bin .mod (.call n__law_draw [.var 0]) (.bin .add (.var 2) (.con (.int 1))))]), .asg (.nm 6) (.bi .tup [.comp .rng1 [.var 1] (.nm 7) [7] (.nop) (.bin .mod (.call n__law_draw [.var 0]) (.bin .add (.var 2) (.con (.int 1))))]), .ifS (.cmp .eq (.bin .mod (.call n__law_draw [.var 0]) (.con (.int 3))) (.con (.int 0))) [.asg (.nm 6) (.bin .add (.slice (.var 6) (.nop) (.bin .sub (.var 1) (.con (.int 1)))) (.tup [.bi .min2 [.var 2, .bi .max2 [.con (.int 0), .bin .sub (.bi .sum [.var 5]) (.bi .sum [.slice (.var 6) (.nop) (.bin .sub (.var 1) (.con (.int 1)))])]]]))] [], .ifS (.cmp .eq (.var 5) (.var 6)) [.asg (.nm 6) (.bin .add (.slice (.var 5) (.nop) (.bin .sub (.var 1) (.con (.int 1)))) (.tup [.bin .mod (.bin .add (.sub (.var 5) (.bin .sub (.var 1) (.con (.int 1)))) (.con (.int 1))) (.bin .add (.var 2) (.con (.int 1)))]))] [], .expr (.app (.var 4) (.tup [.var 5, .var 6]))], .ret (.var 4)]⟩
/-- _law_has: 0 bag, 1 part, 2 k -/
def fd__law_has : FDef := ⟨[false, false], 3, [.ret (.cmp .eq (.bi .len [.comp .rng1 [.bi .len [.var 0]] (.nm 2) [2] (.cmp .gt (.sub (.var 1) (.var 2)) (.sub (.var 0) (.var 2))) (.var 2)]) (.con (.int 0)))]⟩
/-- _law_put: 0 bag, 1 left, 2 right, 3 k -/
def fd__law_put : FDef := ⟨[false, false, false], 4, [.ret (.bi .tup [.comp .rng1 [.bi .len [.var 0]] (.nm 3) [3] (.nop) (.bin .add (.bin .sub (.sub (.var 0) (.var 3)) (.sub (.var 1) (.var 3))) (.sub (.var 2) (.var 3)))])]⟩
/-- _law_exchanges: 0 rules, 1 bag, 2 found, 3 k, 4 way -/
def fd__law_exchanges : FDef := ⟨[false, false], 5, [.asg (.nm 2) (.lst []), .forS .rng1 [.bi .len [.var 0]] (.nm 3) [.forS .rng1 [.con (.int 2)] (.nm 4) [.ifS (.call n__law_has [.var 1, .sub (.sub (.var 0) (.var 3)) (.var 4)]) [.expr (.app (.var 2) (.tup [.var 3, .var 4, .call n__law_put [.var 1, .sub (.sub (.var 0) (.var 3)) (.var 4), .sub (.sub (.var 0) (.var 3)) (.bin .sub (.con (.int 1)) (.var 4))]]))] []]], .ret (.var 2)]⟩
/-- _law_is_chain: 0 rules, 1 bags, 2 k, 3 one, 4 bag -/
def fd__law_is_chain : FDef := ⟨[false, false], 5, [.forS .rng2 [.con (.int 1), .bi .len [.var 1]] (.nm 2) [.ifS (.cmp .notin (.sub (.var 1) (.var 2)) (.comp .seq [.call n__law_exchanges [.var 0, .sub (.var 1) (.bin .sub (.var 2) (.con (.int 1)))]] (.nm 3) [3] (.nop) (.sub (.var 3) (.con (.int 2))))) [.ret (.con (.bool false))] []], .ret (.cmp .le (.bi .max [.comp .seq [.var 1] (.nm 4) [4] (.nop) (.bi .max [.var 4])]) (.con (.int 60)))]⟩
/-- _law_shortest: 0 rules, 1 bag, 2 other, 3 most, 4 first, 5 level, 6 new, 7 here, 8 there, 9 k, 10 way, 11 chain -/
def fd__law_shortest : FDef := ⟨[false, false, false, false], 12, [.ifS (.or (.cmp .gt (.bi .sum [.var 1]) (.var 3)) (.cmp .gt (.bi .sum [.var 2]) (.var 3))) [.ret (.con .none)] [], .asg (.nm 4) (.dsp1 true (.var 1) (.lst [.var 1])), .asg (.nm 5) (.lst [.var 1]), .whileS (.and (.din true (.var 2) (.var 4)) (.cmp .gt (.bi .len [.var 5]) (.con (.int 0)))) [.asg (.nm 6) (.dnew true), .forS .seq [.var 5] (.nm 7) [.forS .seq [.call n__law_exchanges [.var 0, .var 7]] (.tp [9, 10, 8]) [.ifS (.and (.cmp .le (.bi .sum [.var 8]) (.var 3)) (.din true (.var 8) (.var 4))) [.asg (.nm 11) (.bin .add (.dsub (.var 4) (.var 7)) (.lst [.var 8])), .ifS (.or (.din true (.var 8) (.var 6)) (.cmp .lt (.var 11) (.dsub (.var 6) (.var 8)))) [.dset (.var 6) (.var 8) (.var 11)] []] []]], .forS .keys [.var 6] (.nm 8) [.dset (.var 4) (.var 8) (.dsub (.var 6) (.var 8))], .asg (.nm 5) (.skeys (.var 6))], .ret (.dget2 (.var 4) (.var 2) (.con .none))]⟩
/-- _law_error: 0 name, 1 rules, 2 one, 3 two, 4 three -/
def fd__law_error : FDef := ⟨[false, false, false, false, false], 5, [.tryS [.ifS (.cmp .eq (.var 0) (.con (.str (PySem.Str.ofString "exchanges")))) [.expr (.call n_exchanges [.var 1, .var 2])] [.ifS (.cmp .eq (.var 0) (.con (.str (PySem.Str.ofString "is")))) [.expr (.call n_is_chain [.var 1, .lst [.var 2]])] [.expr (.call n_shortest_chain [.var 1, .var 2, .var 3, .var 4])]]] [2, 0, 1] [.blk [.ret (.con (.str (PySem.Str.ofString "argument")))], .blk [.ret (.con (.str (PySem.Str.ofString "program")))], .blk [.ret (.con (.str (PySem.Str.ofString "standing")))]], .ret (.con .none)]⟩
/-- _law_walked: 0 draws, 1 rules, 2 bag, 3 steps, 4 found, 5 turn, 6 ways, 7 one -/
def fd__law_walked : FDef := ⟨[true, false, false, false], 8, [.asg (.nm 4) (.lst [.var 2]), .forS .rng1 [.var 3] (.nm 5) [.asg (.nm 6) (.call n__law_exchanges [.var 1, .sub (.var 4) (.bin .sub (.bi .len [.var 4]) (.con (.int 1)))]), .asg (.nm 6) (.comp .seq [.var 6] (.nm 7) [7] (.cmp .le (.bi .max [.sub (.var 7) (.con (.int 2))]) (.con (.int 60))) (.var 7)), .ifS (.cmp .gt (.bi .len [.var 6]) (.con (.int 0))) [.expr (.app (.var 4) (.sub (.sub (.var 6) (.bin .mod (.call n__law_draw [.var 0]) (.bi .len [.var 6]))) (.con (.int 2))))] []], .ret (.var 4)]⟩
/-- law: 0 script, 1 draws, 2 turn, 3 kinds, 4 rules, 5 bag, 6 chain, 7 k, 8 other, 9 most, 10 walked, 11 goal, 12 fine, 13 crooked, 14 bad, 15 strange, 16 name, 17 one -/
def fd_law : FDef := ⟨[false], 18, [.asg (.nm 1) (.lst [.call n__law_numbers [.var 0], .con (.int 0)]), .forS .rng1 [.con (.int 3)] (.nm 2) [.asg (.nm 3) (.bin .add (.con (.int 1)) (.bin .mod (.call n__law_draw [.var 1]) (.con (.int 3)))), .asg (.nm 4) (.call n__law_rules [.var 1, .var 3, .con (.int 4), .bin .add (.con (.int 1)) (.bin .mod (.call n__law_draw [.var 1]) (.con (.int 4)))]), .asg (.nm 5) (.bi .tup [.comp .rng1 [.var 3] (.nm 7) [7] (.nop) (.bin .mod (.call n__law_draw [.var 1]) (.sub (.lst [.con (.int 5), .con (.int 61)]) (.bin .mod (.call n__law_draw [.var 1]) (.con (.int 2)))))]), .ifS (.not (.call n__law_equal [.call n_exchanges [.bi .lst [.var 4], .var 5], .call n__law_exchanges [.var 4, .var 5]])) [.ret (.con (.bool false))] [], .asg (.nm 6) (.call n__law_walked [.var 1, .var 4, .var 5, .bin .mod (.call n__law_draw [.var 1]) (.con (.int 8))]), .ifS (.not (.call n__law_equal [.call n_is_chain [.bi .lst [.var 4], .bi .lst [.var 6]], .con (.bool true)])) [.ret (.con (.bool false))] [], .asg (.nm 7) (.bin .mod (.call n__law_draw [.var 1]) (.bi .len [.var 6])), .asg (.nm 8) (.bin .add (.bin .add (.slice (.var 6) (.nop) (.var 7)) (.lst [.bi .tup [.comp .seq [.sub (.var 6) (.var 7)] (.nm 17) [17] (.nop) (.bin .mod (.bin .add (.var 17) (.bin .mod (.call n__law_draw [.var 1]) (.con (.int 2)))) (.con (.int 61)))]])) (.slice (.var 6) (.bin .add (.var 7) (.con (.int 1))) (.nop))), .ifS (.not (.call n__law_equal [.call n_is_chain [.bi .lst [.var 4], .var 8], .call n__law_is_chain [.var 4, .var 8]])) [.ret (.con (.bool false))] [], .asg (.nm 9) (.bin .mod (.call n__law_draw [.var 1]) (.sub (.lst [.con (.int 8), .con (.int 15)]) (.bin .mod (.call n__law_draw [.var 1]) (.con (.int 2))))), .asg (.nm 5) (.bi .tup [.comp .rng1 [.var 3] (.nm 7) [7] (.nop) (.bin .mod (.call n__law_draw [.var 1]) (.con (.int 5)))]), .asg (.nm 10) (.call n__law_walked [.var 1, .var 4, .var 5, .bin .mod (.call n__law_draw [.var 1]) (.con (.int 6))]), .asg (.nm 11) (.sub (.var 10) (.bin .sub (.bi .len [.var 10]) (.con (.int 1)))), .ifS (.cmp .eq (.bin .mod (.call n__law_draw [.var 1]) (.con (.int 4))) (.con (.int 0))) [.asg (.nm 11) (.bi .tup [.comp .rng1 [.var 3] (.nm 7) [7] (.nop) (.bin .mod (.call n__law_draw [.var 1]) (.con (.int 5)))])] [], .ifS (.not (.call n__law_equal [.call n_shortest_chain [.bi .lst [.var 4], .var 5, .var 11, .var 9], .call n__law_shortest [.var 4, .var 5, .var 11, .var 9]])) [.ret (.con (.bool false))] []], .asg (.nm 12) (.lst [.tup [.tup [.con (.int 1), .con (.int 0)], .tup [.con (.int 0), .con (.int 1)]]]), .asg (.nm 13) (.lst [.con .none, .lst [], .lst [.tup [.tup [.con (.int 1)], .tup [.con (.int 0), .con (.int 1)]]], .lst [.tup [.tup [.con (.int 1), .con (.int 0)], .tup [.con (.int 1), .con (.int 0)]]], .lst [.tup [.tup [.con (.int 5), .con (.int 0)], .tup [.con (.int 0), .con (.int 1)]]], .lst [.tup [.tup [.con (.int 1), .con (.int 0)]]], .lst [.lst [.tup [.con (.int 1), .con (.int 0)], .tup [.con (.int 0), .con (.int 1)]]], .lst [.tup [.tup [.neg (.con (.int 1)), .con (.int 0)], .tup [.con (.int 0), .con (.int 1)]]], .bin .mul (.var 12) (.con (.int 5)), .lst [.tup [.tup [.con (.bool true), .con (.int 0)], .tup [.con (.int 0), .con (.int 1)]]], .lst [.tup [.tup [.con (.int 1), .con (.int 0), .con (.int 0), .con (.int 0)], .tup [.con (.int 0), .con (.int 0), .con (.int 0), .con (.int 1)]]], .lst [.tup [.tup [], .tup []]], .tup [.sub (.var 12) (.con (.int 0))]]), .asg (.nm 14) (.sub (.var 13) (.bin .mod (.call n__law_draw [.var 1]) (.bi .len [.var 13]))), .asg (.nm 15) (.sub (.lst [.con .none, .tup [.con (.int 1)], .tup [.con (.int 61), .con (.int 0)], .tup [.neg (.con (.int 1)), .con (.int 0)], .tup [.con (.bool true), .con (.int 0)], .lst [.con (.int 1), .con (.int 0)], .tup [.con (.int 1), .con (.int 0), .con (.int 0)], .tup [.con (.str (PySem.Str.ofString "1")), .con (.int 0)]]) (.bin .mod (.call n__law_draw [.var 1]) (.con (.int 8)))), .forS .seq [.lst [.con (.str (PySem.Str.ofString "exchanges")), .con (.str (PySem.Str.ofString "is")), .con (.str (PySem.Str.ofString "chain"))]] (.nm 16) [.ifS (.cmp .ne (.call n__law_error [.var 16, .var 14, .tup [.con (.int 1), .con (.int 0)], .tup [.con (.int 0), .con (.int 1)], .con (.int 5)]) (.con (.str (PySem.Str.ofString "program")))) [.ret (.con (.bool false))] [], .ifS (.and (.cmp .ne (.var 16) (.con (.str (PySem.Str.ofString "is")))) (.cmp .ne (.call n__law_error [.var 16, .var 12, .var 15, .tup [.con (.int 0), .con (.int 1)], .con (.int 5)]) (.con (.str (PySem.Str.ofString "standing"))))) [.ret (.con (.bool false))] []], .ifS (.or (.not (.call n__law_equal [.call n_is_chain [.var 12, .lst [.var 15]], .con (.bool false)])) (.not (.call n__law_equal [.call n_is_chain [.var 12, .sub (.lst [.con .none, .lst [], .tup [.tup [.con (.int 1), .con (.int 0)]]]) (.bin .mod (.call n__law_draw [.var 1]) (.con (.int 3)))], .con (.bool false)]))) [.ret (.con (.bool false))] [], .ifS (.cmp .ne (.call n__law_error [.con (.str (PySem.Str.ofString "chain")), .var 12, .tup [.con (.int 1), .con (.int 0)], .var 15, .con (.int 5)]) (.con (.str (PySem.Str.ofString "standing")))) [.ret (.con (.bool false))] [], .ret (.cmp .eq (.call n__law_error [.con (.str (PySem.Str.ofString "chain")), .var 12, .tup [.con (.int 1), .con (.int 0)], .tup [.con (.int 0), .con (.int 1)], .sub (.lst [.neg (.con (.int 1)), .con (.int 31), .con (.bool true), .con .none]) (.bin .mod (.call n__law_draw [.var 1]) (.con (.int 4)))]) (.con (.str (PySem.Str.ofString "argument"))))]⟩
def subX : Nat → Nat → Bool
  | 0, 0 => true
  | 0, 1 => false
  | 0, _ => false
  | 1, 0 => false
  | 1, 1 => true
  | 1, _ => false
  | _, 0 => false
  | _, 1 => false
  | _, _ => true
def T : Tab := ⟨[fd_is_within, fd_is_tuple, fd_is_bag_of, fd_check_rules, fd_check_bag, fd_is_within_bag, fd_put_for, fd_all_exchanges, fd_exchanges, fd_check_sum, fd_is_chain, fd_shortest_chain, fd__law_mixed, fd__law_numbers, fd__law_draw, fd__law_equal, fd__law_all_equal, fd__law_rules, fd__law_has, fd__law_put, fd__law_exchanges, fd__law_is_chain, fd__law_shortest, fd__law_error, fd__law_walked, fd_law], subX⟩
theorem at_is_within : T.defs[n_is_within]? = some fd_is_within := rfl
@[simp] theorem md_is_within : T.md n_is_within = [false, false, false] := id rfl
theorem at_is_tuple : T.defs[n_is_tuple]? = some fd_is_tuple := rfl
@[simp] theorem md_is_tuple : T.md n_is_tuple = [false, false] := id rfl
theorem at_is_bag_of : T.defs[n_is_bag_of]? = some fd_is_bag_of := rfl
@[simp] theorem md_is_bag_of : T.md n_is_bag_of = [false, false, false] := id rfl
theorem at_check_rules : T.defs[n_check_rules]? = some fd_check_rules := rfl
@[simp] theorem md_check_rules : T.md n_check_rules = [false] := id rfl
theorem at_check_bag : T.defs[n_check_bag]? = some fd_check_bag := rfl
@[simp] theorem md_check_bag : T.md n_check_bag = [false, false] := id rfl
theorem at_is_within_bag : T.defs[n_is_within_bag]? = some fd_is_within_bag := rfl
@[simp] theorem md_is_within_bag : T.md n_is_within_bag = [false, false] := id rfl
theorem at_put_for : T.defs[n_put_for]? = some fd_put_for := rfl
@[simp] theorem md_put_for : T.md n_put_for = [false, false, false] := id rfl
theorem at_all_exchanges : T.defs[n_all_exchanges]? = some fd_all_exchanges := rfl
@[simp] theorem md_all_exchanges : T.md n_all_exchanges = [false, false] := id rfl
theorem at_exchanges : T.defs[n_exchanges]? = some fd_exchanges := rfl
@[simp] theorem md_exchanges : T.md n_exchanges = [false, false] := id rfl
theorem at_check_sum : T.defs[n_check_sum]? = some fd_check_sum := rfl
@[simp] theorem md_check_sum : T.md n_check_sum = [false] := id rfl
theorem at_is_chain : T.defs[n_is_chain]? = some fd_is_chain := rfl
@[simp] theorem md_is_chain : T.md n_is_chain = [false, false] := id rfl
theorem at_shortest_chain : T.defs[n_shortest_chain]? = some fd_shortest_chain := rfl
@[simp] theorem md_shortest_chain : T.md n_shortest_chain = [false, false, false, false] := id rfl
theorem at__law_mixed : T.defs[n__law_mixed]? = some fd__law_mixed := rfl
@[simp] theorem md__law_mixed : T.md n__law_mixed = [false, false] := id rfl
theorem at__law_numbers : T.defs[n__law_numbers]? = some fd__law_numbers := rfl
@[simp] theorem md__law_numbers : T.md n__law_numbers = [false] := id rfl
theorem at__law_draw : T.defs[n__law_draw]? = some fd__law_draw := rfl
@[simp] theorem md__law_draw : T.md n__law_draw = [true] := id rfl
theorem at__law_equal : T.defs[n__law_equal]? = some fd__law_equal := rfl
@[simp] theorem md__law_equal : T.md n__law_equal = [false, false] := id rfl
theorem at__law_all_equal : T.defs[n__law_all_equal]? = some fd__law_all_equal := rfl
@[simp] theorem md__law_all_equal : T.md n__law_all_equal = [false, false] := id rfl
theorem at__law_rules : T.defs[n__law_rules]? = some fd__law_rules := rfl
@[simp] theorem md__law_rules : T.md n__law_rules = [true, false, false, false] := id rfl
theorem at__law_has : T.defs[n__law_has]? = some fd__law_has := rfl
@[simp] theorem md__law_has : T.md n__law_has = [false, false] := id rfl
theorem at__law_put : T.defs[n__law_put]? = some fd__law_put := rfl
@[simp] theorem md__law_put : T.md n__law_put = [false, false, false] := id rfl
theorem at__law_exchanges : T.defs[n__law_exchanges]? = some fd__law_exchanges := rfl
@[simp] theorem md__law_exchanges : T.md n__law_exchanges = [false, false] := id rfl
theorem at__law_is_chain : T.defs[n__law_is_chain]? = some fd__law_is_chain := rfl
@[simp] theorem md__law_is_chain : T.md n__law_is_chain = [false, false] := id rfl
theorem at__law_shortest : T.defs[n__law_shortest]? = some fd__law_shortest := rfl
@[simp] theorem md__law_shortest : T.md n__law_shortest = [false, false, false, false] := id rfl
theorem at__law_error : T.defs[n__law_error]? = some fd__law_error := rfl
@[simp] theorem md__law_error : T.md n__law_error = [false, false, false, false, false] := id rfl
theorem at__law_walked : T.defs[n__law_walked]? = some fd__law_walked := rfl
@[simp] theorem md__law_walked : T.md n__law_walked = [true, false, false, false] := id rfl
theorem at_law : T.defs[n_law]? = some fd_law := rfl
@[simp] theorem md_law : T.md n_law = [false] := id rfl
end K40
end

section
set_option Elab.async false
set_option linter.all false
set_option maxRecDepth 100000
set_option maxHeartbeats 4000000
set_option autoImplicit false
namespace K40
open PyProof.Rows (envOfC)
open PySem PySem.W L2 DL
/-! ### the text of each def -/
def topS (i : Nat) : Stmt := PySem.Challenge.pw_everypurse_k40_exchanges_and_chains.main.body.getD i (.Pass ⟨0, 0, 0, 0⟩)
abbrev s0 : Stmt := topS 6
abbrev s1 : Stmt := topS 7
abbrev s2 : Stmt := topS 14
abbrev s3 : Stmt := topS 15
abbrev s4 : Stmt := topS 16
abbrev s5 : Stmt := topS 17
abbrev s6 : Stmt := topS 18
abbrev s7 : Stmt := topS 19
abbrev s8 : Stmt := topS 20
abbrev s9 : Stmt := topS 21
abbrev s10 : Stmt := topS 22
abbrev s11 : Stmt := topS 23
abbrev s12 : Stmt := topS 25
abbrev s13 : Stmt := topS 26
abbrev s14 : Stmt := topS 27
abbrev s15 : Stmt := topS 28
abbrev s16 : Stmt := topS 29
abbrev s17 : Stmt := topS 30
abbrev s18 : Stmt := topS 32
abbrev s19 : Stmt := topS 33
abbrev s20 : Stmt := topS 40
abbrev s21 : Stmt := topS 42
abbrev s22 : Stmt := topS 43
abbrev s23 : Stmt := topS 44
abbrev s24 : Stmt := topS 45
abbrev s25 : Stmt := topS 46
theorem sc0 : FnScope [PySem.Str.ofString "value", PySem.Str.ofString "least", PySem.Str.ofString "most"] [PySem.Str.ofString "value", PySem.Str.ofString "least", PySem.Str.ofString "most"] (defScope s0) := ⟨rfl, rfl, rfl, by decide +kernel, rfl, by decide +kernel, by decide +kernel⟩
theorem sc1 : FnScope [PySem.Str.ofString "value", PySem.Str.ofString "size"] [PySem.Str.ofString "value", PySem.Str.ofString "size"] (defScope s1) := ⟨rfl, rfl, rfl, by decide +kernel, rfl, by decide +kernel, by decide +kernel⟩
theorem sc2 : FnScope [PySem.Str.ofString "value", PySem.Str.ofString "kinds", PySem.Str.ofString "most", PySem.Str.ofString "one"] [PySem.Str.ofString "value", PySem.Str.ofString "kinds", PySem.Str.ofString "most"] (defScope s2) := ⟨rfl, rfl, rfl, by decide +kernel, rfl, by decide +kernel, by decide +kernel⟩
theorem sc3 : FnScope [PySem.Str.ofString "rules", PySem.Str.ofString "kinds", PySem.Str.ofString "left", PySem.Str.ofString "right", PySem.Str.ofString "one"] [PySem.Str.ofString "rules"] (defScope s3) := ⟨rfl, rfl, rfl, by decide +kernel, rfl, by decide +kernel, by decide +kernel⟩
theorem sc4 : FnScope [PySem.Str.ofString "rules", PySem.Str.ofString "bag"] [PySem.Str.ofString "rules", PySem.Str.ofString "bag"] (defScope s4) := ⟨rfl, rfl, rfl, by decide +kernel, rfl, by decide +kernel, by decide +kernel⟩
theorem sc5 : FnScope [PySem.Str.ofString "one", PySem.Str.ofString "bag", PySem.Str.ofString "k"] [PySem.Str.ofString "one", PySem.Str.ofString "bag"] (defScope s5) := ⟨rfl, rfl, rfl, by decide +kernel, rfl, by decide +kernel, by decide +kernel⟩
theorem sc6 : FnScope [PySem.Str.ofString "bag", PySem.Str.ofString "left", PySem.Str.ofString "right", PySem.Str.ofString "k"] [PySem.Str.ofString "bag", PySem.Str.ofString "left", PySem.Str.ofString "right"] (defScope s6) := ⟨rfl, rfl, rfl, by decide +kernel, rfl, by decide +kernel, by decide +kernel⟩
theorem sc7 : FnScope [PySem.Str.ofString "rules", PySem.Str.ofString "bag", PySem.Str.ofString "found", PySem.Str.ofString "place", PySem.Str.ofString "left", PySem.Str.ofString "right"] [PySem.Str.ofString "rules", PySem.Str.ofString "bag"] (defScope s7) := ⟨rfl, rfl, rfl, by decide +kernel, rfl, by decide +kernel, by decide +kernel⟩
theorem sc8 : FnScope [PySem.Str.ofString "rules", PySem.Str.ofString "bag"] [PySem.Str.ofString "rules", PySem.Str.ofString "bag"] (defScope s8) := ⟨rfl, rfl, rfl, by decide +kernel, rfl, by decide +kernel, by decide +kernel⟩
theorem sc9 : FnScope [PySem.Str.ofString "most"] [PySem.Str.ofString "most"] (defScope s9) := ⟨rfl, rfl, rfl, by decide +kernel, rfl, by decide +kernel, by decide +kernel⟩
theorem sc10 : FnScope [PySem.Str.ofString "rules", PySem.Str.ofString "value", PySem.Str.ofString "k", PySem.Str.ofString "one"] [PySem.Str.ofString "rules", PySem.Str.ofString "value"] (defScope s10) := ⟨rfl, rfl, rfl, by decide +kernel, rfl, by decide +kernel, by decide +kernel⟩
theorem sc11 : FnScope [PySem.Str.ofString "rules", PySem.Str.ofString "bag", PySem.Str.ofString "other", PySem.Str.ofString "most", PySem.Str.ofString "far", PySem.Str.ofString "line", PySem.Str.ofString "at", PySem.Str.ofString "place", PySem.Str.ofString "way", PySem.Str.ofString "there", PySem.Str.ofString "found", PySem.Str.ofString "near", PySem.Str.ofString "one"] [PySem.Str.ofString "rules", PySem.Str.ofString "bag", PySem.Str.ofString "other", PySem.Str.ofString "most"] (defScope s11) := ⟨rfl, rfl, rfl, by decide +kernel, rfl, by decide +kernel, by decide +kernel⟩
theorem sc12 : FnScope [PySem.Str.ofString "number", PySem.Str.ofString "k", PySem.Str.ofString "step"] [PySem.Str.ofString "number", PySem.Str.ofString "k"] (defScope s12) := ⟨rfl, rfl, rfl, by decide +kernel, rfl, by decide +kernel, by decide +kernel⟩
theorem sc13 : FnScope [PySem.Str.ofString "script", PySem.Str.ofString "numbers", PySem.Str.ofString "cell", PySem.Str.ofString "rest", PySem.Str.ofString "k"] [PySem.Str.ofString "script"] (defScope s13) := ⟨rfl, rfl, rfl, by decide +kernel, rfl, by decide +kernel, by decide +kernel⟩
theorem sc14 : FnScope [PySem.Str.ofString "draws", PySem.Str.ofString "at", PySem.Str.ofString "first"] [PySem.Str.ofString "draws"] (defScope s14) := ⟨rfl, rfl, rfl, by decide +kernel, rfl, by decide +kernel, by decide +kernel⟩
theorem sc15 : FnScope [PySem.Str.ofString "actual", PySem.Str.ofString "due"] [PySem.Str.ofString "actual", PySem.Str.ofString "due"] (defScope s15) := ⟨rfl, rfl, rfl, by decide +kernel, rfl, by decide +kernel, by decide +kernel⟩
theorem sc16 : FnScope [PySem.Str.ofString "actual", PySem.Str.ofString "due", PySem.Str.ofString "k"] [PySem.Str.ofString "actual", PySem.Str.ofString "due"] (defScope s16) := ⟨rfl, rfl, rfl, by decide +kernel, rfl, by decide +kernel, by decide +kernel⟩
theorem sc17 : FnScope [PySem.Str.ofString "draws", PySem.Str.ofString "kinds", PySem.Str.ofString "most", PySem.Str.ofString "many", PySem.Str.ofString "found", PySem.Str.ofString "left", PySem.Str.ofString "right", PySem.Str.ofString "k"] [PySem.Str.ofString "draws", PySem.Str.ofString "kinds", PySem.Str.ofString "most", PySem.Str.ofString "many"] (defScope s17) := ⟨rfl, rfl, rfl, by decide +kernel, rfl, by decide +kernel, by decide +kernel⟩
theorem sc18 : FnScope [PySem.Str.ofString "bag", PySem.Str.ofString "part", PySem.Str.ofString "k"] [PySem.Str.ofString "bag", PySem.Str.ofString "part"] (defScope s18) := ⟨rfl, rfl, rfl, by decide +kernel, rfl, by decide +kernel, by decide +kernel⟩
theorem sc19 : FnScope [PySem.Str.ofString "bag", PySem.Str.ofString "left", PySem.Str.ofString "right", PySem.Str.ofString "k"] [PySem.Str.ofString "bag", PySem.Str.ofString "left", PySem.Str.ofString "right"] (defScope s19) := ⟨rfl, rfl, rfl, by decide +kernel, rfl, by decide +kernel, by decide +kernel⟩
theorem sc20 : FnScope [PySem.Str.ofString "rules", PySem.Str.ofString "bag", PySem.Str.ofString "found", PySem.Str.ofString "k", PySem.Str.ofString "way"] [PySem.Str.ofString "rules", PySem.Str.ofString "bag"] (defScope s20) := ⟨rfl, rfl, rfl, by decide +kernel, rfl, by decide +kernel, by decide +kernel⟩
theorem sc21 : FnScope [PySem.Str.ofString "rules", PySem.Str.ofString "bags", PySem.Str.ofString "k", PySem.Str.ofString "one", PySem.Str.ofString "bag"] [PySem.Str.ofString "rules", PySem.Str.ofString "bags"] (defScope s21) := ⟨rfl, rfl, rfl, by decide +kernel, rfl, by decide +kernel, by decide +kernel⟩
theorem sc22 : FnScope [PySem.Str.ofString "rules", PySem.Str.ofString "bag", PySem.Str.ofString "other", PySem.Str.ofString "most", PySem.Str.ofString "first", PySem.Str.ofString "level", PySem.Str.ofString "new", PySem.Str.ofString "here", PySem.Str.ofString "there", PySem.Str.ofString "k", PySem.Str.ofString "way", PySem.Str.ofString "chain"] [PySem.Str.ofString "rules", PySem.Str.ofString "bag", PySem.Str.ofString "other", PySem.Str.ofString "most"] (defScope s22) := ⟨rfl, rfl, rfl, by decide +kernel, rfl, by decide +kernel, by decide +kernel⟩
theorem sc23 : FnScope [PySem.Str.ofString "name", PySem.Str.ofString "rules", PySem.Str.ofString "one", PySem.Str.ofString "two", PySem.Str.ofString "three"] [PySem.Str.ofString "name", PySem.Str.ofString "rules", PySem.Str.ofString "one", PySem.Str.ofString "two", PySem.Str.ofString "three"] (defScope s23) := ⟨rfl, rfl, rfl, by decide +kernel, rfl, by decide +kernel, by decide +kernel⟩
theorem sc24 : FnScope [PySem.Str.ofString "draws", PySem.Str.ofString "rules", PySem.Str.ofString "bag", PySem.Str.ofString "steps", PySem.Str.ofString "found", PySem.Str.ofString "turn", PySem.Str.ofString "ways", PySem.Str.ofString "one"] [PySem.Str.ofString "draws", PySem.Str.ofString "rules", PySem.Str.ofString "bag", PySem.Str.ofString "steps"] (defScope s24) := ⟨rfl, rfl, rfl, by decide +kernel, rfl, by decide +kernel, by decide +kernel⟩
theorem sc25 : FnScope [PySem.Str.ofString "script", PySem.Str.ofString "draws", PySem.Str.ofString "turn", PySem.Str.ofString "kinds", PySem.Str.ofString "rules", PySem.Str.ofString "bag", PySem.Str.ofString "chain", PySem.Str.ofString "k", PySem.Str.ofString "other", PySem.Str.ofString "most", PySem.Str.ofString "walked", PySem.Str.ofString "goal", PySem.Str.ofString "fine", PySem.Str.ofString "crooked", PySem.Str.ofString "bad", PySem.Str.ofString "strange", PySem.Str.ofString "name", PySem.Str.ofString "one"] [PySem.Str.ofString "script"] (defScope s25) := ⟨rfl, rfl, rfl, by decide +kernel, rfl, by decide +kernel, by decide +kernel⟩
def psN : Nat → List Str
  | 0 => [PySem.Str.ofString "value", PySem.Str.ofString "least", PySem.Str.ofString "most"]
  | 1 => [PySem.Str.ofString "value", PySem.Str.ofString "size"]
  | 2 => [PySem.Str.ofString "value", PySem.Str.ofString "kinds", PySem.Str.ofString "most"]
  | 3 => [PySem.Str.ofString "rules"]
  | 4 => [PySem.Str.ofString "rules", PySem.Str.ofString "bag"]
  | 5 => [PySem.Str.ofString "one", PySem.Str.ofString "bag"]
  | 6 => [PySem.Str.ofString "bag", PySem.Str.ofString "left", PySem.Str.ofString "right"]
  | 7 => [PySem.Str.ofString "rules", PySem.Str.ofString "bag"]
  | 8 => [PySem.Str.ofString "rules", PySem.Str.ofString "bag"]
  | 9 => [PySem.Str.ofString "most"]
  | 10 => [PySem.Str.ofString "rules", PySem.Str.ofString "value"]
  | 11 => [PySem.Str.ofString "rules", PySem.Str.ofString "bag", PySem.Str.ofString "other", PySem.Str.ofString "most"]
  | 12 => [PySem.Str.ofString "number", PySem.Str.ofString "k"]
  | 13 => [PySem.Str.ofString "script"]
  | 14 => [PySem.Str.ofString "draws"]
  | 15 => [PySem.Str.ofString "actual", PySem.Str.ofString "due"]
  | 16 => [PySem.Str.ofString "actual", PySem.Str.ofString "due"]
  | 17 => [PySem.Str.ofString "draws", PySem.Str.ofString "kinds", PySem.Str.ofString "most", PySem.Str.ofString "many"]
  | 18 => [PySem.Str.ofString "bag", PySem.Str.ofString "part"]
  | 19 => [PySem.Str.ofString "bag", PySem.Str.ofString "left", PySem.Str.ofString "right"]
  | 20 => [PySem.Str.ofString "rules", PySem.Str.ofString "bag"]
  | 21 => [PySem.Str.ofString "rules", PySem.Str.ofString "bags"]
  | 22 => [PySem.Str.ofString "rules", PySem.Str.ofString "bag", PySem.Str.ofString "other", PySem.Str.ofString "most"]
  | 23 => [PySem.Str.ofString "name", PySem.Str.ofString "rules", PySem.Str.ofString "one", PySem.Str.ofString "two", PySem.Str.ofString "three"]
  | 24 => [PySem.Str.ofString "draws", PySem.Str.ofString "rules", PySem.Str.ofString "bag", PySem.Str.ofString "steps"]
  | 25 => [PySem.Str.ofString "script"]
  | _ => []
theorem boot_ty_bool : bootBuiltins (PySem.Str.ofString "bool") = some (.type "bool") := by decide +kernel
theorem boot_ty_int : bootBuiltins (PySem.Str.ofString "int") = some (.type "int") := by decide +kernel
theorem boot_b_isinstance : bootBuiltins (PySem.Str.ofString "isinstance") = some (.builtin "isinstance") := by decide +kernel
theorem boot_b_len : bootBuiltins (PySem.Str.ofString "len") = some (.builtin "len") := by decide +kernel
theorem boot_ty_list : bootBuiltins (PySem.Str.ofString "list") = some (.type "list") := by decide +kernel
theorem boot_b_max : bootBuiltins (PySem.Str.ofString "max") = some (.builtin "max") := by decide +kernel
theorem boot_b_min : bootBuiltins (PySem.Str.ofString "min") = some (.builtin "min") := by decide +kernel
theorem boot_ty_range : bootBuiltins (PySem.Str.ofString "range") = some (.type "range") := by decide +kernel
theorem boot_b_sorted : bootBuiltins (PySem.Str.ofString "sorted") = some (.builtin "sorted") := by decide +kernel
theorem boot_ty_str : bootBuiltins (PySem.Str.ofString "str") = some (.type "str") := by decide +kernel
theorem boot_b_sum : bootBuiltins (PySem.Str.ofString "sum") = some (.builtin "sum") := by decide +kernel
theorem boot_ty_tuple : bootBuiltins (PySem.Str.ofString "tuple") = some (.type "tuple") := by decide +kernel
structure Fx (K : PySem.W.Frag) (mg : Str → Option Value) (fa : Nat → Addr) (fdat : Nat → FuncData) (cl : Nat → Addr) : Prop where
  m_bool : mg (PySem.Str.ofString "bool") = none
  m_int : mg (PySem.Str.ofString "int") = none
  m_isinstance : mg (PySem.Str.ofString "isinstance") = none
  m_len : mg (PySem.Str.ofString "len") = none
  m_list : mg (PySem.Str.ofString "list") = none
  m_max : mg (PySem.Str.ofString "max") = none
  m_min : mg (PySem.Str.ofString "min") = none
  m_range : mg (PySem.Str.ofString "range") = none
  m_sorted : mg (PySem.Str.ofString "sorted") = none
  m_str : mg (PySem.Str.ofString "str") = none
  m_sum : mg (PySem.Str.ofString "sum") = none
  m_tuple : mg (PySem.Str.ofString "tuple") = none
  c_MOST_KINDS : ∃ t, mg (PySem.Str.ofString "MOST_KINDS") = some (.int 3 t)
  c_MOST_RULES : ∃ t, mg (PySem.Str.ofString "MOST_RULES") = some (.int 4 t)
  c_MOST_PART : ∃ t, mg (PySem.Str.ofString "MOST_PART") = some (.int 4 t)
  c_MOST_BAG : ∃ t, mg (PySem.Str.ofString "MOST_BAG") = some (.int 60 t)
  c_MOST_SUM : ∃ t, mg (PySem.Str.ofString "MOST_SUM") = some (.int 30 t)
  g_0 : mg (PySem.Str.ofString "is_within") = some (.ref (fa 0))
  k_0 : PySem.W.keepIn K (.ref (fa 0)) = true
  b_0 : Binds K (fdat 0) (psN 0) []
  F_0 : FunD K (PySem.Str.ofString "is_within") (PySem.Str.ofString "is_within") (defArgs s0) (defBody s0) (defScope s0) [] [] (fa 0) (fdat 0)
  g_1 : mg (PySem.Str.ofString "is_tuple") = some (.ref (fa 1))
  k_1 : PySem.W.keepIn K (.ref (fa 1)) = true
  b_1 : Binds K (fdat 1) (psN 1) []
  F_1 : FunD K (PySem.Str.ofString "is_tuple") (PySem.Str.ofString "is_tuple") (defArgs s1) (defBody s1) (defScope s1) [] [] (fa 1) (fdat 1)
  g_2 : mg (PySem.Str.ofString "is_bag_of") = some (.ref (fa 2))
  k_2 : PySem.W.keepIn K (.ref (fa 2)) = true
  b_2 : Binds K (fdat 2) (psN 2) []
  F_2 : FunD K (PySem.Str.ofString "is_bag_of") (PySem.Str.ofString "is_bag_of") (defArgs s2) (defBody s2) (defScope s2) [] [] (fa 2) (fdat 2)
  g_3 : mg (PySem.Str.ofString "check_rules") = some (.ref (fa 3))
  k_3 : PySem.W.keepIn K (.ref (fa 3)) = true
  b_3 : Binds K (fdat 3) (psN 3) []
  F_3 : FunD K (PySem.Str.ofString "check_rules") (PySem.Str.ofString "check_rules") (defArgs s3) (defBody s3) (defScope s3) [] [] (fa 3) (fdat 3)
  g_4 : mg (PySem.Str.ofString "check_bag") = some (.ref (fa 4))
  k_4 : PySem.W.keepIn K (.ref (fa 4)) = true
  b_4 : Binds K (fdat 4) (psN 4) []
  F_4 : FunD K (PySem.Str.ofString "check_bag") (PySem.Str.ofString "check_bag") (defArgs s4) (defBody s4) (defScope s4) [] [] (fa 4) (fdat 4)
  g_5 : mg (PySem.Str.ofString "is_within_bag") = some (.ref (fa 5))
  k_5 : PySem.W.keepIn K (.ref (fa 5)) = true
  b_5 : Binds K (fdat 5) (psN 5) []
  F_5 : FunD K (PySem.Str.ofString "is_within_bag") (PySem.Str.ofString "is_within_bag") (defArgs s5) (defBody s5) (defScope s5) [] [] (fa 5) (fdat 5)
  g_6 : mg (PySem.Str.ofString "put_for") = some (.ref (fa 6))
  k_6 : PySem.W.keepIn K (.ref (fa 6)) = true
  b_6 : Binds K (fdat 6) (psN 6) []
  F_6 : FunD K (PySem.Str.ofString "put_for") (PySem.Str.ofString "put_for") (defArgs s6) (defBody s6) (defScope s6) [] [] (fa 6) (fdat 6)
  g_7 : mg (PySem.Str.ofString "all_exchanges") = some (.ref (fa 7))
  k_7 : PySem.W.keepIn K (.ref (fa 7)) = true
  b_7 : Binds K (fdat 7) (psN 7) []
  F_7 : FunD K (PySem.Str.ofString "all_exchanges") (PySem.Str.ofString "all_exchanges") (defArgs s7) (defBody s7) (defScope s7) [] [] (fa 7) (fdat 7)
  g_8 : mg (PySem.Str.ofString "exchanges") = some (.ref (fa 8))
  k_8 : PySem.W.keepIn K (.ref (fa 8)) = true
  b_8 : Binds K (fdat 8) (psN 8) []
  F_8 : FunD K (PySem.Str.ofString "exchanges") (PySem.Str.ofString "exchanges") (defArgs s8) (defBody s8) (defScope s8) [] [] (fa 8) (fdat 8)
  g_9 : mg (PySem.Str.ofString "check_sum") = some (.ref (fa 9))
  k_9 : PySem.W.keepIn K (.ref (fa 9)) = true
  b_9 : Binds K (fdat 9) (psN 9) []
  F_9 : FunD K (PySem.Str.ofString "check_sum") (PySem.Str.ofString "check_sum") (defArgs s9) (defBody s9) (defScope s9) [] [] (fa 9) (fdat 9)
  g_10 : mg (PySem.Str.ofString "is_chain") = some (.ref (fa 10))
  k_10 : PySem.W.keepIn K (.ref (fa 10)) = true
  b_10 : Binds K (fdat 10) (psN 10) []
  F_10 : FunD K (PySem.Str.ofString "is_chain") (PySem.Str.ofString "is_chain") (defArgs s10) (defBody s10) (defScope s10) [] [] (fa 10) (fdat 10)
  g_11 : mg (PySem.Str.ofString "shortest_chain") = some (.ref (fa 11))
  k_11 : PySem.W.keepIn K (.ref (fa 11)) = true
  b_11 : Binds K (fdat 11) (psN 11) []
  F_11 : FunD K (PySem.Str.ofString "shortest_chain") (PySem.Str.ofString "shortest_chain") (defArgs s11) (defBody s11) (defScope s11) [] [] (fa 11) (fdat 11)
  g_12 : mg (PySem.Str.ofString "_law_mixed") = some (.ref (fa 12))
  k_12 : PySem.W.keepIn K (.ref (fa 12)) = true
  b_12 : Binds K (fdat 12) (psN 12) []
  F_12 : FunD K (PySem.Str.ofString "_law_mixed") (PySem.Str.ofString "_law_mixed") (defArgs s12) (defBody s12) (defScope s12) [] [] (fa 12) (fdat 12)
  g_13 : mg (PySem.Str.ofString "_law_numbers") = some (.ref (fa 13))
  k_13 : PySem.W.keepIn K (.ref (fa 13)) = true
  b_13 : Binds K (fdat 13) (psN 13) []
  F_13 : FunD K (PySem.Str.ofString "_law_numbers") (PySem.Str.ofString "_law_numbers") (defArgs s13) (defBody s13) (defScope s13) [] [] (fa 13) (fdat 13)
  g_14 : mg (PySem.Str.ofString "_law_draw") = some (.ref (fa 14))
  k_14 : PySem.W.keepIn K (.ref (fa 14)) = true
  b_14 : Binds K (fdat 14) (psN 14) []
  F_14 : FunD K (PySem.Str.ofString "_law_draw") (PySem.Str.ofString "_law_draw") (defArgs s14) (defBody s14) (defScope s14) [] [] (fa 14) (fdat 14)
  g_15 : mg (PySem.Str.ofString "_law_equal") = some (.ref (fa 15))
  k_15 : PySem.W.keepIn K (.ref (fa 15)) = true
  b_15 : Binds K (fdat 15) (psN 15) []
  F_15 : FunD K (PySem.Str.ofString "_law_equal") (PySem.Str.ofString "_law_equal") (defArgs s15) (defBody s15) (defScope s15) [] [] (fa 15) (fdat 15)
  g_16 : mg (PySem.Str.ofString "_law_all_equal") = some (.ref (fa 16))
  k_16 : PySem.W.keepIn K (.ref (fa 16)) = true
  b_16 : Binds K (fdat 16) (psN 16) []
  F_16 : FunD K (PySem.Str.ofString "_law_all_equal") (PySem.Str.ofString "_law_all_equal") (defArgs s16) (defBody s16) (defScope s16) [] [] (fa 16) (fdat 16)
  g_17 : mg (PySem.Str.ofString "_law_rules") = some (.ref (fa 17))
  k_17 : PySem.W.keepIn K (.ref (fa 17)) = true
  b_17 : Binds K (fdat 17) (psN 17) []
  F_17 : FunD K (PySem.Str.ofString "_law_rules") (PySem.Str.ofString "_law_rules") (defArgs s17) (defBody s17) (defScope s17) [] [] (fa 17) (fdat 17)
  g_18 : mg (PySem.Str.ofString "_law_has") = some (.ref (fa 18))
  k_18 : PySem.W.keepIn K (.ref (fa 18)) = true
  b_18 : Binds K (fdat 18) (psN 18) []
  F_18 : FunD K (PySem.Str.ofString "_law_has") (PySem.Str.ofString "_law_has") (defArgs s18) (defBody s18) (defScope s18) [] [] (fa 18) (fdat 18)
  g_19 : mg (PySem.Str.ofString "_law_put") = some (.ref (fa 19))
  k_19 : PySem.W.keepIn K (.ref (fa 19)) = true
  b_19 : Binds K (fdat 19) (psN 19) []
  F_19 : FunD K (PySem.Str.ofString "_law_put") (PySem.Str.ofString "_law_put") (defArgs s19) (defBody s19) (defScope s19) [] [] (fa 19) (fdat 19)
  g_20 : mg (PySem.Str.ofString "_law_exchanges") = some (.ref (fa 20))
  k_20 : PySem.W.keepIn K (.ref (fa 20)) = true
  b_20 : Binds K (fdat 20) (psN 20) []
  F_20 : FunD K (PySem.Str.ofString "_law_exchanges") (PySem.Str.ofString "_law_exchanges") (defArgs s20) (defBody s20) (defScope s20) [] [] (fa 20) (fdat 20)
  g_21 : mg (PySem.Str.ofString "_law_is_chain") = some (.ref (fa 21))
  k_21 : PySem.W.keepIn K (.ref (fa 21)) = true
  b_21 : Binds K (fdat 21) (psN 21) []
  F_21 : FunD K (PySem.Str.ofString "_law_is_chain") (PySem.Str.ofString "_law_is_chain") (defArgs s21) (defBody s21) (defScope s21) [] [] (fa 21) (fdat 21)
  g_22 : mg (PySem.Str.ofString "_law_shortest") = some (.ref (fa 22))
  k_22 : PySem.W.keepIn K (.ref (fa 22)) = true
  b_22 : Binds K (fdat 22) (psN 22) []
  F_22 : FunD K (PySem.Str.ofString "_law_shortest") (PySem.Str.ofString "_law_shortest") (defArgs s22) (defBody s22) (defScope s22) [] [] (fa 22) (fdat 22)
  g_23 : mg (PySem.Str.ofString "_law_error") = some (.ref (fa 23))
  k_23 : PySem.W.keepIn K (.ref (fa 23)) = true
  b_23 : Binds K (fdat 23) (psN 23) []
  F_23 : FunD K (PySem.Str.ofString "_law_error") (PySem.Str.ofString "_law_error") (defArgs s23) (defBody s23) (defScope s23) [] [] (fa 23) (fdat 23)
  g_24 : mg (PySem.Str.ofString "_law_walked") = some (.ref (fa 24))
  k_24 : PySem.W.keepIn K (.ref (fa 24)) = true
  b_24 : Binds K (fdat 24) (psN 24) []
  F_24 : FunD K (PySem.Str.ofString "_law_walked") (PySem.Str.ofString "_law_walked") (defArgs s24) (defBody s24) (defScope s24) [] [] (fa 24) (fdat 24)
  g_25 : mg (PySem.Str.ofString "law") = some (.ref (fa 25))
  k_25 : PySem.W.keepIn K (.ref (fa 25)) = true
  b_25 : Binds K (fdat 25) (psN 25) []
  F_25 : FunD K (PySem.Str.ofString "law") (PySem.Str.ofString "law") (defArgs s25) (defBody s25) (defScope s25) [] [] (fa 25) (fdat 25)
  gx_0 : mg (PySem.Str.ofString "BadProgram") = some (.ref (cl 0))
  q_0 : PySem.W.excIn K (cl 0) He.veBase "ValueError.__new__" = true
  kx_0 : PySem.W.keepIn K (.ref (cl 0)) = true
  sx_0 : PySem.W.subIn K (.ref (cl 0)) (.type "BaseException") = some true
  tx_0 : PySem.W.typeIn K (.ref (cl 0)) = some (.type "type")
  gx_1 : mg (PySem.Str.ofString "BadStanding") = some (.ref (cl 1))
  q_1 : PySem.W.excIn K (cl 1) He.veBase "ValueError.__new__" = true
  kx_1 : PySem.W.keepIn K (.ref (cl 1)) = true
  sx_1 : PySem.W.subIn K (.ref (cl 1)) (.type "BaseException") = some true
  tx_1 : PySem.W.typeIn K (.ref (cl 1)) = some (.type "type")
  gx_2 : mg (PySem.Str.ofString "BadArgument") = some (.ref (cl 2))
  q_2 : PySem.W.excIn K (cl 2) He.veBase "ValueError.__new__" = true
  kx_2 : PySem.W.keepIn K (.ref (cl 2)) = true
  sx_2 : PySem.W.subIn K (.ref (cl 2)) (.type "BaseException") = some true
  tx_2 : PySem.W.typeIn K (.ref (cl 2)) = some (.type "type")
  sub : ∀ a b, PySem.W.exmOne K (.ref (cl a)) (.ref (cl b)) = some (subX a b)
section
variable {P : Program} {w : World} {K : PySem.W.Frag} {mg : Str → Option Value} {base : Heap} {fa : Nat → Addr} {fdat : Nat → FuncData} {cl : Nat → Addr} {n k : Nat}
theorem body0 (G : Fx K mg fa fdat cl) (IH : ∀ j, FnOk P w K mg base (L2.CX P w) k (fa j) (fdat j) (psN j) (spF (runF T n) (T.md j) cl j)) (cdv : Value) (A : Around) (outer : List Env) (s : Shared) (H : Hp) (E : XK)
    (hr : Room k (A.deeper (envOfC (PySem.Str.ofString "is_within") (defScope s0) s.heap.objs.size (fa 0) cdv))) : PSs (cxOf (L2.CX P w) P w K mg base [PySem.Str.ofString "value", PySem.Str.ofString "least", PySem.Str.ofString "most"] (PySem.Str.ofString "is_within") (defScope s0) (fa 0) cdv A outer s H E) (defBody s0) (tSs ⟨⟨⟨runF T n, T.md⟩, T.sub⟩, cl⟩ (fun cls dd _ H => E cls dd H) fd_is_within.body) := by
  have hu := hu_room hr
  have hu1 := hu_room1 hr
  have hN := sc0.nd
  have tk : Takes (cxOf (L2.CX P w) P w K mg base [PySem.Str.ofString "value", PySem.Str.ofString "least", PySem.Str.ofString "most"] (PySem.Str.ofString "is_within") (defScope s0) (fa 0) cdv A outer s H E) (fun cls dd _ H => E cls dd H) := takes_of rfl rfl rfl rfl
  have hp : PassesOwn (model P w) (A.deeper (envOfC (PySem.Str.ofString "is_within") (defScope s0) s.heap.objs.size (fa 0) cdv)) (envOfC (PySem.Str.ofString "is_within") (defScope s0) s.heap.objs.size (fa 0) cdv) (cxOf (L2.CX P w) P w K mg base [PySem.Str.ofString "value", PySem.Str.ofString "least", PySem.Str.ofString "most"] (PySem.Str.ofString "is_within") (defScope s0) (fa 0) cdv A outer s H E).xe := passes_of (X := cxOf (L2.CX P w) P w K mg base [PySem.Str.ofString "value", PySem.Str.ofString "least", PySem.Str.ofString "most"] (PySem.Str.ofString "is_within") (defScope s0) (fa 0) cdv A outer s H E) rfl
  exact (dss_cons (dls_ret (dl_and (dl_isa (t := .int) G.m_isinstance G.m_int boot_ty_int (dl_var 0)) (dl_and (dl_not (dl_isa (t := .bool) G.m_isinstance G.m_bool boot_ty_bool (dl_var 0))) (dl_one (dl_chainR (oc_le hu) (oc_le hu) (dl_var 1) (dl_var 0) (dl_var 2))))))
      dss_nil)
theorem body1 (G : Fx K mg fa fdat cl) (IH : ∀ j, FnOk P w K mg base (L2.CX P w) k (fa j) (fdat j) (psN j) (spF (runF T n) (T.md j) cl j)) (cdv : Value) (A : Around) (outer : List Env) (s : Shared) (H : Hp) (E : XK)
    (hr : Room k (A.deeper (envOfC (PySem.Str.ofString "is_tuple") (defScope s1) s.heap.objs.size (fa 1) cdv))) : PSs (cxOf (L2.CX P w) P w K mg base [PySem.Str.ofString "value", PySem.Str.ofString "size"] (PySem.Str.ofString "is_tuple") (defScope s1) (fa 1) cdv A outer s H E) (defBody s1) (tSs ⟨⟨⟨runF T n, T.md⟩, T.sub⟩, cl⟩ (fun cls dd _ H => E cls dd H) fd_is_tuple.body) := by
  have hu := hu_room hr
  have hu1 := hu_room1 hr
  have hN := sc1.nd
  have tk : Takes (cxOf (L2.CX P w) P w K mg base [PySem.Str.ofString "value", PySem.Str.ofString "size"] (PySem.Str.ofString "is_tuple") (defScope s1) (fa 1) cdv A outer s H E) (fun cls dd _ H => E cls dd H) := takes_of rfl rfl rfl rfl
  have hp : PassesOwn (model P w) (A.deeper (envOfC (PySem.Str.ofString "is_tuple") (defScope s1) s.heap.objs.size (fa 1) cdv)) (envOfC (PySem.Str.ofString "is_tuple") (defScope s1) s.heap.objs.size (fa 1) cdv) (cxOf (L2.CX P w) P w K mg base [PySem.Str.ofString "value", PySem.Str.ofString "size"] (PySem.Str.ofString "is_tuple") (defScope s1) (fa 1) cdv A outer s H E).xe := passes_of (X := cxOf (L2.CX P w) P w K mg base [PySem.Str.ofString "value", PySem.Str.ofString "size"] (PySem.Str.ofString "is_tuple") (defScope s1) (fa 1) cdv A outer s H E) rfl
  exact (dss_cons (dls_ret (dl_and (dl_isa (t := .tuple) G.m_isinstance G.m_tuple boot_ty_tuple (dl_var 0)) (dl_one (dl_cmpR (oc_eq hu) (dl_biB cb_len G.m_len boot_b_len (dla_cons (dl_var 0) dla_nil)) (dl_var 1) (by with_unfolding_all rfl)))))
      dss_nil)
theorem body2 (G : Fx K mg fa fdat cl) (IH : ∀ j, FnOk P w K mg base (L2.CX P w) k (fa j) (fdat j) (psN j) (spF (runF T n) (T.md j) cl j)) (cdv : Value) (A : Around) (outer : List Env) (s : Shared) (H : Hp) (E : XK)
    (hr : Room k (A.deeper (envOfC (PySem.Str.ofString "is_bag_of") (defScope s2) s.heap.objs.size (fa 2) cdv))) : PSs (cxOf (L2.CX P w) P w K mg base [PySem.Str.ofString "value", PySem.Str.ofString "kinds", PySem.Str.ofString "most", PySem.Str.ofString "one"] (PySem.Str.ofString "is_bag_of") (defScope s2) (fa 2) cdv A outer s H E) (defBody s2) (tSs ⟨⟨⟨runF T n, T.md⟩, T.sub⟩, cl⟩ (fun cls dd _ H => E cls dd H) fd_is_bag_of.body) := by
  have hu := hu_room hr
  have hu1 := hu_room1 hr
  have hN := sc2.nd
  have tk : Takes (cxOf (L2.CX P w) P w K mg base [PySem.Str.ofString "value", PySem.Str.ofString "kinds", PySem.Str.ofString "most", PySem.Str.ofString "one"] (PySem.Str.ofString "is_bag_of") (defScope s2) (fa 2) cdv A outer s H E) (fun cls dd _ H => E cls dd H) := takes_of rfl rfl rfl rfl
  have hp : PassesOwn (model P w) (A.deeper (envOfC (PySem.Str.ofString "is_bag_of") (defScope s2) s.heap.objs.size (fa 2) cdv)) (envOfC (PySem.Str.ofString "is_bag_of") (defScope s2) s.heap.objs.size (fa 2) cdv) (cxOf (L2.CX P w) P w K mg base [PySem.Str.ofString "value", PySem.Str.ofString "kinds", PySem.Str.ofString "most", PySem.Str.ofString "one"] (PySem.Str.ofString "is_bag_of") (defScope s2) (fa 2) cdv A outer s H E).xe := passes_of (X := cxOf (L2.CX P w) P w K mg base [PySem.Str.ofString "value", PySem.Str.ofString "kinds", PySem.Str.ofString "most", PySem.Str.ofString "one"] (PySem.Str.ofString "is_bag_of") (defScope s2) (fa 2) cdv A outer s H E) rfl
  exact (dss_cons (dls_ret (dl_and (dl_call (f := n_is_tuple) (IH n_is_tuple) hr G.g_1 G.k_1 G.b_1 tk (dla_cons (dl_var 0) (dla_cons (dl_var 1) dla_nil))) (dl_one (dl_cmpR (oc_eq hu) (dl_comp (own := [(PySem.Str.ofString "one", 3)]) rfl hN (src_seq (dl_var 0)) (show BlkOk [PySem.Str.ofString "value", PySem.Str.ofString "kinds", PySem.Str.ofString "most", PySem.Str.ofString "one"] (defScope s2) _ _ from blkOk_by (by decide +kernel)) (fun _ _ _ _ _ => (TgOk.nm rfl (.inl rfl) (by first | exact .inl rfl | exact .inr rfl))) (.inr ⟨rfl, rfl⟩) (fun _ _ _ _ _ => (pts_one (dlt_not (dlt_val (by rw [ev] <;> rfl) (dl_call (f := n_is_within) (IH n_is_within) hr G.g_0 G.k_0 G.b_0 takes0 (dla_cons (dl_var 3) (dla_cons dl_int (dla_cons (dl_var 2) dla_nil)))))))) (fun _ _ _ _ _ => (dl_var 3))) (dl_lst dlx_nil) (by with_unfolding_all rfl)))))
      dss_nil)
theorem body3 (G : Fx K mg fa fdat cl) (IH : ∀ j, FnOk P w K mg base (L2.CX P w) k (fa j) (fdat j) (psN j) (spF (runF T n) (T.md j) cl j)) (cdv : Value) (A : Around) (outer : List Env) (s : Shared) (H : Hp) (E : XK)
    (hr : Room k (A.deeper (envOfC (PySem.Str.ofString "check_rules") (defScope s3) s.heap.objs.size (fa 3) cdv))) : PSs (cxOf (L2.CX P w) P w K mg base [PySem.Str.ofString "rules", PySem.Str.ofString "kinds", PySem.Str.ofString "left", PySem.Str.ofString "right", PySem.Str.ofString "one"] (PySem.Str.ofString "check_rules") (defScope s3) (fa 3) cdv A outer s H E) (defBody s3) (tSs ⟨⟨⟨runF T n, T.md⟩, T.sub⟩, cl⟩ (fun cls dd _ H => E cls dd H) fd_check_rules.body) := by
  have hu := hu_room hr
  have hu1 := hu_room1 hr
  have hN := sc3.nd
  have tk : Takes (cxOf (L2.CX P w) P w K mg base [PySem.Str.ofString "rules", PySem.Str.ofString "kinds", PySem.Str.ofString "left", PySem.Str.ofString "right", PySem.Str.ofString "one"] (PySem.Str.ofString "check_rules") (defScope s3) (fa 3) cdv A outer s H E) (fun cls dd _ H => E cls dd H) := takes_of rfl rfl rfl rfl
  have hp : PassesOwn (model P w) (A.deeper (envOfC (PySem.Str.ofString "check_rules") (defScope s3) s.heap.objs.size (fa 3) cdv)) (envOfC (PySem.Str.ofString "check_rules") (defScope s3) s.heap.objs.size (fa 3) cdv) (cxOf (L2.CX P w) P w K mg base [PySem.Str.ofString "rules", PySem.Str.ofString "kinds", PySem.Str.ofString "left", PySem.Str.ofString "right", PySem.Str.ofString "one"] (PySem.Str.ofString "check_rules") (defScope s3) (fa 3) cdv A outer s H E).xe := passes_of (X := cxOf (L2.CX P w) P w K mg base [PySem.Str.ofString "rules", PySem.Str.ofString "kinds", PySem.Str.ofString "left", PySem.Str.ofString "right", PySem.Str.ofString "one"] (PySem.Str.ofString "check_rules") (defScope s3) (fa 3) cdv A outer s H E) rfl
  exact (dss_cons (dls_if (PW.pt (dlw_or (dlt_not (dlt_val (by rw [ev] <;> rfl) (dl_isa (t := .list) G.m_isinstance G.m_list boot_ty_list (dl_var 0)))) (dlw_or1 (dlt_not (dlt_chainR (oc_le hu) (oc_le hu) dl_int (dl_biB cb_len G.m_len boot_b_len (dla_cons (dl_var 0) dla_nil)) (dl_globI G.c_MOST_RULES.choose_spec)))))) (dss_cons (dls_raise (c := 0) rfl tk PySem.F.excBase_ValueError G.q_0 G.gx_0 G.kx_0 (raises_own G.sx_0 G.tx_0) rfl)
      dss_nil) dss_nil)
      (dss_cons (dls_if (dlt_val (by rw [ev] <;> rfl) (dl_comp (own := [(PySem.Str.ofString "one", 4)]) rfl hN (src_seq (dl_var 0)) (show BlkOk [PySem.Str.ofString "rules", PySem.Str.ofString "kinds", PySem.Str.ofString "left", PySem.Str.ofString "right", PySem.Str.ofString "one"] (defScope s3) _ _ from blkOk_by (by decide +kernel)) (fun _ _ _ _ _ => (TgOk.nm rfl (.inl rfl) (by first | exact .inl rfl | exact .inr rfl))) (.inr ⟨rfl, rfl⟩) (fun _ _ _ _ _ => (pts_one (dlt_not (dlt_val (by rw [ev] <;> rfl) (dl_call (f := n_is_tuple) (IH n_is_tuple) hr G.g_1 G.k_1 G.b_1 takes0 (dla_cons (dl_var 4) (dla_cons dl_int dla_nil))))))) (fun _ _ _ _ _ => (dl_var 4)))) (dss_cons (dls_raise (c := 0) rfl tk PySem.F.excBase_ValueError G.q_0 G.gx_0 G.kx_0 (raises_own G.sx_0 G.tx_0) rfl)
      dss_nil) dss_nil)
      (dss_cons (dls_if (PW.pt (dlw_or (dlt_not (dlt_val (by rw [ev] <;> rfl) (dl_isa (t := .tuple) G.m_isinstance G.m_tuple boot_ty_tuple (dl_ix (dl_ix (dl_var 0) dl_int) dl_int)))) (dlw_or1 (dlt_not (dlt_chainR (oc_le hu) (oc_le hu) dl_int (dl_biB cb_len G.m_len boot_b_len (dla_cons (dl_ix (dl_ix (dl_var 0) dl_int) dl_int) dla_nil)) (dl_globI G.c_MOST_KINDS.choose_spec)))))) (dss_cons (dls_raise (c := 0) rfl tk PySem.F.excBase_ValueError G.q_0 G.gx_0 G.kx_0 (raises_own G.sx_0 G.tx_0) rfl)
      dss_nil) dss_nil)
      (dss_cons (dls_asgN hN rfl (.inl rfl) (dl_biB cb_len G.m_len boot_b_len (dla_cons (dl_ix (dl_ix (dl_var 0) dl_int) dl_int) dla_nil)))
      (dss_cons (dls_for hp rfl hN rfl (src_seq (dl_var 0)) (TgOk.tp (Nms.cons rfl (.inl rfl) (by first | exact .inl rfl | exact .inr rfl) rfl (Nms.cons rfl (.inl rfl) (by first | exact .inl rfl | exact .inr rfl) rfl Nms.nil)) rfl rfl) (dss_cons (dls_if (PW.pt (dlw_or (dlt_not (dlt_val (by rw [ev] <;> rfl) (dl_call (f := n_is_bag_of) (IH n_is_bag_of) hr G.g_2 G.k_2 G.b_2 tk (dla_cons (dl_var 2) (dla_cons (dl_var 1) (dla_cons (dl_globI G.c_MOST_PART.choose_spec) dla_nil)))))) (dlw_or (dlt_not (dlt_val (by rw [ev] <;> rfl) (dl_call (f := n_is_bag_of) (IH n_is_bag_of) hr G.g_2 G.k_2 G.b_2 tk (dla_cons (dl_var 3) (dla_cons (dl_var 1) (dla_cons (dl_globI G.c_MOST_PART.choose_spec) dla_nil)))))) (dlw_or1 (dlt_cmpR (oc_eq hu) (dl_var 2) (dl_var 3) (by with_unfolding_all rfl)))))) (dss_cons (dls_raise (c := 0) rfl tk PySem.F.excBase_ValueError G.q_0 G.gx_0 G.kx_0 (raises_own G.sx_0 G.tx_0) rfl)
      dss_nil) dss_nil)
      dss_nil))
      dss_nil)))))
theorem body4 (G : Fx K mg fa fdat cl) (IH : ∀ j, FnOk P w K mg base (L2.CX P w) k (fa j) (fdat j) (psN j) (spF (runF T n) (T.md j) cl j)) (cdv : Value) (A : Around) (outer : List Env) (s : Shared) (H : Hp) (E : XK)
    (hr : Room k (A.deeper (envOfC (PySem.Str.ofString "check_bag") (defScope s4) s.heap.objs.size (fa 4) cdv))) : PSs (cxOf (L2.CX P w) P w K mg base [PySem.Str.ofString "rules", PySem.Str.ofString "bag"] (PySem.Str.ofString "check_bag") (defScope s4) (fa 4) cdv A outer s H E) (defBody s4) (tSs ⟨⟨⟨runF T n, T.md⟩, T.sub⟩, cl⟩ (fun cls dd _ H => E cls dd H) fd_check_bag.body) := by
  have hu := hu_room hr
  have hu1 := hu_room1 hr
  have hN := sc4.nd
  have tk : Takes (cxOf (L2.CX P w) P w K mg base [PySem.Str.ofString "rules", PySem.Str.ofString "bag"] (PySem.Str.ofString "check_bag") (defScope s4) (fa 4) cdv A outer s H E) (fun cls dd _ H => E cls dd H) := takes_of rfl rfl rfl rfl
  have hp : PassesOwn (model P w) (A.deeper (envOfC (PySem.Str.ofString "check_bag") (defScope s4) s.heap.objs.size (fa 4) cdv)) (envOfC (PySem.Str.ofString "check_bag") (defScope s4) s.heap.objs.size (fa 4) cdv) (cxOf (L2.CX P w) P w K mg base [PySem.Str.ofString "rules", PySem.Str.ofString "bag"] (PySem.Str.ofString "check_bag") (defScope s4) (fa 4) cdv A outer s H E).xe := passes_of (X := cxOf (L2.CX P w) P w K mg base [PySem.Str.ofString "rules", PySem.Str.ofString "bag"] (PySem.Str.ofString "check_bag") (defScope s4) (fa 4) cdv A outer s H E) rfl
  exact (dss_cons (dls_expr (dl_call (f := n_check_rules) (IH n_check_rules) hr G.g_3 G.k_3 G.b_3 tk (dla_cons (dl_var 0) dla_nil)))
      (dss_cons (dls_if (dlt_not (dlt_val (by rw [ev] <;> rfl) (dl_call (f := n_is_bag_of) (IH n_is_bag_of) hr G.g_2 G.k_2 G.b_2 tk (dla_cons (dl_var 1) (dla_cons (dl_biB cb_len G.m_len boot_b_len (dla_cons (dl_ix (dl_ix (dl_var 0) dl_int) dl_int) dla_nil)) (dla_cons (dl_globI G.c_MOST_BAG.choose_spec) dla_nil)))))) (dss_cons (dls_raise (c := 1) rfl tk PySem.F.excBase_ValueError G.q_1 G.gx_1 G.kx_1 (raises_own G.sx_1 G.tx_1) rfl)
      dss_nil) dss_nil)
      dss_nil))
theorem body5 (G : Fx K mg fa fdat cl) (IH : ∀ j, FnOk P w K mg base (L2.CX P w) k (fa j) (fdat j) (psN j) (spF (runF T n) (T.md j) cl j)) (cdv : Value) (A : Around) (outer : List Env) (s : Shared) (H : Hp) (E : XK)
    (hr : Room k (A.deeper (envOfC (PySem.Str.ofString "is_within_bag") (defScope s5) s.heap.objs.size (fa 5) cdv))) : PSs (cxOf (L2.CX P w) P w K mg base [PySem.Str.ofString "one", PySem.Str.ofString "bag", PySem.Str.ofString "k"] (PySem.Str.ofString "is_within_bag") (defScope s5) (fa 5) cdv A outer s H E) (defBody s5) (tSs ⟨⟨⟨runF T n, T.md⟩, T.sub⟩, cl⟩ (fun cls dd _ H => E cls dd H) fd_is_within_bag.body) := by
  have hu := hu_room hr
  have hu1 := hu_room1 hr
  have hN := sc5.nd
  have tk : Takes (cxOf (L2.CX P w) P w K mg base [PySem.Str.ofString "one", PySem.Str.ofString "bag", PySem.Str.ofString "k"] (PySem.Str.ofString "is_within_bag") (defScope s5) (fa 5) cdv A outer s H E) (fun cls dd _ H => E cls dd H) := takes_of rfl rfl rfl rfl
  have hp : PassesOwn (model P w) (A.deeper (envOfC (PySem.Str.ofString "is_within_bag") (defScope s5) s.heap.objs.size (fa 5) cdv)) (envOfC (PySem.Str.ofString "is_within_bag") (defScope s5) s.heap.objs.size (fa 5) cdv) (cxOf (L2.CX P w) P w K mg base [PySem.Str.ofString "one", PySem.Str.ofString "bag", PySem.Str.ofString "k"] (PySem.Str.ofString "is_within_bag") (defScope s5) (fa 5) cdv A outer s H E).xe := passes_of (X := cxOf (L2.CX P w) P w K mg base [PySem.Str.ofString "one", PySem.Str.ofString "bag", PySem.Str.ofString "k"] (PySem.Str.ofString "is_within_bag") (defScope s5) (fa 5) cdv A outer s H E) rfl
  exact (dss_cons (dls_ret (dl_cmpR (oc_eq hu) (dl_comp (own := [(PySem.Str.ofString "k", 2)]) rfl hN (src_rng1 G.m_range (dla_cons (dl_biB cb_len G.m_len boot_b_len (dla_cons (dl_var 1) dla_nil)) dla_nil)) (show BlkOk [PySem.Str.ofString "one", PySem.Str.ofString "bag", PySem.Str.ofString "k"] (defScope s5) _ _ from blkOk_by (by decide +kernel)) (fun _ _ _ _ _ => (TgOk.nm rfl (.inl rfl) (by first | exact .inl rfl | exact .inr rfl))) (.inr ⟨rfl, rfl⟩) (fun _ _ _ _ _ => (pts_one (dlt_cmpR (oc_gt hu) (dl_ix (dl_var 0) (dl_var 2)) (dl_ix (dl_var 1) (dl_var 2)) (by with_unfolding_all rfl)))) (fun _ _ _ _ _ => (dl_var 2))) (dl_lst dlx_nil) (by with_unfolding_all rfl)))
      dss_nil)
theorem body6 (G : Fx K mg fa fdat cl) (IH : ∀ j, FnOk P w K mg base (L2.CX P w) k (fa j) (fdat j) (psN j) (spF (runF T n) (T.md j) cl j)) (cdv : Value) (A : Around) (outer : List Env) (s : Shared) (H : Hp) (E : XK)
    (hr : Room k (A.deeper (envOfC (PySem.Str.ofString "put_for") (defScope s6) s.heap.objs.size (fa 6) cdv))) : PSs (cxOf (L2.CX P w) P w K mg base [PySem.Str.ofString "bag", PySem.Str.ofString "left", PySem.Str.ofString "right", PySem.Str.ofString "k"] (PySem.Str.ofString "put_for") (defScope s6) (fa 6) cdv A outer s H E) (defBody s6) (tSs ⟨⟨⟨runF T n, T.md⟩, T.sub⟩, cl⟩ (fun cls dd _ H => E cls dd H) fd_put_for.body) := by
  have hu := hu_room hr
  have hu1 := hu_room1 hr
  have hN := sc6.nd
  have tk : Takes (cxOf (L2.CX P w) P w K mg base [PySem.Str.ofString "bag", PySem.Str.ofString "left", PySem.Str.ofString "right", PySem.Str.ofString "k"] (PySem.Str.ofString "put_for") (defScope s6) (fa 6) cdv A outer s H E) (fun cls dd _ H => E cls dd H) := takes_of rfl rfl rfl rfl
  have hp : PassesOwn (model P w) (A.deeper (envOfC (PySem.Str.ofString "put_for") (defScope s6) s.heap.objs.size (fa 6) cdv)) (envOfC (PySem.Str.ofString "put_for") (defScope s6) s.heap.objs.size (fa 6) cdv) (cxOf (L2.CX P w) P w K mg base [PySem.Str.ofString "bag", PySem.Str.ofString "left", PySem.Str.ofString "right", PySem.Str.ofString "k"] (PySem.Str.ofString "put_for") (defScope s6) (fa 6) cdv A outer s H E).xe := passes_of (X := cxOf (L2.CX P w) P w K mg base [PySem.Str.ofString "bag", PySem.Str.ofString "left", PySem.Str.ofString "right", PySem.Str.ofString "k"] (PySem.Str.ofString "put_for") (defScope s6) (fa 6) cdv A outer s H E) rfl
  exact (dss_cons (dls_ret (dl_biT cb_tup G.m_tuple boot_ty_tuple (dla_cons (dl_comp (own := [(PySem.Str.ofString "k", 3)]) rfl hN (src_rng1 G.m_range (dla_cons (dl_biB cb_len G.m_len boot_b_len (dla_cons (dl_var 0) dla_nil)) dla_nil)) (show BlkOk [PySem.Str.ofString "bag", PySem.Str.ofString "left", PySem.Str.ofString "right", PySem.Str.ofString "k"] (defScope s6) _ _ from blkOk_by (by decide +kernel)) (fun _ _ _ _ _ => (TgOk.nm rfl (.inl rfl) (by first | exact .inl rfl | exact .inr rfl))) (.inl ⟨rfl, rfl⟩) (fun _ _ _ _ _ => pts_nil) (fun _ _ _ _ _ => (dl_add (dl_sub (dl_ix (dl_var 0) (dl_var 3)) (dl_ix (dl_var 1) (dl_var 3))) (dl_ix (dl_var 2) (dl_var 3))))) dla_nil)))
      dss_nil)
theorem body7 (G : Fx K mg fa fdat cl) (IH : ∀ j, FnOk P w K mg base (L2.CX P w) k (fa j) (fdat j) (psN j) (spF (runF T n) (T.md j) cl j)) (cdv : Value) (A : Around) (outer : List Env) (s : Shared) (H : Hp) (E : XK)
    (hr : Room k (A.deeper (envOfC (PySem.Str.ofString "all_exchanges") (defScope s7) s.heap.objs.size (fa 7) cdv))) : PSs (cxOf (L2.CX P w) P w K mg base [PySem.Str.ofString "rules", PySem.Str.ofString "bag", PySem.Str.ofString "found", PySem.Str.ofString "place", PySem.Str.ofString "left", PySem.Str.ofString "right"] (PySem.Str.ofString "all_exchanges") (defScope s7) (fa 7) cdv A outer s H E) (defBody s7) (tSs ⟨⟨⟨runF T n, T.md⟩, T.sub⟩, cl⟩ (fun cls dd _ H => E cls dd H) fd_all_exchanges.body) := by
  have hu := hu_room hr
  have hu1 := hu_room1 hr
  have hN := sc7.nd
  have tk : Takes (cxOf (L2.CX P w) P w K mg base [PySem.Str.ofString "rules", PySem.Str.ofString "bag", PySem.Str.ofString "found", PySem.Str.ofString "place", PySem.Str.ofString "left", PySem.Str.ofString "right"] (PySem.Str.ofString "all_exchanges") (defScope s7) (fa 7) cdv A outer s H E) (fun cls dd _ H => E cls dd H) := takes_of rfl rfl rfl rfl
  have hp : PassesOwn (model P w) (A.deeper (envOfC (PySem.Str.ofString "all_exchanges") (defScope s7) s.heap.objs.size (fa 7) cdv)) (envOfC (PySem.Str.ofString "all_exchanges") (defScope s7) s.heap.objs.size (fa 7) cdv) (cxOf (L2.CX P w) P w K mg base [PySem.Str.ofString "rules", PySem.Str.ofString "bag", PySem.Str.ofString "found", PySem.Str.ofString "place", PySem.Str.ofString "left", PySem.Str.ofString "right"] (PySem.Str.ofString "all_exchanges") (defScope s7) (fa 7) cdv A outer s H E).xe := passes_of (X := cxOf (L2.CX P w) P w K mg base [PySem.Str.ofString "rules", PySem.Str.ofString "bag", PySem.Str.ofString "found", PySem.Str.ofString "place", PySem.Str.ofString "left", PySem.Str.ofString "right"] (PySem.Str.ofString "all_exchanges") (defScope s7) (fa 7) cdv A outer s H E) rfl
  exact (dss_cons (dls_asgN hN rfl (.inl rfl) (dl_lst dlx_nil))
      (dss_cons (dls_for hp rfl hN rfl (src_rng1 G.m_range (dla_cons (dl_biB cb_len G.m_len boot_b_len (dla_cons (dl_var 0) dla_nil)) dla_nil)) (TgOk.nm rfl (.inl rfl) (by first | exact .inl rfl | exact .inr rfl)) (dss_cons (dls_asgT rfl hN (Nms.cons rfl (.inl rfl) (by first | exact .inl rfl | exact .inr rfl) rfl (Nms.cons rfl (.inl rfl) (by first | exact .inl rfl | exact .inr rfl) rfl Nms.nil)) (dl_ix (dl_var 0) (dl_var 3)))
      (dss_cons (dls_if (dlt_val (by rw [ev] <;> rfl) (dl_call (f := n_is_within_bag) (IH n_is_within_bag) hr G.g_5 G.k_5 G.b_5 tk (dla_cons (dl_var 4) (dla_cons (dl_var 1) dla_nil)))) (dss_cons (dls_expr (dl_app (dl_var 2) (dl_tup (dlx_cons (dl_var 3) (dlx_cons dl_int (dlx_cons (dl_call (f := n_put_for) (IH n_put_for) hr G.g_6 G.k_6 G.b_6 tk (dla_cons (dl_var 1) (dla_cons (dl_var 4) (dla_cons (dl_var 5) dla_nil)))) dlx_nil))))))
      dss_nil) dss_nil)
      (dss_cons (dls_if (dlt_val (by rw [ev] <;> rfl) (dl_call (f := n_is_within_bag) (IH n_is_within_bag) hr G.g_5 G.k_5 G.b_5 tk (dla_cons (dl_var 5) (dla_cons (dl_var 1) dla_nil)))) (dss_cons (dls_expr (dl_app (dl_var 2) (dl_tup (dlx_cons (dl_var 3) (dlx_cons dl_int (dlx_cons (dl_call (f := n_put_for) (IH n_put_for) hr G.g_6 G.k_6 G.b_6 tk (dla_cons (dl_var 1) (dla_cons (dl_var 5) (dla_cons (dl_var 4) dla_nil)))) dlx_nil))))))
      dss_nil) dss_nil)
      dss_nil))))
      (dss_cons (dls_ret (dl_var 2))
      dss_nil)))
theorem body8 (G : Fx K mg fa fdat cl) (IH : ∀ j, FnOk P w K mg base (L2.CX P w) k (fa j) (fdat j) (psN j) (spF (runF T n) (T.md j) cl j)) (cdv : Value) (A : Around) (outer : List Env) (s : Shared) (H : Hp) (E : XK)
    (hr : Room k (A.deeper (envOfC (PySem.Str.ofString "exchanges") (defScope s8) s.heap.objs.size (fa 8) cdv))) : PSs (cxOf (L2.CX P w) P w K mg base [PySem.Str.ofString "rules", PySem.Str.ofString "bag"] (PySem.Str.ofString "exchanges") (defScope s8) (fa 8) cdv A outer s H E) (defBody s8) (tSs ⟨⟨⟨runF T n, T.md⟩, T.sub⟩, cl⟩ (fun cls dd _ H => E cls dd H) fd_exchanges.body) := by
  have hu := hu_room hr
  have hu1 := hu_room1 hr
  have hN := sc8.nd
  have tk : Takes (cxOf (L2.CX P w) P w K mg base [PySem.Str.ofString "rules", PySem.Str.ofString "bag"] (PySem.Str.ofString "exchanges") (defScope s8) (fa 8) cdv A outer s H E) (fun cls dd _ H => E cls dd H) := takes_of rfl rfl rfl rfl
  have hp : PassesOwn (model P w) (A.deeper (envOfC (PySem.Str.ofString "exchanges") (defScope s8) s.heap.objs.size (fa 8) cdv)) (envOfC (PySem.Str.ofString "exchanges") (defScope s8) s.heap.objs.size (fa 8) cdv) (cxOf (L2.CX P w) P w K mg base [PySem.Str.ofString "rules", PySem.Str.ofString "bag"] (PySem.Str.ofString "exchanges") (defScope s8) (fa 8) cdv A outer s H E).xe := passes_of (X := cxOf (L2.CX P w) P w K mg base [PySem.Str.ofString "rules", PySem.Str.ofString "bag"] (PySem.Str.ofString "exchanges") (defScope s8) (fa 8) cdv A outer s H E) rfl
  exact (dss_cons (dls_expr (dl_call (f := n_check_bag) (IH n_check_bag) hr G.g_4 G.k_4 G.b_4 tk (dla_cons (dl_var 0) (dla_cons (dl_var 1) dla_nil))))
      (dss_cons (dls_ret (dl_call (f := n_all_exchanges) (IH n_all_exchanges) hr G.g_7 G.k_7 G.b_7 tk (dla_cons (dl_var 0) (dla_cons (dl_var 1) dla_nil))))
      dss_nil))
theorem body9 (G : Fx K mg fa fdat cl) (IH : ∀ j, FnOk P w K mg base (L2.CX P w) k (fa j) (fdat j) (psN j) (spF (runF T n) (T.md j) cl j)) (cdv : Value) (A : Around) (outer : List Env) (s : Shared) (H : Hp) (E : XK)
    (hr : Room k (A.deeper (envOfC (PySem.Str.ofString "check_sum") (defScope s9) s.heap.objs.size (fa 9) cdv))) : PSs (cxOf (L2.CX P w) P w K mg base [PySem.Str.ofString "most"] (PySem.Str.ofString "check_sum") (defScope s9) (fa 9) cdv A outer s H E) (defBody s9) (tSs ⟨⟨⟨runF T n, T.md⟩, T.sub⟩, cl⟩ (fun cls dd _ H => E cls dd H) fd_check_sum.body) := by
  have hu := hu_room hr
  have hu1 := hu_room1 hr
  have hN := sc9.nd
  have tk : Takes (cxOf (L2.CX P w) P w K mg base [PySem.Str.ofString "most"] (PySem.Str.ofString "check_sum") (defScope s9) (fa 9) cdv A outer s H E) (fun cls dd _ H => E cls dd H) := takes_of rfl rfl rfl rfl
  have hp : PassesOwn (model P w) (A.deeper (envOfC (PySem.Str.ofString "check_sum") (defScope s9) s.heap.objs.size (fa 9) cdv)) (envOfC (PySem.Str.ofString "check_sum") (defScope s9) s.heap.objs.size (fa 9) cdv) (cxOf (L2.CX P w) P w K mg base [PySem.Str.ofString "most"] (PySem.Str.ofString "check_sum") (defScope s9) (fa 9) cdv A outer s H E).xe := passes_of (X := cxOf (L2.CX P w) P w K mg base [PySem.Str.ofString "most"] (PySem.Str.ofString "check_sum") (defScope s9) (fa 9) cdv A outer s H E) rfl
  exact (dss_cons (dls_if (dlt_not (dlt_val (by rw [ev] <;> rfl) (dl_call (f := n_is_within) (IH n_is_within) hr G.g_0 G.k_0 G.b_0 tk (dla_cons (dl_var 0) (dla_cons dl_int (dla_cons (dl_globI G.c_MOST_SUM.choose_spec) dla_nil)))))) (dss_cons (dls_raise (c := 2) rfl tk PySem.F.excBase_ValueError G.q_2 G.gx_2 G.kx_2 (raises_own G.sx_2 G.tx_2) rfl)
      dss_nil) dss_nil)
      dss_nil)
theorem body10 (G : Fx K mg fa fdat cl) (IH : ∀ j, FnOk P w K mg base (L2.CX P w) k (fa j) (fdat j) (psN j) (spF (runF T n) (T.md j) cl j)) (cdv : Value) (A : Around) (outer : List Env) (s : Shared) (H : Hp) (E : XK)
    (hr : Room k (A.deeper (envOfC (PySem.Str.ofString "is_chain") (defScope s10) s.heap.objs.size (fa 10) cdv))) : PSs (cxOf (L2.CX P w) P w K mg base [PySem.Str.ofString "rules", PySem.Str.ofString "value", PySem.Str.ofString "k", PySem.Str.ofString "one"] (PySem.Str.ofString "is_chain") (defScope s10) (fa 10) cdv A outer s H E) (defBody s10) (tSs ⟨⟨⟨runF T n, T.md⟩, T.sub⟩, cl⟩ (fun cls dd _ H => E cls dd H) fd_is_chain.body) := by
  have hu := hu_room hr
  have hu1 := hu_room1 hr
  have hN := sc10.nd
  have tk : Takes (cxOf (L2.CX P w) P w K mg base [PySem.Str.ofString "rules", PySem.Str.ofString "value", PySem.Str.ofString "k", PySem.Str.ofString "one"] (PySem.Str.ofString "is_chain") (defScope s10) (fa 10) cdv A outer s H E) (fun cls dd _ H => E cls dd H) := takes_of rfl rfl rfl rfl
  have hp : PassesOwn (model P w) (A.deeper (envOfC (PySem.Str.ofString "is_chain") (defScope s10) s.heap.objs.size (fa 10) cdv)) (envOfC (PySem.Str.ofString "is_chain") (defScope s10) s.heap.objs.size (fa 10) cdv) (cxOf (L2.CX P w) P w K mg base [PySem.Str.ofString "rules", PySem.Str.ofString "value", PySem.Str.ofString "k", PySem.Str.ofString "one"] (PySem.Str.ofString "is_chain") (defScope s10) (fa 10) cdv A outer s H E).xe := passes_of (X := cxOf (L2.CX P w) P w K mg base [PySem.Str.ofString "rules", PySem.Str.ofString "value", PySem.Str.ofString "k", PySem.Str.ofString "one"] (PySem.Str.ofString "is_chain") (defScope s10) (fa 10) cdv A outer s H E) rfl
  exact (dss_cons (dls_expr (dl_call (f := n_check_rules) (IH n_check_rules) hr G.g_3 G.k_3 G.b_3 tk (dla_cons (dl_var 0) dla_nil)))
      (dss_cons (dls_if (PW.pt (dlw_or (dlt_not (dlt_val (by rw [ev] <;> rfl) (dl_isa (t := .list) G.m_isinstance G.m_list boot_ty_list (dl_var 1)))) (dlw_or1 (dlt_not (dlt_val (by rw [ev] <;> rfl) (dl_var 1)))))) (dss_cons (dls_ret dl_bool)
      dss_nil) dss_nil)
      (dss_cons (dls_if (dlt_val (by rw [ev] <;> rfl) (dl_comp (own := [(PySem.Str.ofString "one", 3)]) rfl hN (src_seq (dl_var 1)) (show BlkOk [PySem.Str.ofString "rules", PySem.Str.ofString "value", PySem.Str.ofString "k", PySem.Str.ofString "one"] (defScope s10) _ _ from blkOk_by (by decide +kernel)) (fun _ _ _ _ _ => (TgOk.nm rfl (.inl rfl) (by first | exact .inl rfl | exact .inr rfl))) (.inr ⟨rfl, rfl⟩) (fun _ _ _ _ _ => (pts_one (dlt_not (dlt_val (by rw [ev] <;> rfl) (dl_call (f := n_is_bag_of) (IH n_is_bag_of) hr G.g_2 G.k_2 G.b_2 takes0 (dla_cons (dl_var 3) (dla_cons (dl_biB cb_len G.m_len boot_b_len (dla_cons (dl_ix (dl_ix (dl_var 0) dl_int) dl_int) dla_nil)) (dla_cons (dl_globI G.c_MOST_BAG.choose_spec) dla_nil)))))))) (fun _ _ _ _ _ => (dl_var 3)))) (dss_cons (dls_ret dl_bool)
      dss_nil) dss_nil)
      (dss_cons (dls_for hp rfl hN rfl (src_rng2 G.m_range (dla_cons dl_int (dla_cons (dl_biB cb_len G.m_len boot_b_len (dla_cons (dl_var 1) dla_nil)) dla_nil))) (TgOk.nm rfl (.inr rfl) (by first | exact .inl rfl | exact .inr rfl)) (dss_cons (dls_if (dlt_cmpR (oc_eq hu) (dl_comp (own := [(PySem.Str.ofString "one", 3)]) rfl hN (src_seq (dl_call (f := n_all_exchanges) (IH n_all_exchanges) hr G.g_7 G.k_7 G.b_7 tk (dla_cons (dl_var 0) (dla_cons (dl_ix (dl_var 1) (dl_sub (dl_var 2) dl_int)) dla_nil)))) (show BlkOk [PySem.Str.ofString "rules", PySem.Str.ofString "value", PySem.Str.ofString "k", PySem.Str.ofString "one"] (defScope s10) _ _ from blkOk_by (by decide +kernel)) (fun _ _ _ _ _ => (TgOk.nm rfl (.inl rfl) (by first | exact .inl rfl | exact .inr rfl))) (.inr ⟨rfl, rfl⟩) (fun _ _ _ _ _ => (pts_one (dlt_cmpR (oc_eq hu) (dl_ix (dl_var 3) dl_int) (dl_ix (dl_var 1) (dl_var 2)) (by with_unfolding_all rfl)))) (fun _ _ _ _ _ => (dl_var 3))) (dl_lst dlx_nil) (by with_unfolding_all rfl)) (dss_cons (dls_ret dl_bool)
      dss_nil) dss_nil)
      dss_nil))
      (dss_cons (dls_ret dl_bool)
      dss_nil)))))
theorem body11 (G : Fx K mg fa fdat cl) (IH : ∀ j, FnOk P w K mg base (L2.CX P w) k (fa j) (fdat j) (psN j) (spF (runF T n) (T.md j) cl j)) (cdv : Value) (A : Around) (outer : List Env) (s : Shared) (H : Hp) (E : XK)
    (hr : Room k (A.deeper (envOfC (PySem.Str.ofString "shortest_chain") (defScope s11) s.heap.objs.size (fa 11) cdv))) : PSs (cxOf (L2.CX P w) P w K mg base [PySem.Str.ofString "rules", PySem.Str.ofString "bag", PySem.Str.ofString "other", PySem.Str.ofString "most", PySem.Str.ofString "far", PySem.Str.ofString "line", PySem.Str.ofString "at", PySem.Str.ofString "place", PySem.Str.ofString "way", PySem.Str.ofString "there", PySem.Str.ofString "found", PySem.Str.ofString "near", PySem.Str.ofString "one"] (PySem.Str.ofString "shortest_chain") (defScope s11) (fa 11) cdv A outer s H E) (defBody s11) (tSs ⟨⟨⟨runF T n, T.md⟩, T.sub⟩, cl⟩ (fun cls dd _ H => E cls dd H) fd_shortest_chain.body) := by
  have hu := hu_room hr
  have hu1 := hu_room1 hr
  have hN := sc11.nd
  have tk : Takes (cxOf (L2.CX P w) P w K mg base [PySem.Str.ofString "rules", PySem.Str.ofString "bag", PySem.Str.ofString "other", PySem.Str.ofString "most", PySem.Str.ofString "far", PySem.Str.ofString "line", PySem.Str.ofString "at", PySem.Str.ofString "place", PySem.Str.ofString "way", PySem.Str.ofString "there", PySem.Str.ofString "found", PySem.Str.ofString "near", PySem.Str.ofString "one"] (PySem.Str.ofString "shortest_chain") (defScope s11) (fa 11) cdv A outer s H E) (fun cls dd _ H => E cls dd H) := takes_of rfl rfl rfl rfl
  have hp : PassesOwn (model P w) (A.deeper (envOfC (PySem.Str.ofString "shortest_chain") (defScope s11) s.heap.objs.size (fa 11) cdv)) (envOfC (PySem.Str.ofString "shortest_chain") (defScope s11) s.heap.objs.size (fa 11) cdv) (cxOf (L2.CX P w) P w K mg base [PySem.Str.ofString "rules", PySem.Str.ofString "bag", PySem.Str.ofString "other", PySem.Str.ofString "most", PySem.Str.ofString "far", PySem.Str.ofString "line", PySem.Str.ofString "at", PySem.Str.ofString "place", PySem.Str.ofString "way", PySem.Str.ofString "there", PySem.Str.ofString "found", PySem.Str.ofString "near", PySem.Str.ofString "one"] (PySem.Str.ofString "shortest_chain") (defScope s11) (fa 11) cdv A outer s H E).xe := passes_of (X := cxOf (L2.CX P w) P w K mg base [PySem.Str.ofString "rules", PySem.Str.ofString "bag", PySem.Str.ofString "other", PySem.Str.ofString "most", PySem.Str.ofString "far", PySem.Str.ofString "line", PySem.Str.ofString "at", PySem.Str.ofString "place", PySem.Str.ofString "way", PySem.Str.ofString "there", PySem.Str.ofString "found", PySem.Str.ofString "near", PySem.Str.ofString "one"] (PySem.Str.ofString "shortest_chain") (defScope s11) (fa 11) cdv A outer s H E) rfl
  exact (dss_cons (dls_expr (dl_call (f := n_check_bag) (IH n_check_bag) hr G.g_4 G.k_4 G.b_4 tk (dla_cons (dl_var 0) (dla_cons (dl_var 1) dla_nil))))
      (dss_cons (dls_expr (dl_call (f := n_check_bag) (IH n_check_bag) hr G.g_4 G.k_4 G.b_4 tk (dla_cons (dl_var 0) (dla_cons (dl_var 2) dla_nil))))
      (dss_cons (dls_expr (dl_call (f := n_check_sum) (IH n_check_sum) hr G.g_9 G.k_9 G.b_9 tk (dla_cons (dl_var 3) dla_nil)))
      (dss_cons (dls_if (PW.pt (dlw_or (dlt_cmpR (oc_gt hu) (dl_biB (cb_sum rfl) G.m_sum boot_b_sum (dla_cons (dl_var 1) dla_nil)) (dl_var 3) (by with_unfolding_all rfl)) (dlw_or1 (dlt_cmpR (oc_gt hu) (dl_biB (cb_sum rfl) G.m_sum boot_b_sum (dla_cons (dl_var 2) dla_nil)) (dl_var 3) (by with_unfolding_all rfl))))) (dss_cons (dls_ret dl_none)
      dss_nil) dss_nil)
      (dss_cons (dls_asgN hN rfl (.inr rfl) (dl_dsp1T hu1 (dl_var 2) dl_int))
      (dss_cons (dls_asgN hN rfl (.inl rfl) (dl_lst (dlx_cons (dl_var 2) dlx_nil)))
      (dss_cons (dls_asgN hN rfl (.inl rfl) dl_int)
      (dss_cons (dls_while hp (dlt_cmpR (oc_lt hu) (dl_var 6) (dl_biB cb_len G.m_len boot_b_len (dla_cons (dl_var 5) dla_nil)) (by with_unfolding_all rfl)) (dss_cons (dls_for hp rfl hN rfl (src_seq (dl_call (f := n_all_exchanges) (IH n_all_exchanges) hr G.g_7 G.k_7 G.b_7 tk (dla_cons (dl_var 0) (dla_cons (dl_ix (dl_var 5) (dl_var 6)) dla_nil)))) (TgOk.tp (Nms.cons rfl (.inl rfl) (by first | exact .inl rfl | exact .inr rfl) rfl (Nms.cons rfl (.inl rfl) (by first | exact .inl rfl | exact .inr rfl) rfl (Nms.cons rfl (.inl rfl) (by first | exact .inl rfl | exact .inr rfl) rfl Nms.nil))) rfl rfl) (dss_cons (dls_if (PW.pt (dlw_and (dlt_dnotin hu1 (dl_var 9) (dl_var 4)) (dlw_and1 (dlt_cmpR (oc_le hu) (dl_biB (cb_sum rfl) G.m_sum boot_b_sum (dla_cons (dl_var 9) dla_nil)) (dl_var 3) (by with_unfolding_all rfl))))) (dss_cons (dls_dset hu1 (dl_var 4) (dl_var 9) (dl_add (dl_dsub hu1 (dl_var 4) (dl_ix (dl_var 5) (dl_var 6))) dl_int))
      (dss_cons (dls_expr (dl_app (dl_var 5) (dl_var 9)))
      dss_nil)) dss_nil)
      dss_nil))
      (dss_cons (dls_asgN hN rfl (.inl rfl) (dl_add (dl_var 6) dl_int))
      dss_nil)))
      (dss_cons (dls_if (dlt_dnotin hu1 (dl_var 1) (dl_var 4)) (dss_cons (dls_ret dl_none)
      dss_nil) dss_nil)
      (dss_cons (dls_asgN hN rfl (.inr rfl) (dl_lst (dlx_cons (dl_var 1) dlx_nil)))
      (dss_cons (dls_while hp (dlt_cmpR (oc_ne hu) (dl_ix (dl_var 10) (dl_neg dl_int)) (dl_var 2) (by with_unfolding_all rfl)) (dss_cons (dls_asgC (own := [(PySem.Str.ofString "one", 12)]) rfl hN rfl rfl (sw_true rfl rfl rfl (by decide +kernel)) (src_seq (dl_call (f := n_all_exchanges) (IH n_all_exchanges) hr G.g_7 G.k_7 G.b_7 tk (dla_cons (dl_var 0) (dla_cons (dl_ix (dl_var 10) (dl_neg dl_int)) dla_nil)))) (show BlkOk [PySem.Str.ofString "rules", PySem.Str.ofString "bag", PySem.Str.ofString "other", PySem.Str.ofString "most", PySem.Str.ofString "far", PySem.Str.ofString "line", PySem.Str.ofString "at", PySem.Str.ofString "place", PySem.Str.ofString "way", PySem.Str.ofString "there", PySem.Str.ofString "found", PySem.Str.ofString "near", PySem.Str.ofString "one"] (defScope s11) _ _ from blkOk_by (by decide +kernel)) (fun _ _ _ _ _ => (TgOk.nm rfl (.inl rfl) (by first | exact .inl rfl | exact .inr rfl))) (.inl ⟨rfl, rfl⟩) (fun _ _ _ _ _ => pts_nil) (fun _ _ _ _ _ => (dl_ix (dl_var 12) dl_int)))
      (dss_cons (dls_expr (dl_app (dl_var 10) (dl_biB (cb_min rfl hu) G.m_min boot_b_min (dla_cons (dl_comp (own := [(PySem.Str.ofString "there", 9)]) rfl hN (src_seq (dl_var 11)) (show BlkOk [PySem.Str.ofString "rules", PySem.Str.ofString "bag", PySem.Str.ofString "other", PySem.Str.ofString "most", PySem.Str.ofString "far", PySem.Str.ofString "line", PySem.Str.ofString "at", PySem.Str.ofString "place", PySem.Str.ofString "way", PySem.Str.ofString "there", PySem.Str.ofString "found", PySem.Str.ofString "near", PySem.Str.ofString "one"] (defScope s11) _ _ from blkOk_by (by decide +kernel)) (fun _ _ _ _ _ => (TgOk.nm rfl (.inl rfl) (by first | exact .inl rfl | exact .inr rfl))) (.inr ⟨rfl, rfl⟩) (fun _ _ _ _ _ => (pts_one (dlt_cmpR (oc_eq hu) (dl_dget1 hu1 (dl_var 4) (dl_var 9)) (dl_sub (dl_dsub hu1 (dl_var 4) (dl_ix (dl_var 10) (dl_neg dl_int))) dl_int) (by with_unfolding_all rfl)))) (fun _ _ _ _ _ => (dl_var 9))) dla_nil))))
      dss_nil)))
      (dss_cons (dls_ret (dl_var 10))
      dss_nil))))))))))))
theorem body12 (G : Fx K mg fa fdat cl) (IH : ∀ j, FnOk P w K mg base (L2.CX P w) k (fa j) (fdat j) (psN j) (spF (runF T n) (T.md j) cl j)) (cdv : Value) (A : Around) (outer : List Env) (s : Shared) (H : Hp) (E : XK)
    (hr : Room k (A.deeper (envOfC (PySem.Str.ofString "_law_mixed") (defScope s12) s.heap.objs.size (fa 12) cdv))) : PSs (cxOf (L2.CX P w) P w K mg base [PySem.Str.ofString "number", PySem.Str.ofString "k", PySem.Str.ofString "step"] (PySem.Str.ofString "_law_mixed") (defScope s12) (fa 12) cdv A outer s H E) (defBody s12) (tSs ⟨⟨⟨runF T n, T.md⟩, T.sub⟩, cl⟩ (fun cls dd _ H => E cls dd H) fd__law_mixed.body) := by
  have hu := hu_room hr
  have hu1 := hu_room1 hr
  have hN := sc12.nd
  have tk : Takes (cxOf (L2.CX P w) P w K mg base [PySem.Str.ofString "number", PySem.Str.ofString "k", PySem.Str.ofString "step"] (PySem.Str.ofString "_law_mixed") (defScope s12) (fa 12) cdv A outer s H E) (fun cls dd _ H => E cls dd H) := takes_of rfl rfl rfl rfl
  have hp : PassesOwn (model P w) (A.deeper (envOfC (PySem.Str.ofString "_law_mixed") (defScope s12) s.heap.objs.size (fa 12) cdv)) (envOfC (PySem.Str.ofString "_law_mixed") (defScope s12) s.heap.objs.size (fa 12) cdv) (cxOf (L2.CX P w) P w K mg base [PySem.Str.ofString "number", PySem.Str.ofString "k", PySem.Str.ofString "step"] (PySem.Str.ofString "_law_mixed") (defScope s12) (fa 12) cdv A outer s H E).xe := passes_of (X := cxOf (L2.CX P w) P w K mg base [PySem.Str.ofString "number", PySem.Str.ofString "k", PySem.Str.ofString "step"] (PySem.Str.ofString "_law_mixed") (defScope s12) (fa 12) cdv A outer s H E) rfl
  exact (dss_cons (dls_asgN hN rfl (.inl rfl) (dl_mod (dl_add (dl_add (dl_mul (dl_var 0) dl_int) (dl_mul (dl_var 1) dl_int)) dl_int) dl_int))
      (dss_cons (dls_ret (dl_mod (dl_add (dl_mul (dl_var 2) (dl_add (dl_fdiv (dl_var 2) dl_int) dl_int)) (dl_var 1)) dl_int))
      dss_nil))
theorem body13 (G : Fx K mg fa fdat cl) (IH : ∀ j, FnOk P w K mg base (L2.CX P w) k (fa j) (fdat j) (psN j) (spF (runF T n) (T.md j) cl j)) (cdv : Value) (A : Around) (outer : List Env) (s : Shared) (H : Hp) (E : XK)
    (hr : Room k (A.deeper (envOfC (PySem.Str.ofString "_law_numbers") (defScope s13) s.heap.objs.size (fa 13) cdv))) : PSs (cxOf (L2.CX P w) P w K mg base [PySem.Str.ofString "script", PySem.Str.ofString "numbers", PySem.Str.ofString "cell", PySem.Str.ofString "rest", PySem.Str.ofString "k"] (PySem.Str.ofString "_law_numbers") (defScope s13) (fa 13) cdv A outer s H E) (defBody s13) (tSs ⟨⟨⟨runF T n, T.md⟩, T.sub⟩, cl⟩ (fun cls dd _ H => E cls dd H) fd__law_numbers.body) := by
  have hu := hu_room hr
  have hu1 := hu_room1 hr
  have hN := sc13.nd
  have tk : Takes (cxOf (L2.CX P w) P w K mg base [PySem.Str.ofString "script", PySem.Str.ofString "numbers", PySem.Str.ofString "cell", PySem.Str.ofString "rest", PySem.Str.ofString "k"] (PySem.Str.ofString "_law_numbers") (defScope s13) (fa 13) cdv A outer s H E) (fun cls dd _ H => E cls dd H) := takes_of rfl rfl rfl rfl
  have hp : PassesOwn (model P w) (A.deeper (envOfC (PySem.Str.ofString "_law_numbers") (defScope s13) s.heap.objs.size (fa 13) cdv)) (envOfC (PySem.Str.ofString "_law_numbers") (defScope s13) s.heap.objs.size (fa 13) cdv) (cxOf (L2.CX P w) P w K mg base [PySem.Str.ofString "script", PySem.Str.ofString "numbers", PySem.Str.ofString "cell", PySem.Str.ofString "rest", PySem.Str.ofString "k"] (PySem.Str.ofString "_law_numbers") (defScope s13) (fa 13) cdv A outer s H E).xe := passes_of (X := cxOf (L2.CX P w) P w K mg base [PySem.Str.ofString "script", PySem.Str.ofString "numbers", PySem.Str.ofString "cell", PySem.Str.ofString "rest", PySem.Str.ofString "k"] (PySem.Str.ofString "_law_numbers") (defScope s13) (fa 13) cdv A outer s H E) rfl
  exact (dss_cons (dls_asgN hN rfl (.inl rfl) (dl_lst dlx_nil))
      (dss_cons (dls_for hp rfl hN rfl (src_seq (dl_var 0)) (TgOk.nm rfl (.inl rfl) (by first | exact .inl rfl | exact .inr rfl)) (dss_cons (dls_if (dlt_cmpR (oc_ge hu) (dl_var 2) (dl_pow dl_int dl_int) (by with_unfolding_all rfl)) (dss_cons (dls_asgN hN rfl (.inl rfl) (dl_var 2))
      (dss_cons (dls_for hp rfl hN rfl (src_rng1 G.m_range (dla_cons dl_int dla_nil)) (TgOk.nm rfl (.inl rfl) (by first | exact .inl rfl | exact .inr rfl)) (dss_cons (dls_if (dlt_cmpR (oc_gt hu) (dl_var 3) dl_int (by with_unfolding_all rfl)) (dss_cons (dls_expr (dl_app (dl_var 1) (dl_mod (dl_var 3) dl_int)))
      (dss_cons (dls_asgN hN rfl (.inl rfl) (dl_fdiv (dl_var 3) dl_int))
      dss_nil)) dss_nil)
      dss_nil))
      dss_nil)) (dss_cons (dls_expr (dl_app (dl_var 1) (dl_mod (dl_var 2) dl_int)))
      (dss_cons (dls_for hp rfl hN rfl (src_rng1 G.m_range (dla_cons dl_int dla_nil)) (TgOk.nm rfl (.inl rfl) (by first | exact .inl rfl | exact .inr rfl)) (dss_cons (dls_expr (dl_app (dl_var 1) (dl_mod (dl_call (f := n__law_mixed) (IH n__law_mixed) hr G.g_12 G.k_12 G.b_12 tk (dla_cons (dl_call (f := n__law_mixed) (IH n__law_mixed) hr G.g_12 G.k_12 G.b_12 tk (dla_cons (dl_mod (dl_var 2) dl_int) (dla_cons (dl_var 4) dla_nil))) (dla_cons (dl_add (dl_var 4) dl_int) dla_nil))) dl_int)))
      dss_nil))
      dss_nil)))
      dss_nil))
      (dss_cons (dls_ret (dl_var 1))
      dss_nil)))
theorem body14 (G : Fx K mg fa fdat cl) (IH : ∀ j, FnOk P w K mg base (L2.CX P w) k (fa j) (fdat j) (psN j) (spF (runF T n) (T.md j) cl j)) (cdv : Value) (A : Around) (outer : List Env) (s : Shared) (H : Hp) (E : XK)
    (hr : Room k (A.deeper (envOfC (PySem.Str.ofString "_law_draw") (defScope s14) s.heap.objs.size (fa 14) cdv))) : PSs (cxOf (L2.CX P w) P w K mg base [PySem.Str.ofString "draws", PySem.Str.ofString "at", PySem.Str.ofString "first"] (PySem.Str.ofString "_law_draw") (defScope s14) (fa 14) cdv A outer s H E) (defBody s14) (tSs ⟨⟨⟨runF T n, T.md⟩, T.sub⟩, cl⟩ (fun cls dd _ H => E cls dd H) fd__law_draw.body) := by
  have hu := hu_room hr
  have hu1 := hu_room1 hr
  have hN := sc14.nd
  have tk : Takes (cxOf (L2.CX P w) P w K mg base [PySem.Str.ofString "draws", PySem.Str.ofString "at", PySem.Str.ofString "first"] (PySem.Str.ofString "_law_draw") (defScope s14) (fa 14) cdv A outer s H E) (fun cls dd _ H => E cls dd H) := takes_of rfl rfl rfl rfl
  have hp : PassesOwn (model P w) (A.deeper (envOfC (PySem.Str.ofString "_law_draw") (defScope s14) s.heap.objs.size (fa 14) cdv)) (envOfC (PySem.Str.ofString "_law_draw") (defScope s14) s.heap.objs.size (fa 14) cdv) (cxOf (L2.CX P w) P w K mg base [PySem.Str.ofString "draws", PySem.Str.ofString "at", PySem.Str.ofString "first"] (PySem.Str.ofString "_law_draw") (defScope s14) (fa 14) cdv A outer s H E).xe := passes_of (X := cxOf (L2.CX P w) P w K mg base [PySem.Str.ofString "draws", PySem.Str.ofString "at", PySem.Str.ofString "first"] (PySem.Str.ofString "_law_draw") (defScope s14) (fa 14) cdv A outer s H E) rfl
  exact (dss_cons (dls_asgN hN rfl (.inl rfl) (dl_ix (dl_var 0) dl_int))
      (dss_cons (dls_setix (dl_var 0) dl_int (dl_add (dl_var 1) dl_int))
      (dss_cons (dls_if (dlt_cmpR (oc_lt hu) (dl_var 1) (dl_biB cb_len G.m_len boot_b_len (dla_cons (dl_ix (dl_var 0) dl_int) dla_nil)) (by with_unfolding_all rfl)) (dss_cons (dls_ret (dl_ix (dl_ix (dl_var 0) dl_int) (dl_var 1)))
      dss_nil) dss_nil)
      (dss_cons (dls_asgN hN rfl (.inl rfl) (dl_add dl_int (dl_var 1)))
      (dss_cons (dls_if (dlt_cmpR (oc_gt hu) (dl_biB cb_len G.m_len boot_b_len (dla_cons (dl_ix (dl_var 0) dl_int) dla_nil)) dl_int (by with_unfolding_all rfl)) (dss_cons (dls_asgN hN rfl (.inl rfl) (dl_add (dl_var 2) (dl_mul dl_int (dl_ix (dl_ix (dl_var 0) dl_int) dl_int))))
      dss_nil) dss_nil)
      (dss_cons (dls_ret (dl_mod (dl_call (f := n__law_mixed) (IH n__law_mixed) hr G.g_12 G.k_12 G.b_12 tk (dla_cons (dl_call (f := n__law_mixed) (IH n__law_mixed) hr G.g_12 G.k_12 G.b_12 tk (dla_cons (dl_var 2) (dla_cons (dl_var 1) dla_nil))) (dla_cons dl_int dla_nil))) dl_int))
      dss_nil))))))
theorem body15 (G : Fx K mg fa fdat cl) (IH : ∀ j, FnOk P w K mg base (L2.CX P w) k (fa j) (fdat j) (psN j) (spF (runF T n) (T.md j) cl j)) (cdv : Value) (A : Around) (outer : List Env) (s : Shared) (H : Hp) (E : XK)
    (hr : Room k (A.deeper (envOfC (PySem.Str.ofString "_law_equal") (defScope s15) s.heap.objs.size (fa 15) cdv))) : PSs (cxOf (L2.CX P w) P w K mg base [PySem.Str.ofString "actual", PySem.Str.ofString "due"] (PySem.Str.ofString "_law_equal") (defScope s15) (fa 15) cdv A outer s H E) (defBody s15) (tSs ⟨⟨⟨runF T n, T.md⟩, T.sub⟩, cl⟩ (fun cls dd _ H => E cls dd H) fd__law_equal.body) := by
  have hu := hu_room hr
  have hu1 := hu_room1 hr
  have hN := sc15.nd
  have tk : Takes (cxOf (L2.CX P w) P w K mg base [PySem.Str.ofString "actual", PySem.Str.ofString "due"] (PySem.Str.ofString "_law_equal") (defScope s15) (fa 15) cdv A outer s H E) (fun cls dd _ H => E cls dd H) := takes_of rfl rfl rfl rfl
  have hp : PassesOwn (model P w) (A.deeper (envOfC (PySem.Str.ofString "_law_equal") (defScope s15) s.heap.objs.size (fa 15) cdv)) (envOfC (PySem.Str.ofString "_law_equal") (defScope s15) s.heap.objs.size (fa 15) cdv) (cxOf (L2.CX P w) P w K mg base [PySem.Str.ofString "actual", PySem.Str.ofString "due"] (PySem.Str.ofString "_law_equal") (defScope s15) (fa 15) cdv A outer s H E).xe := passes_of (X := cxOf (L2.CX P w) P w K mg base [PySem.Str.ofString "actual", PySem.Str.ofString "due"] (PySem.Str.ofString "_law_equal") (defScope s15) (fa 15) cdv A outer s H E) rfl
  exact (dss_cons (dls_if (dlt_val (by rw [ev] <;> rfl) (dl_isa (t := .list) G.m_isinstance G.m_list boot_ty_list (dl_var 1))) (dss_cons (dls_ret (dl_and (dl_isa (t := .list) G.m_isinstance G.m_list boot_ty_list (dl_var 0)) (dl_and (dl_cmpR (oc_eq hu) (dl_biB cb_len G.m_len boot_b_len (dla_cons (dl_var 0) dla_nil)) (dl_biB cb_len G.m_len boot_b_len (dla_cons (dl_var 1) dla_nil)) (by with_unfolding_all rfl)) (dl_one (dl_call (f := n__law_all_equal) (IH n__law_all_equal) hr G.g_16 G.k_16 G.b_16 tk (dla_cons (dl_var 0) (dla_cons (dl_var 1) dla_nil)))))))
      dss_nil) dss_nil)
      (dss_cons (dls_if (dlt_val (by rw [ev] <;> rfl) (dl_isa (t := .tuple) G.m_isinstance G.m_tuple boot_ty_tuple (dl_var 1))) (dss_cons (dls_ret (dl_and (dl_isa (t := .tuple) G.m_isinstance G.m_tuple boot_ty_tuple (dl_var 0)) (dl_and (dl_cmpR (oc_eq hu) (dl_biB cb_len G.m_len boot_b_len (dla_cons (dl_var 0) dla_nil)) (dl_biB cb_len G.m_len boot_b_len (dla_cons (dl_var 1) dla_nil)) (by with_unfolding_all rfl)) (dl_one (dl_call (f := n__law_all_equal) (IH n__law_all_equal) hr G.g_16 G.k_16 G.b_16 tk (dla_cons (dl_var 0) (dla_cons (dl_var 1) dla_nil)))))))
      dss_nil) dss_nil)
      (dss_cons (dls_if (dlt_val (by rw [ev] <;> rfl) (dl_isa (t := .bool) G.m_isinstance G.m_bool boot_ty_bool (dl_var 1))) (dss_cons (dls_ret (dl_and (dl_isa (t := .bool) G.m_isinstance G.m_bool boot_ty_bool (dl_var 0)) (dl_one (dl_cmpR (oc_eq hu) (dl_var 0) (dl_var 1) (by with_unfolding_all rfl)))))
      dss_nil) dss_nil)
      (dss_cons (dls_if (dlt_val (by rw [ev] <;> rfl) (dl_isa (t := .int) G.m_isinstance G.m_int boot_ty_int (dl_var 1))) (dss_cons (dls_ret (dl_and (dl_isa (t := .int) G.m_isinstance G.m_int boot_ty_int (dl_var 0)) (dl_and (dl_not (dl_isa (t := .bool) G.m_isinstance G.m_bool boot_ty_bool (dl_var 0))) (dl_one (dl_cmpR (oc_eq hu) (dl_var 0) (dl_var 1) (by with_unfolding_all rfl))))))
      dss_nil) dss_nil)
      (dss_cons (dls_if (dlt_val (by rw [ev] <;> rfl) (dl_isa (t := .str) G.m_isinstance G.m_str boot_ty_str (dl_var 1))) (dss_cons (dls_ret (dl_and (dl_isa (t := .str) G.m_isinstance G.m_str boot_ty_str (dl_var 0)) (dl_one (dl_cmpR (oc_eq hu) (dl_var 0) (dl_var 1) (by with_unfolding_all rfl)))))
      dss_nil) dss_nil)
      (dss_cons (dls_ret (dl_cmpR oc_isN (dl_var 0) dl_none (by with_unfolding_all rfl)))
      dss_nil))))))
theorem body16 (G : Fx K mg fa fdat cl) (IH : ∀ j, FnOk P w K mg base (L2.CX P w) k (fa j) (fdat j) (psN j) (spF (runF T n) (T.md j) cl j)) (cdv : Value) (A : Around) (outer : List Env) (s : Shared) (H : Hp) (E : XK)
    (hr : Room k (A.deeper (envOfC (PySem.Str.ofString "_law_all_equal") (defScope s16) s.heap.objs.size (fa 16) cdv))) : PSs (cxOf (L2.CX P w) P w K mg base [PySem.Str.ofString "actual", PySem.Str.ofString "due", PySem.Str.ofString "k"] (PySem.Str.ofString "_law_all_equal") (defScope s16) (fa 16) cdv A outer s H E) (defBody s16) (tSs ⟨⟨⟨runF T n, T.md⟩, T.sub⟩, cl⟩ (fun cls dd _ H => E cls dd H) fd__law_all_equal.body) := by
  have hu := hu_room hr
  have hu1 := hu_room1 hr
  have hN := sc16.nd
  have tk : Takes (cxOf (L2.CX P w) P w K mg base [PySem.Str.ofString "actual", PySem.Str.ofString "due", PySem.Str.ofString "k"] (PySem.Str.ofString "_law_all_equal") (defScope s16) (fa 16) cdv A outer s H E) (fun cls dd _ H => E cls dd H) := takes_of rfl rfl rfl rfl
  have hp : PassesOwn (model P w) (A.deeper (envOfC (PySem.Str.ofString "_law_all_equal") (defScope s16) s.heap.objs.size (fa 16) cdv)) (envOfC (PySem.Str.ofString "_law_all_equal") (defScope s16) s.heap.objs.size (fa 16) cdv) (cxOf (L2.CX P w) P w K mg base [PySem.Str.ofString "actual", PySem.Str.ofString "due", PySem.Str.ofString "k"] (PySem.Str.ofString "_law_all_equal") (defScope s16) (fa 16) cdv A outer s H E).xe := passes_of (X := cxOf (L2.CX P w) P w K mg base [PySem.Str.ofString "actual", PySem.Str.ofString "due", PySem.Str.ofString "k"] (PySem.Str.ofString "_law_all_equal") (defScope s16) (fa 16) cdv A outer s H E) rfl
  exact (dss_cons (dls_for hp rfl hN rfl (src_rng1 G.m_range (dla_cons (dl_biB cb_len G.m_len boot_b_len (dla_cons (dl_var 1) dla_nil)) dla_nil)) (TgOk.nm rfl (.inl rfl) (by first | exact .inl rfl | exact .inr rfl)) (dss_cons (dls_if (dlt_not (dlt_val (by rw [ev] <;> rfl) (dl_call (f := n__law_equal) (IH n__law_equal) hr G.g_15 G.k_15 G.b_15 tk (dla_cons (dl_ix (dl_var 0) (dl_var 2)) (dla_cons (dl_ix (dl_var 1) (dl_var 2)) dla_nil))))) (dss_cons (dls_ret dl_bool)
      dss_nil) dss_nil)
      dss_nil))
      (dss_cons (dls_ret dl_bool)
      dss_nil))
theorem body17 (G : Fx K mg fa fdat cl) (IH : ∀ j, FnOk P w K mg base (L2.CX P w) k (fa j) (fdat j) (psN j) (spF (runF T n) (T.md j) cl j)) (cdv : Value) (A : Around) (outer : List Env) (s : Shared) (H : Hp) (E : XK)
    (hr : Room k (A.deeper (envOfC (PySem.Str.ofString "_law_rules") (defScope s17) s.heap.objs.size (fa 17) cdv))) : PSs (cxOf (L2.CX P w) P w K mg base [PySem.Str.ofString "draws", PySem.Str.ofString "kinds", PySem.Str.ofString "most", PySem.Str.ofString "many", PySem.Str.ofString "found", PySem.Str.ofString "left", PySem.Str.ofString "right", PySem.Str.ofString "k"] (PySem.Str.ofString "_law_rules") (defScope s17) (fa 17) cdv A outer s H E) (defBody s17) (tSs ⟨⟨⟨runF T n, T.md⟩, T.sub⟩, cl⟩ (fun cls dd _ H => E cls dd H) fd__law_rules.body) := by
  have hu := hu_room hr
  have hu1 := hu_room1 hr
  have hN := sc17.nd
  have tk : Takes (cxOf (L2.CX P w) P w K mg base [PySem.Str.ofString "draws", PySem.Str.ofString "kinds", PySem.Str.ofString "most", PySem.Str.ofString "many", PySem.Str.ofString "found", PySem.Str.ofString "left", PySem.Str.ofString "right", PySem.Str.ofString "k"] (PySem.Str.ofString "_law_rules") (defScope s17) (fa 17) cdv A outer s H E) (fun cls dd _ H => E cls dd H) := takes_of rfl rfl rfl rfl
  have hp : PassesOwn (model P w) (A.deeper (envOfC (PySem.Str.ofString "_law_rules") (defScope s17) s.heap.objs.size (fa 17) cdv)) (envOfC (PySem.Str.ofString "_law_rules") (defScope s17) s.heap.objs.size (fa 17) cdv) (cxOf (L2.CX P w) P w K mg base [PySem.Str.ofString "draws", PySem.Str.ofString "kinds", PySem.Str.ofString "most", PySem.Str.ofString "many", PySem.Str.ofString "found", PySem.Str.ofString "left", PySem.Str.ofString "right", PySem.Str.ofString "k"] (PySem.Str.ofString "_law_rules") (defScope s17) (fa 17) cdv A outer s H E).xe := passes_of (X := cxOf (L2.CX P w) P w K mg base [PySem.Str.ofString "draws", PySem.Str.ofString "kinds", PySem.Str.ofString "most", PySem.Str.ofString "many", PySem.Str.ofString "found", PySem.Str.ofString "left", PySem.Str.ofString "right", PySem.Str.ofString "k"] (PySem.Str.ofString "_law_rules") (defScope s17) (fa 17) cdv A outer s H E) rfl
  exact (dss_cons (dls_asgN hN rfl (.inl rfl) (dl_lst dlx_nil))
      (dss_cons (dls_while hp (dlt_cmpR (oc_lt hu) (dl_biB cb_len G.m_len boot_b_len (dla_cons (dl_var 4) dla_nil)) (dl_var 3) (by with_unfolding_all rfl)) (dss_cons (dls_asgN hN rfl (.inl rfl) (dl_biT cb_tup G.m_tuple boot_ty_tuple (dla_cons (dl_comp (own := [(PySem.Str.ofString "k", 7)]) rfl hN (src_rng1 G.m_range (dla_cons (dl_var 1) dla_nil)) (show BlkOk [PySem.Str.ofString "draws", PySem.Str.ofString "kinds", PySem.Str.ofString "most", PySem.Str.ofString "many", PySem.Str.ofString "found", PySem.Str.ofString "left", PySem.Str.ofString "right", PySem.Str.ofString "k"] (defScope s17) _ _ from blkOk_by (by decide +kernel)) (fun _ _ _ _ _ => (TgOk.nm rfl (.inl rfl) (by first | exact .inl rfl | exact .inr rfl))) (.inl ⟨rfl, rfl⟩) (fun _ _ _ _ _ => pts_nil) (fun _ _ _ _ _ => (dl_mod (dl_call (f := n__law_draw) (IH n__law_draw) hr G.g_14 G.k_14 G.b_14 takes0 (dla_cons (dl_var 0) dla_nil)) (dl_add (dl_var 2) dl_int)))) dla_nil)))
      (dss_cons (dls_asgN hN rfl (.inl rfl) (dl_biT cb_tup G.m_tuple boot_ty_tuple (dla_cons (dl_comp (own := [(PySem.Str.ofString "k", 7)]) rfl hN (src_rng1 G.m_range (dla_cons (dl_var 1) dla_nil)) (show BlkOk [PySem.Str.ofString "draws", PySem.Str.ofString "kinds", PySem.Str.ofString "most", PySem.Str.ofString "many", PySem.Str.ofString "found", PySem.Str.ofString "left", PySem.Str.ofString "right", PySem.Str.ofString "k"] (defScope s17) _ _ from blkOk_by (by decide +kernel)) (fun _ _ _ _ _ => (TgOk.nm rfl (.inl rfl) (by first | exact .inl rfl | exact .inr rfl))) (.inl ⟨rfl, rfl⟩) (fun _ _ _ _ _ => pts_nil) (fun _ _ _ _ _ => (dl_mod (dl_call (f := n__law_draw) (IH n__law_draw) hr G.g_14 G.k_14 G.b_14 takes0 (dla_cons (dl_var 0) dla_nil)) (dl_add (dl_var 2) dl_int)))) dla_nil)))
      (dss_cons (dls_if (dlt_cmpR (oc_eq hu) (dl_mod (dl_call (f := n__law_draw) (IH n__law_draw) hr G.g_14 G.k_14 G.b_14 tk (dla_cons (dl_var 0) dla_nil)) dl_int) dl_int (by with_unfolding_all rfl)) (dss_cons (dls_asgN hN rfl (.inl rfl) (dl_add (dl_slice (dl_var 6) SlB.no (SlB.some (dl_sub (dl_var 1) dl_int) rfl)) (dl_tup (dlx_cons (dl_biB (cb_min2 rfl) G.m_min boot_b_min (dla_cons (dl_var 2) (dla_cons (dl_biB (cb_max2 rfl) G.m_max boot_b_max (dla_cons dl_int (dla_cons (dl_sub (dl_biB (cb_sum rfl) G.m_sum boot_b_sum (dla_cons (dl_var 5) dla_nil)) (dl_biB (cb_sum rfl) G.m_sum boot_b_sum (dla_cons (dl_slice (dl_var 6) SlB.no (SlB.some (dl_sub (dl_var 1) dl_int) rfl)) dla_nil))) dla_nil))) dla_nil))) dlx_nil))))
      dss_nil) dss_nil)
      (dss_cons (dls_if (dlt_cmpR (oc_eq hu) (dl_var 5) (dl_var 6) (by with_unfolding_all rfl)) (dss_cons (dls_asgN hN rfl (.inl rfl) (dl_add (dl_slice (dl_var 5) SlB.no (SlB.some (dl_sub (dl_var 1) dl_int) rfl)) (dl_tup (dlx_cons (dl_mod (dl_add (dl_ix (dl_var 5) (dl_sub (dl_var 1) dl_int)) dl_int) (dl_add (dl_var 2) dl_int)) dlx_nil))))
      dss_nil) dss_nil)
      (dss_cons (dls_expr (dl_app (dl_var 4) (dl_tup (dlx_cons (dl_var 5) (dlx_cons (dl_var 6) dlx_nil)))))
      dss_nil))))))
      (dss_cons (dls_ret (dl_var 4))
      dss_nil)))
theorem body18 (G : Fx K mg fa fdat cl) (IH : ∀ j, FnOk P w K mg base (L2.CX P w) k (fa j) (fdat j) (psN j) (spF (runF T n) (T.md j) cl j)) (cdv : Value) (A : Around) (outer : List Env) (s : Shared) (H : Hp) (E : XK)
    (hr : Room k (A.deeper (envOfC (PySem.Str.ofString "_law_has") (defScope s18) s.heap.objs.size (fa 18) cdv))) : PSs (cxOf (L2.CX P w) P w K mg base [PySem.Str.ofString "bag", PySem.Str.ofString "part", PySem.Str.ofString "k"] (PySem.Str.ofString "_law_has") (defScope s18) (fa 18) cdv A outer s H E) (defBody s18) (tSs ⟨⟨⟨runF T n, T.md⟩, T.sub⟩, cl⟩ (fun cls dd _ H => E cls dd H) fd__law_has.body) := by
  have hu := hu_room hr
  have hu1 := hu_room1 hr
  have hN := sc18.nd
  have tk : Takes (cxOf (L2.CX P w) P w K mg base [PySem.Str.ofString "bag", PySem.Str.ofString "part", PySem.Str.ofString "k"] (PySem.Str.ofString "_law_has") (defScope s18) (fa 18) cdv A outer s H E) (fun cls dd _ H => E cls dd H) := takes_of rfl rfl rfl rfl
  have hp : PassesOwn (model P w) (A.deeper (envOfC (PySem.Str.ofString "_law_has") (defScope s18) s.heap.objs.size (fa 18) cdv)) (envOfC (PySem.Str.ofString "_law_has") (defScope s18) s.heap.objs.size (fa 18) cdv) (cxOf (L2.CX P w) P w K mg base [PySem.Str.ofString "bag", PySem.Str.ofString "part", PySem.Str.ofString "k"] (PySem.Str.ofString "_law_has") (defScope s18) (fa 18) cdv A outer s H E).xe := passes_of (X := cxOf (L2.CX P w) P w K mg base [PySem.Str.ofString "bag", PySem.Str.ofString "part", PySem.Str.ofString "k"] (PySem.Str.ofString "_law_has") (defScope s18) (fa 18) cdv A outer s H E) rfl
  exact (dss_cons (dls_ret (dl_cmpR (oc_eq hu) (dl_biB cb_len G.m_len boot_b_len (dla_cons (dl_comp (own := [(PySem.Str.ofString "k", 2)]) rfl hN (src_rng1 G.m_range (dla_cons (dl_biB cb_len G.m_len boot_b_len (dla_cons (dl_var 0) dla_nil)) dla_nil)) (show BlkOk [PySem.Str.ofString "bag", PySem.Str.ofString "part", PySem.Str.ofString "k"] (defScope s18) _ _ from blkOk_by (by decide +kernel)) (fun _ _ _ _ _ => (TgOk.nm rfl (.inl rfl) (by first | exact .inl rfl | exact .inr rfl))) (.inr ⟨rfl, rfl⟩) (fun _ _ _ _ _ => (pts_one (dlt_cmpR (oc_gt hu) (dl_ix (dl_var 1) (dl_var 2)) (dl_ix (dl_var 0) (dl_var 2)) (by with_unfolding_all rfl)))) (fun _ _ _ _ _ => (dl_var 2))) dla_nil)) dl_int (by with_unfolding_all rfl)))
      dss_nil)
theorem body19 (G : Fx K mg fa fdat cl) (IH : ∀ j, FnOk P w K mg base (L2.CX P w) k (fa j) (fdat j) (psN j) (spF (runF T n) (T.md j) cl j)) (cdv : Value) (A : Around) (outer : List Env) (s : Shared) (H : Hp) (E : XK)
    (hr : Room k (A.deeper (envOfC (PySem.Str.ofString "_law_put") (defScope s19) s.heap.objs.size (fa 19) cdv))) : PSs (cxOf (L2.CX P w) P w K mg base [PySem.Str.ofString "bag", PySem.Str.ofString "left", PySem.Str.ofString "right", PySem.Str.ofString "k"] (PySem.Str.ofString "_law_put") (defScope s19) (fa 19) cdv A outer s H E) (defBody s19) (tSs ⟨⟨⟨runF T n, T.md⟩, T.sub⟩, cl⟩ (fun cls dd _ H => E cls dd H) fd__law_put.body) := by
  have hu := hu_room hr
  have hu1 := hu_room1 hr
  have hN := sc19.nd
  have tk : Takes (cxOf (L2.CX P w) P w K mg base [PySem.Str.ofString "bag", PySem.Str.ofString "left", PySem.Str.ofString "right", PySem.Str.ofString "k"] (PySem.Str.ofString "_law_put") (defScope s19) (fa 19) cdv A outer s H E) (fun cls dd _ H => E cls dd H) := takes_of rfl rfl rfl rfl
  have hp : PassesOwn (model P w) (A.deeper (envOfC (PySem.Str.ofString "_law_put") (defScope s19) s.heap.objs.size (fa 19) cdv)) (envOfC (PySem.Str.ofString "_law_put") (defScope s19) s.heap.objs.size (fa 19) cdv) (cxOf (L2.CX P w) P w K mg base [PySem.Str.ofString "bag", PySem.Str.ofString "left", PySem.Str.ofString "right", PySem.Str.ofString "k"] (PySem.Str.ofString "_law_put") (defScope s19) (fa 19) cdv A outer s H E).xe := passes_of (X := cxOf (L2.CX P w) P w K mg base [PySem.Str.ofString "bag", PySem.Str.ofString "left", PySem.Str.ofString "right", PySem.Str.ofString "k"] (PySem.Str.ofString "_law_put") (defScope s19) (fa 19) cdv A outer s H E) rfl
  exact (dss_cons (dls_ret (dl_biT cb_tup G.m_tuple boot_ty_tuple (dla_cons (dl_comp (own := [(PySem.Str.ofString "k", 3)]) rfl hN (src_rng1 G.m_range (dla_cons (dl_biB cb_len G.m_len boot_b_len (dla_cons (dl_var 0) dla_nil)) dla_nil)) (show BlkOk [PySem.Str.ofString "bag", PySem.Str.ofString "left", PySem.Str.ofString "right", PySem.Str.ofString "k"] (defScope s19) _ _ from blkOk_by (by decide +kernel)) (fun _ _ _ _ _ => (TgOk.nm rfl (.inl rfl) (by first | exact .inl rfl | exact .inr rfl))) (.inl ⟨rfl, rfl⟩) (fun _ _ _ _ _ => pts_nil) (fun _ _ _ _ _ => (dl_add (dl_sub (dl_ix (dl_var 0) (dl_var 3)) (dl_ix (dl_var 1) (dl_var 3))) (dl_ix (dl_var 2) (dl_var 3))))) dla_nil)))
      dss_nil)
theorem body20 (G : Fx K mg fa fdat cl) (IH : ∀ j, FnOk P w K mg base (L2.CX P w) k (fa j) (fdat j) (psN j) (spF (runF T n) (T.md j) cl j)) (cdv : Value) (A : Around) (outer : List Env) (s : Shared) (H : Hp) (E : XK)
    (hr : Room k (A.deeper (envOfC (PySem.Str.ofString "_law_exchanges") (defScope s20) s.heap.objs.size (fa 20) cdv))) : PSs (cxOf (L2.CX P w) P w K mg base [PySem.Str.ofString "rules", PySem.Str.ofString "bag", PySem.Str.ofString "found", PySem.Str.ofString "k", PySem.Str.ofString "way"] (PySem.Str.ofString "_law_exchanges") (defScope s20) (fa 20) cdv A outer s H E) (defBody s20) (tSs ⟨⟨⟨runF T n, T.md⟩, T.sub⟩, cl⟩ (fun cls dd _ H => E cls dd H) fd__law_exchanges.body) := by
  have hu := hu_room hr
  have hu1 := hu_room1 hr
  have hN := sc20.nd
  have tk : Takes (cxOf (L2.CX P w) P w K mg base [PySem.Str.ofString "rules", PySem.Str.ofString "bag", PySem.Str.ofString "found", PySem.Str.ofString "k", PySem.Str.ofString "way"] (PySem.Str.ofString "_law_exchanges") (defScope s20) (fa 20) cdv A outer s H E) (fun cls dd _ H => E cls dd H) := takes_of rfl rfl rfl rfl
  have hp : PassesOwn (model P w) (A.deeper (envOfC (PySem.Str.ofString "_law_exchanges") (defScope s20) s.heap.objs.size (fa 20) cdv)) (envOfC (PySem.Str.ofString "_law_exchanges") (defScope s20) s.heap.objs.size (fa 20) cdv) (cxOf (L2.CX P w) P w K mg base [PySem.Str.ofString "rules", PySem.Str.ofString "bag", PySem.Str.ofString "found", PySem.Str.ofString "k", PySem.Str.ofString "way"] (PySem.Str.ofString "_law_exchanges") (defScope s20) (fa 20) cdv A outer s H E).xe := passes_of (X := cxOf (L2.CX P w) P w K mg base [PySem.Str.ofString "rules", PySem.Str.ofString "bag", PySem.Str.ofString "found", PySem.Str.ofString "k", PySem.Str.ofString "way"] (PySem.Str.ofString "_law_exchanges") (defScope s20) (fa 20) cdv A outer s H E) rfl
  exact (dss_cons (dls_asgN hN rfl (.inl rfl) (dl_lst dlx_nil))
      (dss_cons (dls_for hp rfl hN rfl (src_rng1 G.m_range (dla_cons (dl_biB cb_len G.m_len boot_b_len (dla_cons (dl_var 0) dla_nil)) dla_nil)) (TgOk.nm rfl (.inl rfl) (by first | exact .inl rfl | exact .inr rfl)) (dss_cons (dls_for hp rfl hN rfl (src_rng1 G.m_range (dla_cons dl_int dla_nil)) (TgOk.nm rfl (.inl rfl) (by first | exact .inl rfl | exact .inr rfl)) (dss_cons (dls_if (dlt_val (by rw [ev] <;> rfl) (dl_call (f := n__law_has) (IH n__law_has) hr G.g_18 G.k_18 G.b_18 tk (dla_cons (dl_var 1) (dla_cons (dl_ix (dl_ix (dl_var 0) (dl_var 3)) (dl_var 4)) dla_nil)))) (dss_cons (dls_expr (dl_app (dl_var 2) (dl_tup (dlx_cons (dl_var 3) (dlx_cons (dl_var 4) (dlx_cons (dl_call (f := n__law_put) (IH n__law_put) hr G.g_19 G.k_19 G.b_19 tk (dla_cons (dl_var 1) (dla_cons (dl_ix (dl_ix (dl_var 0) (dl_var 3)) (dl_var 4)) (dla_cons (dl_ix (dl_ix (dl_var 0) (dl_var 3)) (dl_sub dl_int (dl_var 4))) dla_nil)))) dlx_nil))))))
      dss_nil) dss_nil)
      dss_nil))
      dss_nil))
      (dss_cons (dls_ret (dl_var 2))
      dss_nil)))
theorem body21 (G : Fx K mg fa fdat cl) (IH : ∀ j, FnOk P w K mg base (L2.CX P w) k (fa j) (fdat j) (psN j) (spF (runF T n) (T.md j) cl j)) (cdv : Value) (A : Around) (outer : List Env) (s : Shared) (H : Hp) (E : XK)
    (hr : Room k (A.deeper (envOfC (PySem.Str.ofString "_law_is_chain") (defScope s21) s.heap.objs.size (fa 21) cdv))) : PSs (cxOf (L2.CX P w) P w K mg base [PySem.Str.ofString "rules", PySem.Str.ofString "bags", PySem.Str.ofString "k", PySem.Str.ofString "one", PySem.Str.ofString "bag"] (PySem.Str.ofString "_law_is_chain") (defScope s21) (fa 21) cdv A outer s H E) (defBody s21) (tSs ⟨⟨⟨runF T n, T.md⟩, T.sub⟩, cl⟩ (fun cls dd _ H => E cls dd H) fd__law_is_chain.body) := by
  have hu := hu_room hr
  have hu1 := hu_room1 hr
  have hN := sc21.nd
  have tk : Takes (cxOf (L2.CX P w) P w K mg base [PySem.Str.ofString "rules", PySem.Str.ofString "bags", PySem.Str.ofString "k", PySem.Str.ofString "one", PySem.Str.ofString "bag"] (PySem.Str.ofString "_law_is_chain") (defScope s21) (fa 21) cdv A outer s H E) (fun cls dd _ H => E cls dd H) := takes_of rfl rfl rfl rfl
  have hp : PassesOwn (model P w) (A.deeper (envOfC (PySem.Str.ofString "_law_is_chain") (defScope s21) s.heap.objs.size (fa 21) cdv)) (envOfC (PySem.Str.ofString "_law_is_chain") (defScope s21) s.heap.objs.size (fa 21) cdv) (cxOf (L2.CX P w) P w K mg base [PySem.Str.ofString "rules", PySem.Str.ofString "bags", PySem.Str.ofString "k", PySem.Str.ofString "one", PySem.Str.ofString "bag"] (PySem.Str.ofString "_law_is_chain") (defScope s21) (fa 21) cdv A outer s H E).xe := passes_of (X := cxOf (L2.CX P w) P w K mg base [PySem.Str.ofString "rules", PySem.Str.ofString "bags", PySem.Str.ofString "k", PySem.Str.ofString "one", PySem.Str.ofString "bag"] (PySem.Str.ofString "_law_is_chain") (defScope s21) (fa 21) cdv A outer s H E) rfl
  exact (dss_cons (dls_for hp rfl hN rfl (src_rng2 G.m_range (dla_cons dl_int (dla_cons (dl_biB cb_len G.m_len boot_b_len (dla_cons (dl_var 1) dla_nil)) dla_nil))) (TgOk.nm rfl (.inl rfl) (by first | exact .inl rfl | exact .inr rfl)) (dss_cons (dls_if (dlt_cmpR (oc_notin hu) (dl_ix (dl_var 1) (dl_var 2)) (dl_comp (own := [(PySem.Str.ofString "one", 3)]) rfl hN (src_seq (dl_call (f := n__law_exchanges) (IH n__law_exchanges) hr G.g_20 G.k_20 G.b_20 tk (dla_cons (dl_var 0) (dla_cons (dl_ix (dl_var 1) (dl_sub (dl_var 2) dl_int)) dla_nil)))) (show BlkOk [PySem.Str.ofString "rules", PySem.Str.ofString "bags", PySem.Str.ofString "k", PySem.Str.ofString "one", PySem.Str.ofString "bag"] (defScope s21) _ _ from blkOk_by (by decide +kernel)) (fun _ _ _ _ _ => (TgOk.nm rfl (.inl rfl) (by first | exact .inl rfl | exact .inr rfl))) (.inl ⟨rfl, rfl⟩) (fun _ _ _ _ _ => pts_nil) (fun _ _ _ _ _ => (dl_ix (dl_var 3) dl_int))) (by with_unfolding_all rfl)) (dss_cons (dls_ret dl_bool)
      dss_nil) dss_nil)
      dss_nil))
      (dss_cons (dls_ret (dl_cmpR (oc_le hu) (dl_biB (cb_max rfl hu) G.m_max boot_b_max (dla_cons (dl_comp (own := [(PySem.Str.ofString "bag", 4)]) rfl hN (src_seq (dl_var 1)) (show BlkOk [PySem.Str.ofString "rules", PySem.Str.ofString "bags", PySem.Str.ofString "k", PySem.Str.ofString "one", PySem.Str.ofString "bag"] (defScope s21) _ _ from blkOk_by (by decide +kernel)) (fun _ _ _ _ _ => (TgOk.nm rfl (.inl rfl) (by first | exact .inl rfl | exact .inr rfl))) (.inl ⟨rfl, rfl⟩) (fun _ _ _ _ _ => pts_nil) (fun _ _ _ _ _ => (dl_biB (cb_max rfl hu) G.m_max boot_b_max (dla_cons (dl_var 4) dla_nil)))) dla_nil)) dl_int (by with_unfolding_all rfl)))
      dss_nil))
theorem body22 (G : Fx K mg fa fdat cl) (IH : ∀ j, FnOk P w K mg base (L2.CX P w) k (fa j) (fdat j) (psN j) (spF (runF T n) (T.md j) cl j)) (cdv : Value) (A : Around) (outer : List Env) (s : Shared) (H : Hp) (E : XK)
    (hr : Room k (A.deeper (envOfC (PySem.Str.ofString "_law_shortest") (defScope s22) s.heap.objs.size (fa 22) cdv))) : PSs (cxOf (L2.CX P w) P w K mg base [PySem.Str.ofString "rules", PySem.Str.ofString "bag", PySem.Str.ofString "other", PySem.Str.ofString "most", PySem.Str.ofString "first", PySem.Str.ofString "level", PySem.Str.ofString "new", PySem.Str.ofString "here", PySem.Str.ofString "there", PySem.Str.ofString "k", PySem.Str.ofString "way", PySem.Str.ofString "chain"] (PySem.Str.ofString "_law_shortest") (defScope s22) (fa 22) cdv A outer s H E) (defBody s22) (tSs ⟨⟨⟨runF T n, T.md⟩, T.sub⟩, cl⟩ (fun cls dd _ H => E cls dd H) fd__law_shortest.body) := by
  have hu := hu_room hr
  have hu1 := hu_room1 hr
  have hN := sc22.nd
  have tk : Takes (cxOf (L2.CX P w) P w K mg base [PySem.Str.ofString "rules", PySem.Str.ofString "bag", PySem.Str.ofString "other", PySem.Str.ofString "most", PySem.Str.ofString "first", PySem.Str.ofString "level", PySem.Str.ofString "new", PySem.Str.ofString "here", PySem.Str.ofString "there", PySem.Str.ofString "k", PySem.Str.ofString "way", PySem.Str.ofString "chain"] (PySem.Str.ofString "_law_shortest") (defScope s22) (fa 22) cdv A outer s H E) (fun cls dd _ H => E cls dd H) := takes_of rfl rfl rfl rfl
  have hp : PassesOwn (model P w) (A.deeper (envOfC (PySem.Str.ofString "_law_shortest") (defScope s22) s.heap.objs.size (fa 22) cdv)) (envOfC (PySem.Str.ofString "_law_shortest") (defScope s22) s.heap.objs.size (fa 22) cdv) (cxOf (L2.CX P w) P w K mg base [PySem.Str.ofString "rules", PySem.Str.ofString "bag", PySem.Str.ofString "other", PySem.Str.ofString "most", PySem.Str.ofString "first", PySem.Str.ofString "level", PySem.Str.ofString "new", PySem.Str.ofString "here", PySem.Str.ofString "there", PySem.Str.ofString "k", PySem.Str.ofString "way", PySem.Str.ofString "chain"] (PySem.Str.ofString "_law_shortest") (defScope s22) (fa 22) cdv A outer s H E).xe := passes_of (X := cxOf (L2.CX P w) P w K mg base [PySem.Str.ofString "rules", PySem.Str.ofString "bag", PySem.Str.ofString "other", PySem.Str.ofString "most", PySem.Str.ofString "first", PySem.Str.ofString "level", PySem.Str.ofString "new", PySem.Str.ofString "here", PySem.Str.ofString "there", PySem.Str.ofString "k", PySem.Str.ofString "way", PySem.Str.ofString "chain"] (PySem.Str.ofString "_law_shortest") (defScope s22) (fa 22) cdv A outer s H E) rfl
  exact (dss_cons (dls_if (PW.pt (dlw_or (dlt_cmpR (oc_gt hu) (dl_biB (cb_sum rfl) G.m_sum boot_b_sum (dla_cons (dl_var 1) dla_nil)) (dl_var 3) (by with_unfolding_all rfl)) (dlw_or1 (dlt_cmpR (oc_gt hu) (dl_biB (cb_sum rfl) G.m_sum boot_b_sum (dla_cons (dl_var 2) dla_nil)) (dl_var 3) (by with_unfolding_all rfl))))) (dss_cons (dls_ret dl_none)
      dss_nil) dss_nil)
      (dss_cons (dls_asgN hN rfl (.inl rfl) (dl_dsp1T hu1 (dl_var 1) (dl_lst (dlx_cons (dl_var 1) dlx_nil))))
      (dss_cons (dls_asgN hN rfl (.inl rfl) (dl_lst (dlx_cons (dl_var 1) dlx_nil)))
      (dss_cons (dls_while hp (PW.pt (dlw_and (dlt_dnotin hu1 (dl_var 2) (dl_var 4)) (dlw_and1 (dlt_cmpR (oc_gt hu) (dl_biB cb_len G.m_len boot_b_len (dla_cons (dl_var 5) dla_nil)) dl_int (by with_unfolding_all rfl))))) (dss_cons (dls_asgN hN rfl (.inl rfl) dl_dnewT)
      (dss_cons (dls_for hp rfl hN rfl (src_seq (dl_var 5)) (TgOk.nm rfl (.inl rfl) (by first | exact .inl rfl | exact .inr rfl)) (dss_cons (dls_for hp rfl hN rfl (src_seq (dl_call (f := n__law_exchanges) (IH n__law_exchanges) hr G.g_20 G.k_20 G.b_20 tk (dla_cons (dl_var 0) (dla_cons (dl_var 7) dla_nil)))) (TgOk.tp (Nms.cons rfl (.inl rfl) (by first | exact .inl rfl | exact .inr rfl) rfl (Nms.cons rfl (.inl rfl) (by first | exact .inl rfl | exact .inr rfl) rfl (Nms.cons rfl (.inl rfl) (by first | exact .inl rfl | exact .inr rfl) rfl Nms.nil))) rfl rfl) (dss_cons (dls_if (PW.pt (dlw_and (dlt_cmpR (oc_le hu) (dl_biB (cb_sum rfl) G.m_sum boot_b_sum (dla_cons (dl_var 8) dla_nil)) (dl_var 3) (by with_unfolding_all rfl)) (dlw_and1 (dlt_dnotin hu1 (dl_var 8) (dl_var 4))))) (dss_cons (dls_asgN hN rfl (.inl rfl) (dl_add (dl_dsub hu1 (dl_var 4) (dl_var 7)) (dl_lst (dlx_cons (dl_var 8) dlx_nil))))
      (dss_cons (dls_if (PW.pt (dlw_or (dlt_dnotin hu1 (dl_var 8) (dl_var 6)) (dlw_or1 (dlt_cmpR (oc_lt hu) (dl_var 11) (dl_dsub hu1 (dl_var 6) (dl_var 8)) (by with_unfolding_all rfl))))) (dss_cons (dls_dset hu1 (dl_var 6) (dl_var 8) (dl_var 11))
      dss_nil) dss_nil)
      dss_nil)) dss_nil)
      dss_nil))
      dss_nil))
      (dss_cons (dls_forK hp rfl hN (dl_var 6) (TgOk.nm rfl (.inl rfl) (by first | exact .inl rfl | exact .inr rfl)) (dss_cons (dls_dset hu1 (dl_var 4) (dl_var 8) (dl_dsub hu1 (dl_var 6) (dl_var 8)))
      dss_nil))
      (dss_cons (dls_asgN hN rfl (.inl rfl) (dl_skeys rfl hu G.m_sorted (dl_var 6)))
      dss_nil)))))
      (dss_cons (dls_ret (dl_dget2 hu1 (dl_var 4) (dl_var 2) dl_none))
      dss_nil)))))
theorem body23 (G : Fx K mg fa fdat cl) (IH : ∀ j, FnOk P w K mg base (L2.CX P w) k (fa j) (fdat j) (psN j) (spF (runF T n) (T.md j) cl j)) (cdv : Value) (A : Around) (outer : List Env) (s : Shared) (H : Hp) (E : XK)
    (hr : Room k (A.deeper (envOfC (PySem.Str.ofString "_law_error") (defScope s23) s.heap.objs.size (fa 23) cdv))) : PSs (cxOf (L2.CX P w) P w K mg base [PySem.Str.ofString "name", PySem.Str.ofString "rules", PySem.Str.ofString "one", PySem.Str.ofString "two", PySem.Str.ofString "three"] (PySem.Str.ofString "_law_error") (defScope s23) (fa 23) cdv A outer s H E) (defBody s23) (tSs ⟨⟨⟨runF T n, T.md⟩, T.sub⟩, cl⟩ (fun cls dd _ H => E cls dd H) fd__law_error.body) := by
  have hu := hu_room hr
  have hu1 := hu_room1 hr
  have hN := sc23.nd
  have tk : Takes (cxOf (L2.CX P w) P w K mg base [PySem.Str.ofString "name", PySem.Str.ofString "rules", PySem.Str.ofString "one", PySem.Str.ofString "two", PySem.Str.ofString "three"] (PySem.Str.ofString "_law_error") (defScope s23) (fa 23) cdv A outer s H E) (fun cls dd _ H => E cls dd H) := takes_of rfl rfl rfl rfl
  have hp : PassesOwn (model P w) (A.deeper (envOfC (PySem.Str.ofString "_law_error") (defScope s23) s.heap.objs.size (fa 23) cdv)) (envOfC (PySem.Str.ofString "_law_error") (defScope s23) s.heap.objs.size (fa 23) cdv) (cxOf (L2.CX P w) P w K mg base [PySem.Str.ofString "name", PySem.Str.ofString "rules", PySem.Str.ofString "one", PySem.Str.ofString "two", PySem.Str.ofString "three"] (PySem.Str.ofString "_law_error") (defScope s23) (fa 23) cdv A outer s H E).xe := passes_of (X := cxOf (L2.CX P w) P w K mg base [PySem.Str.ofString "name", PySem.Str.ofString "rules", PySem.Str.ofString "one", PySem.Str.ofString "two", PySem.Str.ofString "three"] (PySem.Str.ofString "_law_error") (defScope s23) (fa 23) cdv A outer s H E) rfl
  exact (dss_cons (dls_try rfl rfl tk G.sub rfl (fun W pn xe tk hp => (dss_cons (dls_if (dlt_cmpR (oc_eq hu) (dl_var 0) dl_str (by with_unfolding_all rfl)) (dss_cons (dls_expr (dl_call (f := n_exchanges) (IH n_exchanges) hr G.g_8 G.k_8 G.b_8 tk (dla_cons (dl_var 1) (dla_cons (dl_var 2) dla_nil))))
      dss_nil) (dss_cons (dls_if (dlt_cmpR (oc_eq hu) (dl_var 0) dl_str (by with_unfolding_all rfl)) (dss_cons (dls_expr (dl_call (f := n_is_chain) (IH n_is_chain) hr G.g_10 G.k_10 G.b_10 tk (dla_cons (dl_var 1) (dla_cons (dl_lst (dlx_cons (dl_var 2) dlx_nil)) dla_nil))))
      dss_nil) (dss_cons (dls_expr (dl_call (f := n_shortest_chain) (IH n_shortest_chain) hr G.g_11 G.k_11 G.b_11 tk (dla_cons (dl_var 1) (dla_cons (dl_var 2) (dla_cons (dl_var 3) (dla_cons (dl_var 4) dla_nil))))))
      dss_nil))
      dss_nil))
      dss_nil)) (.cons ⟨rfl, by decide, .inl G.gx_2⟩ (fun _ _ _ _ _ _ _ => dls_blk (dss_cons (dls_ret dl_str)
      dss_nil)) (.cons ⟨rfl, by decide, .inl G.gx_0⟩ (fun _ _ _ _ _ _ _ => dls_blk (dss_cons (dls_ret dl_str)
      dss_nil)) (.cons ⟨rfl, by decide, .inl G.gx_1⟩ (fun _ _ _ _ _ _ _ => dls_blk (dss_cons (dls_ret dl_str)
      dss_nil)) .nil))))
      (dss_cons (dls_ret dl_none)
      dss_nil))
theorem body24 (G : Fx K mg fa fdat cl) (IH : ∀ j, FnOk P w K mg base (L2.CX P w) k (fa j) (fdat j) (psN j) (spF (runF T n) (T.md j) cl j)) (cdv : Value) (A : Around) (outer : List Env) (s : Shared) (H : Hp) (E : XK)
    (hr : Room k (A.deeper (envOfC (PySem.Str.ofString "_law_walked") (defScope s24) s.heap.objs.size (fa 24) cdv))) : PSs (cxOf (L2.CX P w) P w K mg base [PySem.Str.ofString "draws", PySem.Str.ofString "rules", PySem.Str.ofString "bag", PySem.Str.ofString "steps", PySem.Str.ofString "found", PySem.Str.ofString "turn", PySem.Str.ofString "ways", PySem.Str.ofString "one"] (PySem.Str.ofString "_law_walked") (defScope s24) (fa 24) cdv A outer s H E) (defBody s24) (tSs ⟨⟨⟨runF T n, T.md⟩, T.sub⟩, cl⟩ (fun cls dd _ H => E cls dd H) fd__law_walked.body) := by
  have hu := hu_room hr
  have hu1 := hu_room1 hr
  have hN := sc24.nd
  have tk : Takes (cxOf (L2.CX P w) P w K mg base [PySem.Str.ofString "draws", PySem.Str.ofString "rules", PySem.Str.ofString "bag", PySem.Str.ofString "steps", PySem.Str.ofString "found", PySem.Str.ofString "turn", PySem.Str.ofString "ways", PySem.Str.ofString "one"] (PySem.Str.ofString "_law_walked") (defScope s24) (fa 24) cdv A outer s H E) (fun cls dd _ H => E cls dd H) := takes_of rfl rfl rfl rfl
  have hp : PassesOwn (model P w) (A.deeper (envOfC (PySem.Str.ofString "_law_walked") (defScope s24) s.heap.objs.size (fa 24) cdv)) (envOfC (PySem.Str.ofString "_law_walked") (defScope s24) s.heap.objs.size (fa 24) cdv) (cxOf (L2.CX P w) P w K mg base [PySem.Str.ofString "draws", PySem.Str.ofString "rules", PySem.Str.ofString "bag", PySem.Str.ofString "steps", PySem.Str.ofString "found", PySem.Str.ofString "turn", PySem.Str.ofString "ways", PySem.Str.ofString "one"] (PySem.Str.ofString "_law_walked") (defScope s24) (fa 24) cdv A outer s H E).xe := passes_of (X := cxOf (L2.CX P w) P w K mg base [PySem.Str.ofString "draws", PySem.Str.ofString "rules", PySem.Str.ofString "bag", PySem.Str.ofString "steps", PySem.Str.ofString "found", PySem.Str.ofString "turn", PySem.Str.ofString "ways", PySem.Str.ofString "one"] (PySem.Str.ofString "_law_walked") (defScope s24) (fa 24) cdv A outer s H E) rfl
  exact (dss_cons (dls_asgN hN rfl (.inl rfl) (dl_lst (dlx_cons (dl_var 2) dlx_nil)))
      (dss_cons (dls_for hp rfl hN rfl (src_rng1 G.m_range (dla_cons (dl_var 3) dla_nil)) (TgOk.nm rfl (.inl rfl) (by first | exact .inl rfl | exact .inr rfl)) (dss_cons (dls_asgN hN rfl (.inl rfl) (dl_call (f := n__law_exchanges) (IH n__law_exchanges) hr G.g_20 G.k_20 G.b_20 tk (dla_cons (dl_var 1) (dla_cons (dl_ix (dl_var 4) (dl_sub (dl_biB cb_len G.m_len boot_b_len (dla_cons (dl_var 4) dla_nil)) dl_int)) dla_nil))))
      (dss_cons (dls_asgC (own := [(PySem.Str.ofString "one", 7)]) rfl hN rfl rfl (sw_true rfl rfl rfl (by decide +kernel)) (src_seq (dl_var 6)) (show BlkOk [PySem.Str.ofString "draws", PySem.Str.ofString "rules", PySem.Str.ofString "bag", PySem.Str.ofString "steps", PySem.Str.ofString "found", PySem.Str.ofString "turn", PySem.Str.ofString "ways", PySem.Str.ofString "one"] (defScope s24) _ _ from blkOk_by (by decide +kernel)) (fun _ _ _ _ _ => (TgOk.nm rfl (.inl rfl) (by first | exact .inl rfl | exact .inr rfl))) (.inr ⟨rfl, rfl⟩) (fun _ _ _ _ _ => (pts_one (dlt_cmpR (oc_le hu) (dl_biB (cb_max rfl hu) G.m_max boot_b_max (dla_cons (dl_ix (dl_var 7) dl_int) dla_nil)) dl_int (by with_unfolding_all rfl)))) (fun _ _ _ _ _ => (dl_var 7)))
      (dss_cons (dls_if (dlt_cmpR (oc_gt hu) (dl_biB cb_len G.m_len boot_b_len (dla_cons (dl_var 6) dla_nil)) dl_int (by with_unfolding_all rfl)) (dss_cons (dls_expr (dl_app (dl_var 4) (dl_ix (dl_ix (dl_var 6) (dl_mod (dl_call (f := n__law_draw) (IH n__law_draw) hr G.g_14 G.k_14 G.b_14 tk (dla_cons (dl_var 0) dla_nil)) (dl_biB cb_len G.m_len boot_b_len (dla_cons (dl_var 6) dla_nil)))) dl_int)))
      dss_nil) dss_nil)
      dss_nil))))
      (dss_cons (dls_ret (dl_var 4))
      dss_nil)))
theorem body25 (G : Fx K mg fa fdat cl) (IH : ∀ j, FnOk P w K mg base (L2.CX P w) k (fa j) (fdat j) (psN j) (spF (runF T n) (T.md j) cl j)) (cdv : Value) (A : Around) (outer : List Env) (s : Shared) (H : Hp) (E : XK)
    (hr : Room k (A.deeper (envOfC (PySem.Str.ofString "law") (defScope s25) s.heap.objs.size (fa 25) cdv))) : PSs (cxOf (L2.CX P w) P w K mg base [PySem.Str.ofString "script", PySem.Str.ofString "draws", PySem.Str.ofString "turn", PySem.Str.ofString "kinds", PySem.Str.ofString "rules", PySem.Str.ofString "bag", PySem.Str.ofString "chain", PySem.Str.ofString "k", PySem.Str.ofString "other", PySem.Str.ofString "most", PySem.Str.ofString "walked", PySem.Str.ofString "goal", PySem.Str.ofString "fine", PySem.Str.ofString "crooked", PySem.Str.ofString "bad", PySem.Str.ofString "strange", PySem.Str.ofString "name", PySem.Str.ofString "one"] (PySem.Str.ofString "law") (defScope s25) (fa 25) cdv A outer s H E) (defBody s25) (tSs ⟨⟨⟨runF T n, T.md⟩, T.sub⟩, cl⟩ (fun cls dd _ H => E cls dd H) fd_law.body) := by
  have hu := hu_room hr
  have hu1 := hu_room1 hr
  have hN := sc25.nd
  have tk : Takes (cxOf (L2.CX P w) P w K mg base [PySem.Str.ofString "script", PySem.Str.ofString "draws", PySem.Str.ofString "turn", PySem.Str.ofString "kinds", PySem.Str.ofString "rules", PySem.Str.ofString "bag", PySem.Str.ofString "chain", PySem.Str.ofString "k", PySem.Str.ofString "other", PySem.Str.ofString "most", PySem.Str.ofString "walked", PySem.Str.ofString "goal", PySem.Str.ofString "fine", PySem.Str.ofString "crooked", PySem.Str.ofString "bad", PySem.Str.ofString "strange", PySem.Str.ofString "name", PySem.Str.ofString "one"] (PySem.Str.ofString "law") (defScope s25) (fa 25) cdv A outer s H E) (fun cls dd _ H => E cls dd H) := takes_of rfl rfl rfl rfl
  have hp : PassesOwn (model P w) (A.deeper (envOfC (PySem.Str.ofString "law") (defScope s25) s.heap.objs.size (fa 25) cdv)) (envOfC (PySem.Str.ofString "law") (defScope s25) s.heap.objs.size (fa 25) cdv) (cxOf (L2.CX P w) P w K mg base [PySem.Str.ofString "script", PySem.Str.ofString "draws", PySem.Str.ofString "turn", PySem.Str.ofString "kinds", PySem.Str.ofString "rules", PySem.Str.ofString "bag", PySem.Str.ofString "chain", PySem.Str.ofString "k", PySem.Str.ofString "other", PySem.Str.ofString "most", PySem.Str.ofString "walked", PySem.Str.ofString "goal", PySem.Str.ofString "fine", PySem.Str.ofString "crooked", PySem.Str.ofString "bad", PySem.Str.ofString "strange", PySem.Str.ofString "name", PySem.Str.ofString "one"] (PySem.Str.ofString "law") (defScope s25) (fa 25) cdv A outer s H E).xe := passes_of (X := cxOf (L2.CX P w) P w K mg base [PySem.Str.ofString "script", PySem.Str.ofString "draws", PySem.Str.ofString "turn", PySem.Str.ofString "kinds", PySem.Str.ofString "rules", PySem.Str.ofString "bag", PySem.Str.ofString "chain", PySem.Str.ofString "k", PySem.Str.ofString "other", PySem.Str.ofString "most", PySem.Str.ofString "walked", PySem.Str.ofString "goal", PySem.Str.ofString "fine", PySem.Str.ofString "crooked", PySem.Str.ofString "bad", PySem.Str.ofString "strange", PySem.Str.ofString "name", PySem.Str.ofString "one"] (PySem.Str.ofString "law") (defScope s25) (fa 25) cdv A outer s H E) rfl
  exact (dss_cons (dls_asgN hN rfl (.inr rfl) (dl_lst (dlx_cons (dl_call (f := n__law_numbers) (IH n__law_numbers) hr G.g_13 G.k_13 G.b_13 tk (dla_cons (dl_var 0) dla_nil)) (dlx_cons dl_int dlx_nil))))
      (dss_cons (dls_for hp rfl hN rfl (src_rng1 G.m_range (dla_cons dl_int dla_nil)) (TgOk.nm rfl (.inl rfl) (by first | exact .inl rfl | exact .inr rfl)) (dss_cons (dls_asgN hN rfl (.inl rfl) (dl_add dl_int (dl_mod (dl_call (f := n__law_draw) (IH n__law_draw) hr G.g_14 G.k_14 G.b_14 tk (dla_cons (dl_var 1) dla_nil)) dl_int)))
      (dss_cons (dls_asgN hN rfl (.inl rfl) (dl_call (f := n__law_rules) (IH n__law_rules) hr G.g_17 G.k_17 G.b_17 tk (dla_cons (dl_var 1) (dla_cons (dl_var 3) (dla_cons dl_int (dla_cons (dl_add dl_int (dl_mod (dl_call (f := n__law_draw) (IH n__law_draw) hr G.g_14 G.k_14 G.b_14 tk (dla_cons (dl_var 1) dla_nil)) dl_int)) dla_nil))))))
      (dss_cons (dls_asgN hN rfl (.inl rfl) (dl_biT cb_tup G.m_tuple boot_ty_tuple (dla_cons (dl_comp (own := [(PySem.Str.ofString "k", 7)]) rfl hN (src_rng1 G.m_range (dla_cons (dl_var 3) dla_nil)) (show BlkOk [PySem.Str.ofString "script", PySem.Str.ofString "draws", PySem.Str.ofString "turn", PySem.Str.ofString "kinds", PySem.Str.ofString "rules", PySem.Str.ofString "bag", PySem.Str.ofString "chain", PySem.Str.ofString "k", PySem.Str.ofString "other", PySem.Str.ofString "most", PySem.Str.ofString "walked", PySem.Str.ofString "goal", PySem.Str.ofString "fine", PySem.Str.ofString "crooked", PySem.Str.ofString "bad", PySem.Str.ofString "strange", PySem.Str.ofString "name", PySem.Str.ofString "one"] (defScope s25) _ _ from blkOk_by (by decide +kernel)) (fun _ _ _ _ _ => (TgOk.nm rfl (.inl rfl) (by first | exact .inl rfl | exact .inr rfl))) (.inl ⟨rfl, rfl⟩) (fun _ _ _ _ _ => pts_nil) (fun _ _ _ _ _ => (dl_mod (dl_call (f := n__law_draw) (IH n__law_draw) hr G.g_14 G.k_14 G.b_14 takes0 (dla_cons (dl_var 1) dla_nil)) (dl_ix (dl_lst (dlx_cons dl_int (dlx_cons dl_int dlx_nil))) (dl_mod (dl_call (f := n__law_draw) (IH n__law_draw) hr G.g_14 G.k_14 G.b_14 takes0 (dla_cons (dl_var 1) dla_nil)) dl_int))))) dla_nil)))
      (dss_cons (dls_if (dlt_not (dlt_val (by rw [ev] <;> rfl) (dl_call (f := n__law_equal) (IH n__law_equal) hr G.g_15 G.k_15 G.b_15 tk (dla_cons (dl_call (f := n_exchanges) (IH n_exchanges) hr G.g_8 G.k_8 G.b_8 tk (dla_cons (dl_biT cb_lst G.m_list boot_ty_list (dla_cons (dl_var 4) dla_nil)) (dla_cons (dl_var 5) dla_nil))) (dla_cons (dl_call (f := n__law_exchanges) (IH n__law_exchanges) hr G.g_20 G.k_20 G.b_20 tk (dla_cons (dl_var 4) (dla_cons (dl_var 5) dla_nil))) dla_nil))))) (dss_cons (dls_ret dl_bool)
      dss_nil) dss_nil)
      (dss_cons (dls_asgN hN rfl (.inl rfl) (dl_call (f := n__law_walked) (IH n__law_walked) hr G.g_24 G.k_24 G.b_24 tk (dla_cons (dl_var 1) (dla_cons (dl_var 4) (dla_cons (dl_var 5) (dla_cons (dl_mod (dl_call (f := n__law_draw) (IH n__law_draw) hr G.g_14 G.k_14 G.b_14 tk (dla_cons (dl_var 1) dla_nil)) dl_int) dla_nil))))))
      (dss_cons (dls_if (dlt_not (dlt_val (by rw [ev] <;> rfl) (dl_call (f := n__law_equal) (IH n__law_equal) hr G.g_15 G.k_15 G.b_15 tk (dla_cons (dl_call (f := n_is_chain) (IH n_is_chain) hr G.g_10 G.k_10 G.b_10 tk (dla_cons (dl_biT cb_lst G.m_list boot_ty_list (dla_cons (dl_var 4) dla_nil)) (dla_cons (dl_biT cb_lst G.m_list boot_ty_list (dla_cons (dl_var 6) dla_nil)) dla_nil))) (dla_cons dl_bool dla_nil))))) (dss_cons (dls_ret dl_bool)
      dss_nil) dss_nil)
      (dss_cons (dls_asgN hN rfl (.inl rfl) (dl_mod (dl_call (f := n__law_draw) (IH n__law_draw) hr G.g_14 G.k_14 G.b_14 tk (dla_cons (dl_var 1) dla_nil)) (dl_biB cb_len G.m_len boot_b_len (dla_cons (dl_var 6) dla_nil))))
      (dss_cons (dls_asgN hN rfl (.inl rfl) (dl_add (dl_add (dl_slice (dl_var 6) SlB.no (SlB.some (dl_var 7) rfl)) (dl_lst (dlx_cons (dl_biT cb_tup G.m_tuple boot_ty_tuple (dla_cons (dl_comp (own := [(PySem.Str.ofString "one", 17)]) rfl hN (src_seq (dl_ix (dl_var 6) (dl_var 7))) (show BlkOk [PySem.Str.ofString "script", PySem.Str.ofString "draws", PySem.Str.ofString "turn", PySem.Str.ofString "kinds", PySem.Str.ofString "rules", PySem.Str.ofString "bag", PySem.Str.ofString "chain", PySem.Str.ofString "k", PySem.Str.ofString "other", PySem.Str.ofString "most", PySem.Str.ofString "walked", PySem.Str.ofString "goal", PySem.Str.ofString "fine", PySem.Str.ofString "crooked", PySem.Str.ofString "bad", PySem.Str.ofString "strange", PySem.Str.ofString "name", PySem.Str.ofString "one"] (defScope s25) _ _ from blkOk_by (by decide +kernel)) (fun _ _ _ _ _ => (TgOk.nm rfl (.inl rfl) (by first | exact .inl rfl | exact .inr rfl))) (.inl ⟨rfl, rfl⟩) (fun _ _ _ _ _ => pts_nil) (fun _ _ _ _ _ => (dl_mod (dl_add (dl_var 17) (dl_mod (dl_call (f := n__law_draw) (IH n__law_draw) hr G.g_14 G.k_14 G.b_14 takes0 (dla_cons (dl_var 1) dla_nil)) dl_int)) dl_int))) dla_nil)) dlx_nil))) (dl_slice (dl_var 6) (SlB.some (dl_add (dl_var 7) dl_int) rfl) SlB.no)))
      (dss_cons (dls_if (dlt_not (dlt_val (by rw [ev] <;> rfl) (dl_call (f := n__law_equal) (IH n__law_equal) hr G.g_15 G.k_15 G.b_15 tk (dla_cons (dl_call (f := n_is_chain) (IH n_is_chain) hr G.g_10 G.k_10 G.b_10 tk (dla_cons (dl_biT cb_lst G.m_list boot_ty_list (dla_cons (dl_var 4) dla_nil)) (dla_cons (dl_var 8) dla_nil))) (dla_cons (dl_call (f := n__law_is_chain) (IH n__law_is_chain) hr G.g_21 G.k_21 G.b_21 tk (dla_cons (dl_var 4) (dla_cons (dl_var 8) dla_nil))) dla_nil))))) (dss_cons (dls_ret dl_bool)
      dss_nil) dss_nil)
      (dss_cons (dls_asgN hN rfl (.inl rfl) (dl_mod (dl_call (f := n__law_draw) (IH n__law_draw) hr G.g_14 G.k_14 G.b_14 tk (dla_cons (dl_var 1) dla_nil)) (dl_ix (dl_lst (dlx_cons dl_int (dlx_cons dl_int dlx_nil))) (dl_mod (dl_call (f := n__law_draw) (IH n__law_draw) hr G.g_14 G.k_14 G.b_14 tk (dla_cons (dl_var 1) dla_nil)) dl_int))))
      (dss_cons (dls_asgN hN rfl (.inl rfl) (dl_biT cb_tup G.m_tuple boot_ty_tuple (dla_cons (dl_comp (own := [(PySem.Str.ofString "k", 7)]) rfl hN (src_rng1 G.m_range (dla_cons (dl_var 3) dla_nil)) (show BlkOk [PySem.Str.ofString "script", PySem.Str.ofString "draws", PySem.Str.ofString "turn", PySem.Str.ofString "kinds", PySem.Str.ofString "rules", PySem.Str.ofString "bag", PySem.Str.ofString "chain", PySem.Str.ofString "k", PySem.Str.ofString "other", PySem.Str.ofString "most", PySem.Str.ofString "walked", PySem.Str.ofString "goal", PySem.Str.ofString "fine", PySem.Str.ofString "crooked", PySem.Str.ofString "bad", PySem.Str.ofString "strange", PySem.Str.ofString "name", PySem.Str.ofString "one"] (defScope s25) _ _ from blkOk_by (by decide +kernel)) (fun _ _ _ _ _ => (TgOk.nm rfl (.inl rfl) (by first | exact .inl rfl | exact .inr rfl))) (.inl ⟨rfl, rfl⟩) (fun _ _ _ _ _ => pts_nil) (fun _ _ _ _ _ => (dl_mod (dl_call (f := n__law_draw) (IH n__law_draw) hr G.g_14 G.k_14 G.b_14 takes0 (dla_cons (dl_var 1) dla_nil)) dl_int))) dla_nil)))
      (dss_cons (dls_asgN hN rfl (.inl rfl) (dl_call (f := n__law_walked) (IH n__law_walked) hr G.g_24 G.k_24 G.b_24 tk (dla_cons (dl_var 1) (dla_cons (dl_var 4) (dla_cons (dl_var 5) (dla_cons (dl_mod (dl_call (f := n__law_draw) (IH n__law_draw) hr G.g_14 G.k_14 G.b_14 tk (dla_cons (dl_var 1) dla_nil)) dl_int) dla_nil))))))
      (dss_cons (dls_asgN hN rfl (.inl rfl) (dl_ix (dl_var 10) (dl_sub (dl_biB cb_len G.m_len boot_b_len (dla_cons (dl_var 10) dla_nil)) dl_int)))
      (dss_cons (dls_if (dlt_cmpR (oc_eq hu) (dl_mod (dl_call (f := n__law_draw) (IH n__law_draw) hr G.g_14 G.k_14 G.b_14 tk (dla_cons (dl_var 1) dla_nil)) dl_int) dl_int (by with_unfolding_all rfl)) (dss_cons (dls_asgN hN rfl (.inl rfl) (dl_biT cb_tup G.m_tuple boot_ty_tuple (dla_cons (dl_comp (own := [(PySem.Str.ofString "k", 7)]) rfl hN (src_rng1 G.m_range (dla_cons (dl_var 3) dla_nil)) (show BlkOk [PySem.Str.ofString "script", PySem.Str.ofString "draws", PySem.Str.ofString "turn", PySem.Str.ofString "kinds", PySem.Str.ofString "rules", PySem.Str.ofString "bag", PySem.Str.ofString "chain", PySem.Str.ofString "k", PySem.Str.ofString "other", PySem.Str.ofString "most", PySem.Str.ofString "walked", PySem.Str.ofString "goal", PySem.Str.ofString "fine", PySem.Str.ofString "crooked", PySem.Str.ofString "bad", PySem.Str.ofString "strange", PySem.Str.ofString "name", PySem.Str.ofString "one"] (defScope s25) _ _ from blkOk_by (by decide +kernel)) (fun _ _ _ _ _ => (TgOk.nm rfl (.inl rfl) (by first | exact .inl rfl | exact .inr rfl))) (.inl ⟨rfl, rfl⟩) (fun _ _ _ _ _ => pts_nil) (fun _ _ _ _ _ => (dl_mod (dl_call (f := n__law_draw) (IH n__law_draw) hr G.g_14 G.k_14 G.b_14 takes0 (dla_cons (dl_var 1) dla_nil)) dl_int))) dla_nil)))
      dss_nil) dss_nil)
      (dss_cons (dls_if (dlt_not (dlt_val (by rw [ev] <;> rfl) (dl_call (f := n__law_equal) (IH n__law_equal) hr G.g_15 G.k_15 G.b_15 tk (dla_cons (dl_call (f := n_shortest_chain) (IH n_shortest_chain) hr G.g_11 G.k_11 G.b_11 tk (dla_cons (dl_biT cb_lst G.m_list boot_ty_list (dla_cons (dl_var 4) dla_nil)) (dla_cons (dl_var 5) (dla_cons (dl_var 11) (dla_cons (dl_var 9) dla_nil))))) (dla_cons (dl_call (f := n__law_shortest) (IH n__law_shortest) hr G.g_22 G.k_22 G.b_22 tk (dla_cons (dl_var 4) (dla_cons (dl_var 5) (dla_cons (dl_var 11) (dla_cons (dl_var 9) dla_nil))))) dla_nil))))) (dss_cons (dls_ret dl_bool)
      dss_nil) dss_nil)
      dss_nil))))))))))))))))
      (dss_cons (dls_asgN hN rfl (.inl rfl) (dl_lst (dlx_cons (dl_tup (dlx_cons (dl_tup (dlx_cons dl_int (dlx_cons dl_int dlx_nil))) (dlx_cons (dl_tup (dlx_cons dl_int (dlx_cons dl_int dlx_nil))) dlx_nil))) dlx_nil)))
      (dss_cons (dls_asgN hN rfl (.inl rfl) (dl_lst (dlx_cons dl_none (dlx_cons (dl_lst dlx_nil) (dlx_cons (dl_lst (dlx_cons (dl_tup (dlx_cons (dl_tup (dlx_cons dl_int dlx_nil)) (dlx_cons (dl_tup (dlx_cons dl_int (dlx_cons dl_int dlx_nil))) dlx_nil))) dlx_nil)) (dlx_cons (dl_lst (dlx_cons (dl_tup (dlx_cons (dl_tup (dlx_cons dl_int (dlx_cons dl_int dlx_nil))) (dlx_cons (dl_tup (dlx_cons dl_int (dlx_cons dl_int dlx_nil))) dlx_nil))) dlx_nil)) (dlx_cons (dl_lst (dlx_cons (dl_tup (dlx_cons (dl_tup (dlx_cons dl_int (dlx_cons dl_int dlx_nil))) (dlx_cons (dl_tup (dlx_cons dl_int (dlx_cons dl_int dlx_nil))) dlx_nil))) dlx_nil)) (dlx_cons (dl_lst (dlx_cons (dl_tup (dlx_cons (dl_tup (dlx_cons dl_int (dlx_cons dl_int dlx_nil))) dlx_nil)) dlx_nil)) (dlx_cons (dl_lst (dlx_cons (dl_lst (dlx_cons (dl_tup (dlx_cons dl_int (dlx_cons dl_int dlx_nil))) (dlx_cons (dl_tup (dlx_cons dl_int (dlx_cons dl_int dlx_nil))) dlx_nil))) dlx_nil)) (dlx_cons (dl_lst (dlx_cons (dl_tup (dlx_cons (dl_tup (dlx_cons (dl_neg dl_int) (dlx_cons dl_int dlx_nil))) (dlx_cons (dl_tup (dlx_cons dl_int (dlx_cons dl_int dlx_nil))) dlx_nil))) dlx_nil)) (dlx_cons (dl_mul (dl_var 12) dl_int) (dlx_cons (dl_lst (dlx_cons (dl_tup (dlx_cons (dl_tup (dlx_cons dl_bool (dlx_cons dl_int dlx_nil))) (dlx_cons (dl_tup (dlx_cons dl_int (dlx_cons dl_int dlx_nil))) dlx_nil))) dlx_nil)) (dlx_cons (dl_lst (dlx_cons (dl_tup (dlx_cons (dl_tup (dlx_cons dl_int (dlx_cons dl_int (dlx_cons dl_int (dlx_cons dl_int dlx_nil))))) (dlx_cons (dl_tup (dlx_cons dl_int (dlx_cons dl_int (dlx_cons dl_int (dlx_cons dl_int dlx_nil))))) dlx_nil))) dlx_nil)) (dlx_cons (dl_lst (dlx_cons (dl_tup (dlx_cons (dl_tup dlx_nil) (dlx_cons (dl_tup dlx_nil) dlx_nil))) dlx_nil)) (dlx_cons (dl_tup (dlx_cons (dl_ix (dl_var 12) dl_int) dlx_nil)) dlx_nil)))))))))))))))
      (dss_cons (dls_asgN hN rfl (.inl rfl) (dl_ix (dl_var 13) (dl_mod (dl_call (f := n__law_draw) (IH n__law_draw) hr G.g_14 G.k_14 G.b_14 tk (dla_cons (dl_var 1) dla_nil)) (dl_biB cb_len G.m_len boot_b_len (dla_cons (dl_var 13) dla_nil)))))
      (dss_cons (dls_asgN hN rfl (.inl rfl) (dl_ix (dl_lst (dlx_cons dl_none (dlx_cons (dl_tup (dlx_cons dl_int dlx_nil)) (dlx_cons (dl_tup (dlx_cons dl_int (dlx_cons dl_int dlx_nil))) (dlx_cons (dl_tup (dlx_cons (dl_neg dl_int) (dlx_cons dl_int dlx_nil))) (dlx_cons (dl_tup (dlx_cons dl_bool (dlx_cons dl_int dlx_nil))) (dlx_cons (dl_lst (dlx_cons dl_int (dlx_cons dl_int dlx_nil))) (dlx_cons (dl_tup (dlx_cons dl_int (dlx_cons dl_int (dlx_cons dl_int dlx_nil)))) (dlx_cons (dl_tup (dlx_cons dl_str (dlx_cons dl_int dlx_nil))) dlx_nil))))))))) (dl_mod (dl_call (f := n__law_draw) (IH n__law_draw) hr G.g_14 G.k_14 G.b_14 tk (dla_cons (dl_var 1) dla_nil)) dl_int)))
      (dss_cons (dls_for hp rfl hN rfl (src_seq (dl_lst (dlx_cons dl_str (dlx_cons dl_str (dlx_cons dl_str dlx_nil))))) (TgOk.nm rfl (.inl rfl) (by first | exact .inl rfl | exact .inr rfl)) (dss_cons (dls_if (dlt_cmpR (oc_ne hu) (dl_call (f := n__law_error) (IH n__law_error) hr G.g_23 G.k_23 G.b_23 tk (dla_cons (dl_var 16) (dla_cons (dl_var 14) (dla_cons (dl_tup (dlx_cons dl_int (dlx_cons dl_int dlx_nil))) (dla_cons (dl_tup (dlx_cons dl_int (dlx_cons dl_int dlx_nil))) (dla_cons dl_int dla_nil)))))) dl_str (by with_unfolding_all rfl)) (dss_cons (dls_ret dl_bool)
      dss_nil) dss_nil)
      (dss_cons (dls_if (PW.pt (dlw_and (dlt_cmpR (oc_ne hu) (dl_var 16) dl_str (by with_unfolding_all rfl)) (dlw_and1 (dlt_cmpR (oc_ne hu) (dl_call (f := n__law_error) (IH n__law_error) hr G.g_23 G.k_23 G.b_23 tk (dla_cons (dl_var 16) (dla_cons (dl_var 12) (dla_cons (dl_var 15) (dla_cons (dl_tup (dlx_cons dl_int (dlx_cons dl_int dlx_nil))) (dla_cons dl_int dla_nil)))))) dl_str (by with_unfolding_all rfl))))) (dss_cons (dls_ret dl_bool)
      dss_nil) dss_nil)
      dss_nil)))
      (dss_cons (dls_if (PW.pt (dlw_or (dlt_not (dlt_val (by rw [ev] <;> rfl) (dl_call (f := n__law_equal) (IH n__law_equal) hr G.g_15 G.k_15 G.b_15 tk (dla_cons (dl_call (f := n_is_chain) (IH n_is_chain) hr G.g_10 G.k_10 G.b_10 tk (dla_cons (dl_var 12) (dla_cons (dl_lst (dlx_cons (dl_var 15) dlx_nil)) dla_nil))) (dla_cons dl_bool dla_nil))))) (dlw_or1 (dlt_not (dlt_val (by rw [ev] <;> rfl) (dl_call (f := n__law_equal) (IH n__law_equal) hr G.g_15 G.k_15 G.b_15 tk (dla_cons (dl_call (f := n_is_chain) (IH n_is_chain) hr G.g_10 G.k_10 G.b_10 tk (dla_cons (dl_var 12) (dla_cons (dl_ix (dl_lst (dlx_cons dl_none (dlx_cons (dl_lst dlx_nil) (dlx_cons (dl_tup (dlx_cons (dl_tup (dlx_cons dl_int (dlx_cons dl_int dlx_nil))) dlx_nil)) dlx_nil)))) (dl_mod (dl_call (f := n__law_draw) (IH n__law_draw) hr G.g_14 G.k_14 G.b_14 tk (dla_cons (dl_var 1) dla_nil)) dl_int)) dla_nil))) (dla_cons dl_bool dla_nil)))))))) (dss_cons (dls_ret dl_bool)
      dss_nil) dss_nil)
      (dss_cons (dls_if (dlt_cmpR (oc_ne hu) (dl_call (f := n__law_error) (IH n__law_error) hr G.g_23 G.k_23 G.b_23 tk (dla_cons dl_str (dla_cons (dl_var 12) (dla_cons (dl_tup (dlx_cons dl_int (dlx_cons dl_int dlx_nil))) (dla_cons (dl_var 15) (dla_cons dl_int dla_nil)))))) dl_str (by with_unfolding_all rfl)) (dss_cons (dls_ret dl_bool)
      dss_nil) dss_nil)
      (dss_cons (dls_ret (dl_cmpR (oc_eq hu) (dl_call (f := n__law_error) (IH n__law_error) hr G.g_23 G.k_23 G.b_23 tk (dla_cons dl_str (dla_cons (dl_var 12) (dla_cons (dl_tup (dlx_cons dl_int (dlx_cons dl_int dlx_nil))) (dla_cons (dl_tup (dlx_cons dl_int (dlx_cons dl_int dlx_nil))) (dla_cons (dl_ix (dl_lst (dlx_cons (dl_neg dl_int) (dlx_cons dl_int (dlx_cons dl_bool (dlx_cons dl_none dlx_nil))))) (dl_mod (dl_call (f := n__law_draw) (IH n__law_draw) hr G.g_14 G.k_14 G.b_14 tk (dla_cons (dl_var 1) dla_nil)) dl_int)) dla_nil)))))) dl_str (by with_unfolding_all rfl)))
      dss_nil))))))))))
theorem all_ok (G : Fx K mg fa fdat cl) : ∀ n j, FnOk P w K mg base (L2.CX P w) n (fa j) (fdat j) (psN j) (spF (runF T n) (T.md j) cl j)
  | 0, j => fn_none fun _ => rfl
  | n + 1, 0 => fn_ok (d := fd_is_within) G.F_0 sc0 rfl rfl rfl (by decide) (body0 G (all_ok G n))
  | n + 1, 1 => fn_ok (d := fd_is_tuple) G.F_1 sc1 rfl rfl rfl (by decide) (body1 G (all_ok G n))
  | n + 1, 2 => fn_ok (d := fd_is_bag_of) G.F_2 sc2 rfl rfl rfl (by decide) (body2 G (all_ok G n))
  | n + 1, 3 => fn_ok (d := fd_check_rules) G.F_3 sc3 rfl rfl rfl (by decide) (body3 G (all_ok G n))
  | n + 1, 4 => fn_ok (d := fd_check_bag) G.F_4 sc4 rfl rfl rfl (by decide) (body4 G (all_ok G n))
  | n + 1, 5 => fn_ok (d := fd_is_within_bag) G.F_5 sc5 rfl rfl rfl (by decide) (body5 G (all_ok G n))
  | n + 1, 6 => fn_ok (d := fd_put_for) G.F_6 sc6 rfl rfl rfl (by decide) (body6 G (all_ok G n))
  | n + 1, 7 => fn_ok (d := fd_all_exchanges) G.F_7 sc7 rfl rfl rfl (by decide) (body7 G (all_ok G n))
  | n + 1, 8 => fn_ok (d := fd_exchanges) G.F_8 sc8 rfl rfl rfl (by decide) (body8 G (all_ok G n))
  | n + 1, 9 => fn_ok (d := fd_check_sum) G.F_9 sc9 rfl rfl rfl (by decide) (body9 G (all_ok G n))
  | n + 1, 10 => fn_ok (d := fd_is_chain) G.F_10 sc10 rfl rfl rfl (by decide) (body10 G (all_ok G n))
  | n + 1, 11 => fn_ok (d := fd_shortest_chain) G.F_11 sc11 rfl rfl rfl (by decide) (body11 G (all_ok G n))
  | n + 1, 12 => fn_ok (d := fd__law_mixed) G.F_12 sc12 rfl rfl rfl (by decide) (body12 G (all_ok G n))
  | n + 1, 13 => fn_ok (d := fd__law_numbers) G.F_13 sc13 rfl rfl rfl (by decide) (body13 G (all_ok G n))
  | n + 1, 14 => fn_ok (d := fd__law_draw) G.F_14 sc14 rfl rfl rfl (by decide) (body14 G (all_ok G n))
  | n + 1, 15 => fn_ok (d := fd__law_equal) G.F_15 sc15 rfl rfl rfl (by decide) (body15 G (all_ok G n))
  | n + 1, 16 => fn_ok (d := fd__law_all_equal) G.F_16 sc16 rfl rfl rfl (by decide) (body16 G (all_ok G n))
  | n + 1, 17 => fn_ok (d := fd__law_rules) G.F_17 sc17 rfl rfl rfl (by decide) (body17 G (all_ok G n))
  | n + 1, 18 => fn_ok (d := fd__law_has) G.F_18 sc18 rfl rfl rfl (by decide) (body18 G (all_ok G n))
  | n + 1, 19 => fn_ok (d := fd__law_put) G.F_19 sc19 rfl rfl rfl (by decide) (body19 G (all_ok G n))
  | n + 1, 20 => fn_ok (d := fd__law_exchanges) G.F_20 sc20 rfl rfl rfl (by decide) (body20 G (all_ok G n))
  | n + 1, 21 => fn_ok (d := fd__law_is_chain) G.F_21 sc21 rfl rfl rfl (by decide) (body21 G (all_ok G n))
  | n + 1, 22 => fn_ok (d := fd__law_shortest) G.F_22 sc22 rfl rfl rfl (by decide) (body22 G (all_ok G n))
  | n + 1, 23 => fn_ok (d := fd__law_error) G.F_23 sc23 rfl rfl rfl (by decide) (body23 G (all_ok G n))
  | n + 1, 24 => fn_ok (d := fd__law_walked) G.F_24 sc24 rfl rfl rfl (by decide) (body24 G (all_ok G n))
  | n + 1, 25 => fn_ok (d := fd_law) G.F_25 sc25 rfl rfl rfl (by decide) (body25 G (all_ok G n))
  | n + 1, j + 26 => fn_none fun _ => rfl
end
/-! ### the head: facts by names, the run -/
def fa0 : List He.Fa := [.free (PySem.Str.ofString "bool"), .free (PySem.Str.ofString "int"), .free (PySem.Str.ofString "isinstance"), .free (PySem.Str.ofString "len"), .free (PySem.Str.ofString "list"), .free (PySem.Str.ofString "max"), .free (PySem.Str.ofString "min"), .free (PySem.Str.ofString "range"), .free (PySem.Str.ofString "sorted"), .free (PySem.Str.ofString "str"), .free (PySem.Str.ofString "sum"), .free (PySem.Str.ofString "tuple"), .int (PySem.Str.ofString "MOST_KINDS") 3, .int (PySem.Str.ofString "MOST_RULES") 4, .int (PySem.Str.ofString "MOST_PART") 4, .int (PySem.Str.ofString "MOST_BAG") 60, .int (PySem.Str.ofString "MOST_SUM") 30, .glo (PySem.Str.ofString "is_within"), .glo (PySem.Str.ofString "is_tuple"), .glo (PySem.Str.ofString "is_bag_of"), .glo (PySem.Str.ofString "check_rules"), .glo (PySem.Str.ofString "check_bag"), .glo (PySem.Str.ofString "is_within_bag"), .glo (PySem.Str.ofString "put_for"), .glo (PySem.Str.ofString "all_exchanges"), .glo (PySem.Str.ofString "exchanges"), .glo (PySem.Str.ofString "check_sum"), .glo (PySem.Str.ofString "is_chain"), .glo (PySem.Str.ofString "shortest_chain"), .glo (PySem.Str.ofString "_law_mixed")]
def fa1 : List He.Fa := [.glo (PySem.Str.ofString "_law_numbers"), .glo (PySem.Str.ofString "_law_draw"), .glo (PySem.Str.ofString "_law_equal"), .glo (PySem.Str.ofString "_law_all_equal"), .glo (PySem.Str.ofString "_law_rules"), .glo (PySem.Str.ofString "_law_has"), .glo (PySem.Str.ofString "_law_put"), .glo (PySem.Str.ofString "_law_exchanges"), .glo (PySem.Str.ofString "_law_is_chain"), .glo (PySem.Str.ofString "_law_shortest"), .glo (PySem.Str.ofString "_law_error"), .glo (PySem.Str.ofString "_law_walked"), .glo (PySem.Str.ofString "law"), .glo (PySem.Str.ofString "BadProgram"), .glo (PySem.Str.ofString "BadStanding"), .glo (PySem.Str.ofString "BadArgument"), .exc (PySem.Str.ofString "BadProgram"), .exc (PySem.Str.ofString "BadStanding"), .exc (PySem.Str.ofString "BadArgument"), .exm (PySem.Str.ofString "BadProgram") (PySem.Str.ofString "BadProgram") true, .exm (PySem.Str.ofString "BadProgram") (PySem.Str.ofString "BadStanding") false, .exm (PySem.Str.ofString "BadProgram") (PySem.Str.ofString "BadArgument") false, .exm (PySem.Str.ofString "BadStanding") (PySem.Str.ofString "BadProgram") false, .exm (PySem.Str.ofString "BadStanding") (PySem.Str.ofString "BadStanding") true, .exm (PySem.Str.ofString "BadStanding") (PySem.Str.ofString "BadArgument") false, .exm (PySem.Str.ofString "BadArgument") (PySem.Str.ofString "BadProgram") false, .exm (PySem.Str.ofString "BadArgument") (PySem.Str.ofString "BadStanding") false, .exm (PySem.Str.ofString "BadArgument") (PySem.Str.ofString "BadArgument") true]
def faL : List He.Fa := fa0 ++ fa1
def dd0 : He.DefD := ⟨(PySem.Str.ofString "is_within", none), PySem.Str.ofString "is_within", PySem.Str.ofString "is_within", defArgs s0, defBody s0, defScope s0, [], []⟩
def dd1 : He.DefD := ⟨(PySem.Str.ofString "is_tuple", none), PySem.Str.ofString "is_tuple", PySem.Str.ofString "is_tuple", defArgs s1, defBody s1, defScope s1, [], []⟩
def dd2 : He.DefD := ⟨(PySem.Str.ofString "is_bag_of", none), PySem.Str.ofString "is_bag_of", PySem.Str.ofString "is_bag_of", defArgs s2, defBody s2, defScope s2, [], []⟩
def dd3 : He.DefD := ⟨(PySem.Str.ofString "check_rules", none), PySem.Str.ofString "check_rules", PySem.Str.ofString "check_rules", defArgs s3, defBody s3, defScope s3, [], []⟩
def dd4 : He.DefD := ⟨(PySem.Str.ofString "check_bag", none), PySem.Str.ofString "check_bag", PySem.Str.ofString "check_bag", defArgs s4, defBody s4, defScope s4, [], []⟩
def dd5 : He.DefD := ⟨(PySem.Str.ofString "is_within_bag", none), PySem.Str.ofString "is_within_bag", PySem.Str.ofString "is_within_bag", defArgs s5, defBody s5, defScope s5, [], []⟩
def dd6 : He.DefD := ⟨(PySem.Str.ofString "put_for", none), PySem.Str.ofString "put_for", PySem.Str.ofString "put_for", defArgs s6, defBody s6, defScope s6, [], []⟩
def dd7 : He.DefD := ⟨(PySem.Str.ofString "all_exchanges", none), PySem.Str.ofString "all_exchanges", PySem.Str.ofString "all_exchanges", defArgs s7, defBody s7, defScope s7, [], []⟩
def dd8 : He.DefD := ⟨(PySem.Str.ofString "exchanges", none), PySem.Str.ofString "exchanges", PySem.Str.ofString "exchanges", defArgs s8, defBody s8, defScope s8, [], []⟩
def dd9 : He.DefD := ⟨(PySem.Str.ofString "check_sum", none), PySem.Str.ofString "check_sum", PySem.Str.ofString "check_sum", defArgs s9, defBody s9, defScope s9, [], []⟩
def dd10 : He.DefD := ⟨(PySem.Str.ofString "is_chain", none), PySem.Str.ofString "is_chain", PySem.Str.ofString "is_chain", defArgs s10, defBody s10, defScope s10, [], []⟩
def dd11 : He.DefD := ⟨(PySem.Str.ofString "shortest_chain", none), PySem.Str.ofString "shortest_chain", PySem.Str.ofString "shortest_chain", defArgs s11, defBody s11, defScope s11, [], []⟩
def dd12 : He.DefD := ⟨(PySem.Str.ofString "_law_mixed", none), PySem.Str.ofString "_law_mixed", PySem.Str.ofString "_law_mixed", defArgs s12, defBody s12, defScope s12, [], []⟩
def dd13 : He.DefD := ⟨(PySem.Str.ofString "_law_numbers", none), PySem.Str.ofString "_law_numbers", PySem.Str.ofString "_law_numbers", defArgs s13, defBody s13, defScope s13, [], []⟩
def dd14 : He.DefD := ⟨(PySem.Str.ofString "_law_draw", none), PySem.Str.ofString "_law_draw", PySem.Str.ofString "_law_draw", defArgs s14, defBody s14, defScope s14, [], []⟩
def dd15 : He.DefD := ⟨(PySem.Str.ofString "_law_equal", none), PySem.Str.ofString "_law_equal", PySem.Str.ofString "_law_equal", defArgs s15, defBody s15, defScope s15, [], []⟩
def dd16 : He.DefD := ⟨(PySem.Str.ofString "_law_all_equal", none), PySem.Str.ofString "_law_all_equal", PySem.Str.ofString "_law_all_equal", defArgs s16, defBody s16, defScope s16, [], []⟩
def dd17 : He.DefD := ⟨(PySem.Str.ofString "_law_rules", none), PySem.Str.ofString "_law_rules", PySem.Str.ofString "_law_rules", defArgs s17, defBody s17, defScope s17, [], []⟩
def dd18 : He.DefD := ⟨(PySem.Str.ofString "_law_has", none), PySem.Str.ofString "_law_has", PySem.Str.ofString "_law_has", defArgs s18, defBody s18, defScope s18, [], []⟩
def dd19 : He.DefD := ⟨(PySem.Str.ofString "_law_put", none), PySem.Str.ofString "_law_put", PySem.Str.ofString "_law_put", defArgs s19, defBody s19, defScope s19, [], []⟩
def dd20 : He.DefD := ⟨(PySem.Str.ofString "_law_exchanges", none), PySem.Str.ofString "_law_exchanges", PySem.Str.ofString "_law_exchanges", defArgs s20, defBody s20, defScope s20, [], []⟩
def dd21 : He.DefD := ⟨(PySem.Str.ofString "_law_is_chain", none), PySem.Str.ofString "_law_is_chain", PySem.Str.ofString "_law_is_chain", defArgs s21, defBody s21, defScope s21, [], []⟩
def dd22 : He.DefD := ⟨(PySem.Str.ofString "_law_shortest", none), PySem.Str.ofString "_law_shortest", PySem.Str.ofString "_law_shortest", defArgs s22, defBody s22, defScope s22, [], []⟩
def dd23 : He.DefD := ⟨(PySem.Str.ofString "_law_error", none), PySem.Str.ofString "_law_error", PySem.Str.ofString "_law_error", defArgs s23, defBody s23, defScope s23, [], []⟩
def dd24 : He.DefD := ⟨(PySem.Str.ofString "_law_walked", none), PySem.Str.ofString "_law_walked", PySem.Str.ofString "_law_walked", defArgs s24, defBody s24, defScope s24, [], []⟩
def dd25 : He.DefD := ⟨(PySem.Str.ofString "law", none), PySem.Str.ofString "law", PySem.Str.ofString "law", defArgs s25, defBody s25, defScope s25, [], []⟩
def fnL : List He.DefD := [dd0, dd1, dd2, dd3, dd4, dd5, dd6, dd7, dd8, dd9, dd10, dd11, dd12, dd13, dd14, dd15, dd16, dd17, dd18, dd19, dd20, dd21, dd22, dd23, dd24, dd25]
def nm0 : List Str := [PySem.Str.ofString "EverypurseError", PySem.Str.ofString "BadProgram", PySem.Str.ofString "BadStanding", PySem.Str.ofString "BadArgument", PySem.Str.ofString "is_within", PySem.Str.ofString "is_tuple", PySem.Str.ofString "MOST_KINDS", PySem.Str.ofString "MOST_RULES", PySem.Str.ofString "MOST_PART", PySem.Str.ofString "MOST_BAG", PySem.Str.ofString "MOST_SUM", PySem.Str.ofString "is_bag_of", PySem.Str.ofString "check_rules", PySem.Str.ofString "check_bag", PySem.Str.ofString "is_within_bag", PySem.Str.ofString "put_for", PySem.Str.ofString "all_exchanges", PySem.Str.ofString "exchanges", PySem.Str.ofString "check_sum", PySem.Str.ofString "is_chain", PySem.Str.ofString "shortest_chain", PySem.Str.ofString "_law_mixed", PySem.Str.ofString "_law_numbers", PySem.Str.ofString "_law_draw", PySem.Str.ofString "_law_equal", PySem.Str.ofString "_law_all_equal", PySem.Str.ofString "_law_rules", PySem.Str.ofString "_law_small", PySem.Str.ofString "_law_has", PySem.Str.ofString "_law_put"]
def nm1 : List Str := [PySem.Str.ofString "_law_key", PySem.Str.ofString "_law_down", PySem.Str.ofString "_law_led", PySem.Str.ofString "_law_thinned", PySem.Str.ofString "_law_apart", PySem.Str.ofString "_law_full", PySem.Str.ofString "_law_exchanges", PySem.Str.ofString "_law_bags", PySem.Str.ofString "_law_is_chain", PySem.Str.ofString "_law_shortest", PySem.Str.ofString "_law_error", PySem.Str.ofString "_law_walked"]
def nmL : List Str := nm0 ++ nm1
abbrev R : PySem.W.OpenRow := PySem.W.OpenLaw.row PySem.Challenge.rw_everypurse_k40_exchanges_and_chains
abbrev hk : PySem.W.Hook := hookY 6 faL fnL
def ob (s : PySem.W.SharedT) : He.AlD × Bool := obY 6 faL fnL (HandSHeadRun.getT s)
theorem ob_eq (s : PySem.W.SharedT) : ob s = hk.obs s.abs := obY_eq (HandSHeadRun.getT_eq s)
theorem run (w : World) : HandSHeadRun.RunEq R (PySem.W.view R.prog [46]) hk ob 20000 nmL w := by
  intro os
  kernel_rfl
def faX (K : PySem.W.Frag) : Nat → Addr
  | 0 => He.ga K (PySem.Str.ofString "is_within")
  | 1 => He.ga K (PySem.Str.ofString "is_tuple")
  | 2 => He.ga K (PySem.Str.ofString "is_bag_of")
  | 3 => He.ga K (PySem.Str.ofString "check_rules")
  | 4 => He.ga K (PySem.Str.ofString "check_bag")
  | 5 => He.ga K (PySem.Str.ofString "is_within_bag")
  | 6 => He.ga K (PySem.Str.ofString "put_for")
  | 7 => He.ga K (PySem.Str.ofString "all_exchanges")
  | 8 => He.ga K (PySem.Str.ofString "exchanges")
  | 9 => He.ga K (PySem.Str.ofString "check_sum")
  | 10 => He.ga K (PySem.Str.ofString "is_chain")
  | 11 => He.ga K (PySem.Str.ofString "shortest_chain")
  | 12 => He.ga K (PySem.Str.ofString "_law_mixed")
  | 13 => He.ga K (PySem.Str.ofString "_law_numbers")
  | 14 => He.ga K (PySem.Str.ofString "_law_draw")
  | 15 => He.ga K (PySem.Str.ofString "_law_equal")
  | 16 => He.ga K (PySem.Str.ofString "_law_all_equal")
  | 17 => He.ga K (PySem.Str.ofString "_law_rules")
  | 18 => He.ga K (PySem.Str.ofString "_law_has")
  | 19 => He.ga K (PySem.Str.ofString "_law_put")
  | 20 => He.ga K (PySem.Str.ofString "_law_exchanges")
  | 21 => He.ga K (PySem.Str.ofString "_law_is_chain")
  | 22 => He.ga K (PySem.Str.ofString "_law_shortest")
  | 23 => He.ga K (PySem.Str.ofString "_law_error")
  | 24 => He.ga K (PySem.Str.ofString "_law_walked")
  | 25 => He.ga K (PySem.Str.ofString "law")
  | _ => 0
def clX (K : PySem.W.Frag) : Nat → Addr
  | 0 => He.ga K (PySem.Str.ofString "BadProgram")
  | 1 => He.ga K (PySem.Str.ofString "BadStanding")
  | _ => He.ga K (PySem.Str.ofString "BadArgument")
theorem facts {P : Program} {w : World} {K : PySem.W.Frag} {h : Heap} {mg : Str → Option Value} {f : Addr} {n : Nat} (X : K.In h) (Gn : h.Ns mainGlobals mg) (hfa : mg (PySem.Str.ofString "law") = some (.ref f)) (c : He.SaysD faL fnL K) :
    ∃ fd : FuncData, (∀ (s : Shared) (v : Value), BindsTo s fd ⟨[v], []⟩ [(PySem.Str.ofString "script", v)]) ∧ ∀ base : Heap, K.In base → base.Ns mainGlobals mg → FnOk P w K mg base (L2.CX P w) n f fd [PySem.Str.ofString "script"] (spF (runF T n) [false] (clX K) 25) := by
  obtain ⟨fd0, F0⟩ := c.def_ 0 (d := dd0) rfl
  obtain ⟨fd1, F1⟩ := c.def_ 1 (d := dd1) rfl
  obtain ⟨fd2, F2⟩ := c.def_ 2 (d := dd2) rfl
  obtain ⟨fd3, F3⟩ := c.def_ 3 (d := dd3) rfl
  obtain ⟨fd4, F4⟩ := c.def_ 4 (d := dd4) rfl
  obtain ⟨fd5, F5⟩ := c.def_ 5 (d := dd5) rfl
  obtain ⟨fd6, F6⟩ := c.def_ 6 (d := dd6) rfl
  obtain ⟨fd7, F7⟩ := c.def_ 7 (d := dd7) rfl
  obtain ⟨fd8, F8⟩ := c.def_ 8 (d := dd8) rfl
  obtain ⟨fd9, F9⟩ := c.def_ 9 (d := dd9) rfl
  obtain ⟨fd10, F10⟩ := c.def_ 10 (d := dd10) rfl
  obtain ⟨fd11, F11⟩ := c.def_ 11 (d := dd11) rfl
  obtain ⟨fd12, F12⟩ := c.def_ 12 (d := dd12) rfl
  obtain ⟨fd13, F13⟩ := c.def_ 13 (d := dd13) rfl
  obtain ⟨fd14, F14⟩ := c.def_ 14 (d := dd14) rfl
  obtain ⟨fd15, F15⟩ := c.def_ 15 (d := dd15) rfl
  obtain ⟨fd16, F16⟩ := c.def_ 16 (d := dd16) rfl
  obtain ⟨fd17, F17⟩ := c.def_ 17 (d := dd17) rfl
  obtain ⟨fd18, F18⟩ := c.def_ 18 (d := dd18) rfl
  obtain ⟨fd19, F19⟩ := c.def_ 19 (d := dd19) rfl
  obtain ⟨fd20, F20⟩ := c.def_ 20 (d := dd20) rfl
  obtain ⟨fd21, F21⟩ := c.def_ 21 (d := dd21) rfl
  obtain ⟨fd22, F22⟩ := c.def_ 22 (d := dd22) rfl
  obtain ⟨fd23, F23⟩ := c.def_ 23 (d := dd23) rfl
  obtain ⟨fd24, F24⟩ := c.def_ 24 (d := dd24) rfl
  obtain ⟨fd25, F25⟩ := c.def_ 25 (d := dd25) rfl
  have e := hfa.symm.trans (He.glo_ok X Gn (c.fact 42 (f := .glo (PySem.Str.ofString "law")) rfl))
  cases e
  let fdat : Nat → FuncData := fun i => match i with
    | 0 => fd0
    | 1 => fd1
    | 2 => fd2
    | 3 => fd3
    | 4 => fd4
    | 5 => fd5
    | 6 => fd6
    | 7 => fd7
    | 8 => fd8
    | 9 => fd9
    | 10 => fd10
    | 11 => fd11
    | 12 => fd12
    | 13 => fd13
    | 14 => fd14
    | 15 => fd15
    | 16 => fd16
    | 17 => fd17
    | 18 => fd18
    | 19 => fd19
    | 20 => fd20
    | 21 => fd21
    | 22 => fd22
    | 23 => fd23
    | 24 => fd24
    | 25 => fd25
    | _ => fd0
  have G : Fx K mg (faX K) fdat (clX K) := {
    m_bool := He.free_ok X Gn (c.fact 0 (f := .free (PySem.Str.ofString "bool")) rfl)
    m_int := He.free_ok X Gn (c.fact 1 (f := .free (PySem.Str.ofString "int")) rfl)
    m_isinstance := He.free_ok X Gn (c.fact 2 (f := .free (PySem.Str.ofString "isinstance")) rfl)
    m_len := He.free_ok X Gn (c.fact 3 (f := .free (PySem.Str.ofString "len")) rfl)
    m_list := He.free_ok X Gn (c.fact 4 (f := .free (PySem.Str.ofString "list")) rfl)
    m_max := He.free_ok X Gn (c.fact 5 (f := .free (PySem.Str.ofString "max")) rfl)
    m_min := He.free_ok X Gn (c.fact 6 (f := .free (PySem.Str.ofString "min")) rfl)
    m_range := He.free_ok X Gn (c.fact 7 (f := .free (PySem.Str.ofString "range")) rfl)
    m_sorted := He.free_ok X Gn (c.fact 8 (f := .free (PySem.Str.ofString "sorted")) rfl)
    m_str := He.free_ok X Gn (c.fact 9 (f := .free (PySem.Str.ofString "str")) rfl)
    m_sum := He.free_ok X Gn (c.fact 10 (f := .free (PySem.Str.ofString "sum")) rfl)
    m_tuple := He.free_ok X Gn (c.fact 11 (f := .free (PySem.Str.ofString "tuple")) rfl)
    c_MOST_KINDS := He.int_ok X Gn (c.fact 12 (f := .int (PySem.Str.ofString "MOST_KINDS") 3) rfl)
    c_MOST_RULES := He.int_ok X Gn (c.fact 13 (f := .int (PySem.Str.ofString "MOST_RULES") 4) rfl)
    c_MOST_PART := He.int_ok X Gn (c.fact 14 (f := .int (PySem.Str.ofString "MOST_PART") 4) rfl)
    c_MOST_BAG := He.int_ok X Gn (c.fact 15 (f := .int (PySem.Str.ofString "MOST_BAG") 60) rfl)
    c_MOST_SUM := He.int_ok X Gn (c.fact 16 (f := .int (PySem.Str.ofString "MOST_SUM") 30) rfl)
    g_0 := He.glo_ok X Gn (c.fact 17 (f := .glo (PySem.Str.ofString "is_within")) rfl)
    k_0 := F0.kp
    b_0 := FunD.bindsN F0 fun _ _ _ _ _ _ us hl => match us, hl with | [_, _, _], _ => rfl
    F_0 := F0
    g_1 := He.glo_ok X Gn (c.fact 18 (f := .glo (PySem.Str.ofString "is_tuple")) rfl)
    k_1 := F1.kp
    b_1 := FunD.bindsN F1 fun _ _ _ _ _ _ us hl => match us, hl with | [_, _], _ => rfl
    F_1 := F1
    g_2 := He.glo_ok X Gn (c.fact 19 (f := .glo (PySem.Str.ofString "is_bag_of")) rfl)
    k_2 := F2.kp
    b_2 := FunD.bindsN F2 fun _ _ _ _ _ _ us hl => match us, hl with | [_, _, _], _ => rfl
    F_2 := F2
    g_3 := He.glo_ok X Gn (c.fact 20 (f := .glo (PySem.Str.ofString "check_rules")) rfl)
    k_3 := F3.kp
    b_3 := FunD.bindsN F3 fun _ _ _ _ _ _ us hl => match us, hl with | [_], _ => rfl
    F_3 := F3
    g_4 := He.glo_ok X Gn (c.fact 21 (f := .glo (PySem.Str.ofString "check_bag")) rfl)
    k_4 := F4.kp
    b_4 := FunD.bindsN F4 fun _ _ _ _ _ _ us hl => match us, hl with | [_, _], _ => rfl
    F_4 := F4
    g_5 := He.glo_ok X Gn (c.fact 22 (f := .glo (PySem.Str.ofString "is_within_bag")) rfl)
    k_5 := F5.kp
    b_5 := FunD.bindsN F5 fun _ _ _ _ _ _ us hl => match us, hl with | [_, _], _ => rfl
    F_5 := F5
    g_6 := He.glo_ok X Gn (c.fact 23 (f := .glo (PySem.Str.ofString "put_for")) rfl)
    k_6 := F6.kp
    b_6 := FunD.bindsN F6 fun _ _ _ _ _ _ us hl => match us, hl with | [_, _, _], _ => rfl
    F_6 := F6
    g_7 := He.glo_ok X Gn (c.fact 24 (f := .glo (PySem.Str.ofString "all_exchanges")) rfl)
    k_7 := F7.kp
    b_7 := FunD.bindsN F7 fun _ _ _ _ _ _ us hl => match us, hl with | [_, _], _ => rfl
    F_7 := F7
    g_8 := He.glo_ok X Gn (c.fact 25 (f := .glo (PySem.Str.ofString "exchanges")) rfl)
    k_8 := F8.kp
    b_8 := FunD.bindsN F8 fun _ _ _ _ _ _ us hl => match us, hl with | [_, _], _ => rfl
    F_8 := F8
    g_9 := He.glo_ok X Gn (c.fact 26 (f := .glo (PySem.Str.ofString "check_sum")) rfl)
    k_9 := F9.kp
    b_9 := FunD.bindsN F9 fun _ _ _ _ _ _ us hl => match us, hl with | [_], _ => rfl
    F_9 := F9
    g_10 := He.glo_ok X Gn (c.fact 27 (f := .glo (PySem.Str.ofString "is_chain")) rfl)
    k_10 := F10.kp
    b_10 := FunD.bindsN F10 fun _ _ _ _ _ _ us hl => match us, hl with | [_, _], _ => rfl
    F_10 := F10
    g_11 := He.glo_ok X Gn (c.fact 28 (f := .glo (PySem.Str.ofString "shortest_chain")) rfl)
    k_11 := F11.kp
    b_11 := FunD.bindsN F11 fun _ _ _ _ _ _ us hl => match us, hl with | [_, _, _, _], _ => rfl
    F_11 := F11
    g_12 := He.glo_ok X Gn (c.fact 29 (f := .glo (PySem.Str.ofString "_law_mixed")) rfl)
    k_12 := F12.kp
    b_12 := FunD.bindsN F12 fun _ _ _ _ _ _ us hl => match us, hl with | [_, _], _ => rfl
    F_12 := F12
    g_13 := He.glo_ok X Gn (c.fact 30 (f := .glo (PySem.Str.ofString "_law_numbers")) rfl)
    k_13 := F13.kp
    b_13 := FunD.bindsN F13 fun _ _ _ _ _ _ us hl => match us, hl with | [_], _ => rfl
    F_13 := F13
    g_14 := He.glo_ok X Gn (c.fact 31 (f := .glo (PySem.Str.ofString "_law_draw")) rfl)
    k_14 := F14.kp
    b_14 := FunD.bindsN F14 fun _ _ _ _ _ _ us hl => match us, hl with | [_], _ => rfl
    F_14 := F14
    g_15 := He.glo_ok X Gn (c.fact 32 (f := .glo (PySem.Str.ofString "_law_equal")) rfl)
    k_15 := F15.kp
    b_15 := FunD.bindsN F15 fun _ _ _ _ _ _ us hl => match us, hl with | [_, _], _ => rfl
    F_15 := F15
    g_16 := He.glo_ok X Gn (c.fact 33 (f := .glo (PySem.Str.ofString "_law_all_equal")) rfl)
    k_16 := F16.kp
    b_16 := FunD.bindsN F16 fun _ _ _ _ _ _ us hl => match us, hl with | [_, _], _ => rfl
    F_16 := F16
    g_17 := He.glo_ok X Gn (c.fact 34 (f := .glo (PySem.Str.ofString "_law_rules")) rfl)
    k_17 := F17.kp
    b_17 := FunD.bindsN F17 fun _ _ _ _ _ _ us hl => match us, hl with | [_, _, _, _], _ => rfl
    F_17 := F17
    g_18 := He.glo_ok X Gn (c.fact 35 (f := .glo (PySem.Str.ofString "_law_has")) rfl)
    k_18 := F18.kp
    b_18 := FunD.bindsN F18 fun _ _ _ _ _ _ us hl => match us, hl with | [_, _], _ => rfl
    F_18 := F18
    g_19 := He.glo_ok X Gn (c.fact 36 (f := .glo (PySem.Str.ofString "_law_put")) rfl)
    k_19 := F19.kp
    b_19 := FunD.bindsN F19 fun _ _ _ _ _ _ us hl => match us, hl with | [_, _, _], _ => rfl
    F_19 := F19
    g_20 := He.glo_ok X Gn (c.fact 37 (f := .glo (PySem.Str.ofString "_law_exchanges")) rfl)
    k_20 := F20.kp
    b_20 := FunD.bindsN F20 fun _ _ _ _ _ _ us hl => match us, hl with | [_, _], _ => rfl
    F_20 := F20
    g_21 := He.glo_ok X Gn (c.fact 38 (f := .glo (PySem.Str.ofString "_law_is_chain")) rfl)
    k_21 := F21.kp
    b_21 := FunD.bindsN F21 fun _ _ _ _ _ _ us hl => match us, hl with | [_, _], _ => rfl
    F_21 := F21
    g_22 := He.glo_ok X Gn (c.fact 39 (f := .glo (PySem.Str.ofString "_law_shortest")) rfl)
    k_22 := F22.kp
    b_22 := FunD.bindsN F22 fun _ _ _ _ _ _ us hl => match us, hl with | [_, _, _, _], _ => rfl
    F_22 := F22
    g_23 := He.glo_ok X Gn (c.fact 40 (f := .glo (PySem.Str.ofString "_law_error")) rfl)
    k_23 := F23.kp
    b_23 := FunD.bindsN F23 fun _ _ _ _ _ _ us hl => match us, hl with | [_, _, _, _, _], _ => rfl
    F_23 := F23
    g_24 := He.glo_ok X Gn (c.fact 41 (f := .glo (PySem.Str.ofString "_law_walked")) rfl)
    k_24 := F24.kp
    b_24 := FunD.bindsN F24 fun _ _ _ _ _ _ us hl => match us, hl with | [_, _, _, _], _ => rfl
    F_24 := F24
    g_25 := He.glo_ok X Gn (c.fact 42 (f := .glo (PySem.Str.ofString "law")) rfl)
    k_25 := F25.kp
    b_25 := FunD.bindsN F25 fun _ _ _ _ _ _ us hl => match us, hl with | [_], _ => rfl
    F_25 := F25
    gx_0 := He.glo_ok X Gn (c.fact 43 (f := .glo (PySem.Str.ofString "BadProgram")) rfl)
    q_0 := (He.exc_ok (c.fact 46 (f := .exc (PySem.Str.ofString "BadProgram")) rfl)).1
    kx_0 := (He.exc_ok (c.fact 46 (f := .exc (PySem.Str.ofString "BadProgram")) rfl)).2.1
    sx_0 := (He.exc_ok (c.fact 46 (f := .exc (PySem.Str.ofString "BadProgram")) rfl)).2.2.1
    tx_0 := (He.exc_ok (c.fact 46 (f := .exc (PySem.Str.ofString "BadProgram")) rfl)).2.2.2
    gx_1 := He.glo_ok X Gn (c.fact 44 (f := .glo (PySem.Str.ofString "BadStanding")) rfl)
    q_1 := (He.exc_ok (c.fact 47 (f := .exc (PySem.Str.ofString "BadStanding")) rfl)).1
    kx_1 := (He.exc_ok (c.fact 47 (f := .exc (PySem.Str.ofString "BadStanding")) rfl)).2.1
    sx_1 := (He.exc_ok (c.fact 47 (f := .exc (PySem.Str.ofString "BadStanding")) rfl)).2.2.1
    tx_1 := (He.exc_ok (c.fact 47 (f := .exc (PySem.Str.ofString "BadStanding")) rfl)).2.2.2
    gx_2 := He.glo_ok X Gn (c.fact 45 (f := .glo (PySem.Str.ofString "BadArgument")) rfl)
    q_2 := (He.exc_ok (c.fact 48 (f := .exc (PySem.Str.ofString "BadArgument")) rfl)).1
    kx_2 := (He.exc_ok (c.fact 48 (f := .exc (PySem.Str.ofString "BadArgument")) rfl)).2.1
    sx_2 := (He.exc_ok (c.fact 48 (f := .exc (PySem.Str.ofString "BadArgument")) rfl)).2.2.1
    tx_2 := (He.exc_ok (c.fact 48 (f := .exc (PySem.Str.ofString "BadArgument")) rfl)).2.2.2
    sub := fun a b => match a, b with
      | 0, 0 => He.exm_ok (c.fact 49 (f := .exm (PySem.Str.ofString "BadProgram") (PySem.Str.ofString "BadProgram") true) rfl)
      | 0, 1 => He.exm_ok (c.fact 50 (f := .exm (PySem.Str.ofString "BadProgram") (PySem.Str.ofString "BadStanding") false) rfl)
      | 0, _ + 2 => He.exm_ok (c.fact 51 (f := .exm (PySem.Str.ofString "BadProgram") (PySem.Str.ofString "BadArgument") false) rfl)
      | 1, 0 => He.exm_ok (c.fact 52 (f := .exm (PySem.Str.ofString "BadStanding") (PySem.Str.ofString "BadProgram") false) rfl)
      | 1, 1 => He.exm_ok (c.fact 53 (f := .exm (PySem.Str.ofString "BadStanding") (PySem.Str.ofString "BadStanding") true) rfl)
      | 1, _ + 2 => He.exm_ok (c.fact 54 (f := .exm (PySem.Str.ofString "BadStanding") (PySem.Str.ofString "BadArgument") false) rfl)
      | _ + 2, 0 => He.exm_ok (c.fact 55 (f := .exm (PySem.Str.ofString "BadArgument") (PySem.Str.ofString "BadProgram") false) rfl)
      | _ + 2, 1 => He.exm_ok (c.fact 56 (f := .exm (PySem.Str.ofString "BadArgument") (PySem.Str.ofString "BadStanding") false) rfl)
      | _ + 2, _ + 2 => He.exm_ok (c.fact 57 (f := .exm (PySem.Str.ofString "BadArgument") (PySem.Str.ofString "BadArgument") true) rfl) }
  have b := FunD.bindsA (ps := [PySem.Str.ofString "script"]) F25 fun _ _ _ _ _ _ us hl => match us, hl with | [_], _ => rfl
  exact ⟨fd25, fun s v => b s [v] rfl, fun base _ _ => all_ok G n 25⟩
end K40
end

section
set_option Elab.async false
set_option linter.all false
set_option maxRecDepth 100000
set_option autoImplicit false
namespace DL
open PySem hiding exec execs settle finish
open PySem.W
/-! the evaluator, form by form, for simp -/
section
variable (c : Cal) (x : Env0) (ρ : Rho)
/-- what comes behind is left alone until the first part is known -/
inductive Tg1 {α β : Type} (f : α → Rho → R β) : Type
  | mk : Tg1 f
def bw {α β : Type} (r : R α) (f : α → Rho → R β) (_ : Tg1 f) : R β := r.bind f
@[simp] theorem bw_ok {α β : Type} (a : α) (f : α → Rho → R β) (t : Tg1 f) : bw (.ok a ρ) f t = f a ρ := id rfl
@[simp] theorem bw_exc {α β : Type} (a : Nat) (f : α → Rho → R β) (t : Tg1 f) : bw (.exc a ρ) f t = .exc a ρ := id rfl
theorem bw_eq {α β : Type} (r : R α) (f : α → Rho → R β) (t : Tg1 f) : bw r f t = r.bind f := rfl
@[simp] theorem bw_bw {α β γ : Type} (r : R α) (f : α → Rho → R β) (g : β → Rho → R γ) (t : Tg1 f) (u : Tg1 g) : bw (bw r f t) g u = bw r (fun a ρ => bw (f a ρ) g .mk) .mk := by
  cases r <;> rfl
@[simp] theorem ofP (p : Rho → R Out) : (Ev.of p).P = p := id rfl
@[simp] theorem ofT (p : Rho → R Out) : (Ev.of p).T = fun ρ => (p ρ).bind fun x ρ1 => (derefR (settle x) ρ1).bind fun d _ => R.opt (truD d) ρ1 := id rfl
@[simp] theorem settle_fz (d : D) : settle (.fz d) = .fz d := id rfl
@[simp] theorem settle_slot (i : Nat) : settle (.slot i) = .slot i := id rfl
@[simp] theorem settle_fresh (d : D) : settle (.fresh d) = .fz d := id rfl
@[simp] theorem derefR_fz (d : D) : derefR (.fz d) ρ = .ok d ρ := id rfl
@[simp] theorem deref_fz (d : D) : deref (.fz d) ρ = some d := id rfl
@[simp] theorem deref_fresh (d : D) : deref (.fresh d) ρ = some d := id rfl
@[simp] theorem esc_fz (d : D) : esc (.fz d) ρ = .ok d ρ := id rfl
@[simp] theorem esc_fresh (d : D) : esc (.fresh d) ρ = .ok d ρ := id rfl
@[simp] theorem retD_f (d : D) : retD false d = .fz d := id rfl
@[simp] theorem retD_t (d : D) : retD true d = .fresh d := id rfl
@[simp] theorem optO_some (fr : Bool) (d : D) : R.optO (some (fr, d)) ρ = .ok (retD fr d) ρ := id rfl
@[simp] theorem optO_none : R.optO none ρ = .bad := id rfl
@[simp] theorem noexc_ok {α : Type} (a : α) : noexc (R.ok a ρ) = .ok a ρ := id rfl
@[simp] theorem onR_ok {α : Type} (f : Rho → Rho) (a : α) : onR f (R.ok a ρ) = .ok a (f ρ) := id rfl
@[simp] theorem onR_exc {α : Type} (f : Rho → Rho) (a : Nat) : onR f (R.exc a ρ : R α) = .exc a (f ρ) := id rfl
theorem deref_slot (i : Nat) : deref (.slot i) ρ = match ρ[i]? with
    | some (.fz d) => some d
    | some (.ow d) => some d
    | some (.io d) => some d
    | some (.lent d) => some d
    | _ => none := rfl
theorem esc_slot (i : Nat) : esc (.slot i) ρ = match ρ[i]? with
    | some (.fz d) => .ok d ρ
    | some (.ow d) => .ok d (ρ.set i (.fz d))
    | _ => .bad := rfl
@[simp] theorem ev_con (d : D) : (ev c (.con d)).P ρ = .ok (.fz d) ρ := by rw [ev] <;> rfl
@[simp] theorem evT_con (d : D) : (ev c (.con d)).T ρ = bw ((ev c (.con d)).P ρ) (fun x ρ1 => bw (derefR (settle x) ρ1) (fun d _ => R.opt (truD d) ρ1) .mk) .mk := by rw [ev] <;> rfl
def varK (i : Nat) (ρ : Rho) (o : Option Sl) : R Out := match o with
  | some (.fz d) => .ok (.fz d) ρ
  | some (.ow _) => .ok (.slot i) ρ
  | some (.io _) => .ok (.slot i) ρ
  | some (.lent _) => .ok (.slot i) ρ
  | _ => .bad
@[simp] theorem varK_fz (i : Nat) (d : D) : varK i ρ (some (.fz d)) = .ok (.fz d) ρ := id rfl
@[simp] theorem varK_ow (i : Nat) (d : D) : varK i ρ (some (.ow d)) = .ok (.slot i) ρ := id rfl
@[simp] theorem varK_io (i : Nat) (d : D) : varK i ρ (some (.io d)) = .ok (.slot i) ρ := id rfl
@[simp] theorem varK_lent (i : Nat) (d : D) : varK i ρ (some (.lent d)) = .ok (.slot i) ρ := id rfl
/-- an option, then on -/
inductive Tg2 {α β : Type} (f : α → R β) : Type
  | mk : Tg2 f
def oB {α β : Type} (o : Option α) (f : α → R β) (_ : Tg2 f) : R β := match o with
  | some a => f a
  | none => .bad
@[simp] theorem oB_some {α β : Type} (a : α) (f : α → R β) (t : Tg2 f) : oB (some a) f t = f a := id rfl
def derK (o : Option Sl) : Option D := match o with
  | some (.fz d) => some d
  | some (.ow d) => some d
  | some (.io d) => some d
  | some (.lent d) => some d
  | _ => none
@[simp] theorem derK_fz (d : D) : derK (some (.fz d)) = some d := id rfl
@[simp] theorem derK_ow (d : D) : derK (some (.ow d)) = some d := id rfl
@[simp] theorem derK_io (d : D) : derK (some (.io d)) = some d := id rfl
@[simp] theorem derK_lent (d : D) : derK (some (.lent d)) = some d := id rfl
def frB (md : List Bool) (os : List Out) (ρ : Rho) (o : Option FR) : R Out := match o with
  | none => .bad
  | some (.exc x outs) => oB ((afterC (flatO outs) (valSlots md os) ρ).bind (setOuts md os outs)) (fun ρ' => .exc x ρ') .mk
  | some (.ret fr d outs) => oB ((afterC (flatR fr d && flatO outs) (valSlots md os) ρ).bind (setOuts md os outs)) (fun ρ' => .ok (retD fr d) ρ') .mk
@[simp] theorem frB_exc (md : List Bool) (os : List Out) (x : Nat) (outs : List (Option D)) : frB md os ρ (some (.exc x outs)) = oB ((afterC (flatO outs) (valSlots md os) ρ).bind (setOuts md os outs)) (fun ρ' => .exc x ρ') .mk := id rfl
@[simp] theorem frB_ret (md : List Bool) (os : List Out) (fr : Bool) (d : D) (outs : List (Option D)) : frB md os ρ (some (.ret fr d outs)) = oB ((afterC (flatR fr d && flatO outs) (valSlots md os) ρ).bind (setOuts md os outs)) (fun ρ' => .ok (retD fr d) ρ') .mk := id rfl
def appK (i : Nat) (d : D) (ρ : Rho) (o : Option Sl) : R Out := match o with
  | some (.ow (.list xs)) => if xs.length < LIM then .ok (.fz .none) (ρ.set i (.ow (.list (xs ++ [d])))) else .bad
  | some (.io (.list xs)) => if xs.length < LIM then .ok (.fz .none) (ρ.set i (.io (.list (xs ++ [d])))) else .bad
  | _ => .bad
@[simp] theorem appK_ow (i : Nat) (d : D) (xs : List D) : appK i d ρ (some (.ow (.list xs))) = if xs.length < LIM then .ok (.fz .none) (ρ.set i (.ow (.list (xs ++ [d])))) else .bad := id rfl
@[simp] theorem appK_io (i : Nat) (d : D) (xs : List D) : appK i d ρ (some (.io (.list xs))) = if xs.length < LIM then .ok (.fz .none) (ρ.set i (.io (.list (xs ++ [d])))) else .bad := id rfl
def argT (ms : List Bool) (os : List Out) (ρ : Rho) (o : Option Sl) : Option (List D) := match o with
  | some (.ow d) => (argsD ms os ρ).map (d :: ·)
  | some (.io d) => (argsD ms os ρ).map (d :: ·)
  | _ => none
@[simp] theorem argT_ow (ms : List Bool) (os : List Out) (d : D) : argT ms os ρ (some (.ow d)) = (argsD ms os ρ).map (d :: ·) := id rfl
@[simp] theorem argT_io (ms : List Bool) (os : List Out) (d : D) : argT ms os ρ (some (.io d)) = (argsD ms os ρ).map (d :: ·) := id rfl
@[simp] theorem argsD_ts (ms : List Bool) (i : Nat) (os : List Out) : argsD (true :: ms) (.slot i :: os) ρ = argT ms os ρ ρ[i]? := id rfl
def outT (ms : List Bool) (i : Nat) (os : List Out) (d : D) (ds : List (Option D)) (ρ : Rho) (o : Option Sl) : Option Rho := match o with
  | some (.ow _) => setOuts ms os ds (ρ.set i (.ow d))
  | some (.io _) => setOuts ms os ds (ρ.set i (.io d))
  | _ => none
@[simp] theorem outT_ow (ms : List Bool) (i : Nat) (os : List Out) (d e : D) (ds : List (Option D)) : outT ms i os d ds ρ (some (.ow e)) = setOuts ms os ds (ρ.set i (.ow d)) := id rfl
@[simp] theorem outT_io (ms : List Bool) (i : Nat) (os : List Out) (d e : D) (ds : List (Option D)) : outT ms i os d ds ρ (some (.io e)) = setOuts ms os ds (ρ.set i (.io d)) := id rfl
@[simp] theorem setOuts_ts (ms : List Bool) (i : Nat) (os : List Out) (d : D) (ds : List (Option D)) : setOuts (true :: ms) (.slot i :: os) (some d :: ds) ρ = outT ms i os d ds ρ ρ[i]? := id rfl
def frzK (i : Nat) (is : List Nat) (ρ : Rho) (o : Option Sl) : Option Rho := match o with
  | some (.ow d) => freezeAll is (ρ.set i (.fz d))
  | some (.fz _) => freezeAll is ρ
  | _ => none
@[simp] theorem frzK_ow (i : Nat) (is : List Nat) (d : D) : frzK i is ρ (some (.ow d)) = freezeAll is (ρ.set i (.fz d)) := id rfl
@[simp] theorem frzK_fz (i : Nat) (is : List Nat) (d : D) : frzK i is ρ (some (.fz d)) = freezeAll is ρ := id rfl
@[simp] theorem freeze_s (i : Nat) (is : List Nat) : freezeAll (i :: is) ρ = frzK i is ρ ρ[i]? := id rfl
def escK (i : Nat) (ρ : Rho) (o : Option Sl) : R D := match o with
  | some (.fz d) => .ok d ρ
  | some (.ow d) => .ok d (ρ.set i (.fz d))
  | _ => .bad
@[simp] theorem escK_fz (i : Nat) (d : D) : escK i ρ (some (.fz d)) = .ok d ρ := id rfl
@[simp] theorem escK_ow (i : Nat) (d : D) : escK i ρ (some (.ow d)) = .ok d (ρ.set i (.fz d)) := id rfl
@[simp] theorem esc_s (i : Nat) : esc (.slot i) ρ = escK i ρ ρ[i]? := id rfl
def retK (i : Nat) (ρ : Rho) (o : Option Sl) : R Fl := match o with
  | some (.ow d) => .ok (.ret true d) (ρ.set i .no)
  | _ => .bad
@[simp] theorem retK_ow (i : Nat) (d : D) : retK i ρ (some (.ow d)) = .ok (.ret true d) (ρ.set i .no) := id rfl
@[simp] theorem retO_s (i : Nat) : retO (.slot i) ρ = retK i ρ ρ[i]? := id rfl
@[simp] theorem setO_s (i j : Nat) : setO i (.slot j) ρ = bw (esc (.slot j) ρ) (fun d ρ' => setS i (.fz d) ρ') .mk := id rfl
/-- a statement, then the others -/
inductive Tg3 (f : Rho → R Fl) : Type
  | mk : Tg3 f
def sq (r : R Fl) (f : Rho → R Fl) (_ : Tg3 f) : R Fl := match r with
  | .ok .next ρ1 => f ρ1
  | r => r
@[simp] theorem sq_next (f : Rho → R Fl) (t : Tg3 f) : sq (.ok .next ρ) f t = f ρ := id rfl
@[simp] theorem sq_ret (fr : Bool) (d : D) (f : Rho → R Fl) (t : Tg3 f) : sq (.ok (.ret fr d) ρ) f t = .ok (.ret fr d) ρ := id rfl
@[simp] theorem sq_brk (f : Rho → R Fl) (t : Tg3 f) : sq (.ok .brk ρ) f t = .ok .brk ρ := id rfl
@[simp] theorem sq_cont (f : Rho → R Fl) (t : Tg3 f) : sq (.ok .cont ρ) f t = .ok .cont ρ := id rfl
@[simp] theorem sq_exc (k : Nat) (f : Rho → R Fl) (t : Tg3 f) : sq (.exc k ρ) f t = .exc k ρ := id rfl
@[simp] theorem sq_bw {α : Type} (r : R α) (g : α → Rho → R Fl) (f : Rho → R Fl) (t : Tg1 g) (u : Tg3 f) : sq (bw r g t) f u = bw r (fun a ρ => sq (g a ρ) f .mk) .mk := by
  cases r <;> rfl
@[simp] theorem ev_var (i : Nat) : (ev c (.var i)).P ρ = varK i ρ ρ[i]? := by rw [ev] <;> rfl
@[simp] theorem evT_var (i : Nat) : (ev c (.var i)).T ρ = bw ((ev c (.var i)).P ρ) (fun x ρ1 => bw (derefR (settle x) ρ1) (fun d _ => R.opt (truD d) ρ1) .mk) .mk := by rw [ev] <;> rfl
@[simp] theorem ev_bin (o : Bop) (a b : E) : (ev c (.bin o a b)).P ρ = bw ((ev c a).P ρ) (fun x ρ1 => bw ((ev c b).P ρ1) (fun y ρ2 => bw (derefR (settle x) ρ2) (fun d _ => bw (derefR (settle y) ρ2) (fun e _ => R.optO (binD o d e) ρ2) .mk) .mk) .mk) .mk := by rw [ev] <;> rfl
@[simp] theorem evT_bin (o : Bop) (a b : E) : (ev c (.bin o a b)).T ρ = bw ((ev c (.bin o a b)).P ρ) (fun x ρ1 => bw (derefR (settle x) ρ1) (fun d _ => R.opt (truD d) ρ1) .mk) .mk := by rw [ev] <;> rfl
@[simp] theorem ev_neg (a : E) : (ev c (.neg a)).P ρ = bw ((ev c a).P ρ) (fun x ρ1 => bw (derefR (settle x) ρ1) (fun d _ => bw (R.opt (intD d) ρ1) (fun i _ => .ok (.fz (.int (-i))) ρ1) .mk) .mk) .mk := by rw [ev] <;> rfl
@[simp] theorem evT_neg (a : E) : (ev c (.neg a)).T ρ = bw ((ev c (.neg a)).P ρ) (fun x ρ1 => bw (derefR (settle x) ρ1) (fun d _ => R.opt (truD d) ρ1) .mk) .mk := by rw [ev] <;> rfl
@[simp] theorem ev_cmp (o : Cop) (a b : E) : (ev c (.cmp o a b)).P ρ = bw ((ev c a).P ρ) (fun x ρ1 => bw ((ev c b).P ρ1) (fun y ρ2 => bw (derefR (settle x) ρ2) (fun d _ => bw (derefR (settle y) ρ2) (fun e _ => bw (R.opt (cmpD o d e) ρ2) (fun k _ => .ok (.fz (.bool k)) ρ2) .mk) .mk) .mk) .mk) .mk := by rw [ev] <;> rfl
@[simp] theorem evT_cmp (o : Cop) (a b : E) : (ev c (.cmp o a b)).T ρ = bw ((ev c (.cmp o a b)).P ρ) (fun x ρ1 => bw (derefR (settle x) ρ1) (fun d _ => R.opt (truD d) ρ1) .mk) .mk := by rw [ev] <;> rfl
@[simp] theorem ev_chain (o1 o2 : Cop) (a b e : E) : (ev c (.chain o1 o2 a b e)).P ρ = bw ((ev c a).P ρ) (fun x ρ1 => bw ((ev c b).P ρ1) (fun y ρ2 => bw (derefR (settle x) ρ2) (fun d1 _ => bw (derefR (settle y) ρ2) (fun d2 _ => bw (R.opt (cmpD o1 d1 d2) ρ2) (fun k _ => if k then bw ((ev c e).P ρ2) (fun z ρ3 => bw (derefR (settle y) ρ3) (fun d2 _ => bw (derefR (settle z) ρ3) (fun d3 _ => bw (R.opt (cmpD o2 d2 d3) ρ3) (fun k _ => .ok (.fz (.bool k)) ρ3) .mk) .mk) .mk) .mk else .ok (.fz (.bool false)) ρ2) .mk) .mk) .mk) .mk) .mk := by rw [ev] <;> rfl
@[simp] theorem evT_chain (o1 o2 : Cop) (a b e : E) : (ev c (.chain o1 o2 a b e)).T ρ = bw ((ev c (.chain o1 o2 a b e)).P ρ) (fun x ρ1 => bw (derefR (settle x) ρ1) (fun d _ => R.opt (truD d) ρ1) .mk) .mk := by rw [ev] <;> rfl
@[simp] theorem ev_din (neg : Bool) (k d : E) : (ev c (.din neg k d)).P ρ = bw ((ev c k).P ρ) (fun x ρ1 => bw ((ev c d).P ρ1) (fun y ρ2 => bw (derefR (settle x) ρ2) (fun kd _ => bw (derefR (settle y) ρ2) (fun dd _ => bw (R.opt (lookD dd kd) ρ2) (fun o _ => .ok (.fz (.bool (if neg then !o.isSome else o.isSome))) ρ2) .mk) .mk) .mk) .mk) .mk := by rw [ev] <;> rfl
@[simp] theorem evT_din (neg : Bool) (k d : E) : (ev c (.din neg k d)).T ρ = bw ((ev c (.din neg k d)).P ρ) (fun x ρ1 => bw (derefR (settle x) ρ1) (fun d _ => R.opt (truD d) ρ1) .mk) .mk := by rw [ev] <;> rfl
def andK (o : Out) (r1 r2 : R Out) : R Out := match o with
  | .fz (.bool true) => r1
  | .fz (.bool false) => r2
  | _ => .bad
@[simp] theorem andK_t (r1 r2 : R Out) : andK (.fz (.bool true)) r1 r2 = r1 := id rfl
@[simp] theorem andK_f (r1 r2 : R Out) : andK (.fz (.bool false)) r1 r2 = r2 := id rfl
theorem andK_b (k : Bool) (r1 r2 : R Out) : andK (.fz (.bool k)) r1 r2 = if k then r1 else r2 := by cases k <;> rfl
def notK (o : Out) (ρ : Rho) : R Out := match o with
  | .fz (.bool k) => .ok (.fz (.bool (!k))) ρ
  | _ => .bad
@[simp] theorem notK_b (k : Bool) (ρ : Rho) : notK (.fz (.bool k)) ρ = .ok (.fz (.bool (!k))) ρ := id rfl
@[simp] theorem ev_and (a b : E) : (ev c (.and a b)).P ρ = bw ((ev c a).P ρ) (fun x ρ1 => andK (settle x) (bw ((ev c b).P ρ1) (fun y ρ2 => .ok (settle y) ρ2) .mk) (.ok (.fz (.bool false)) ρ1)) .mk := by 
  rw [ev]
  unfold bw
  dsimp only
  cases (ev c a).P ρ with
  | ok x ρ1 =>
    simp only [R.bind_ok]
    generalize settle x = o
    cases o with
    | fz d =>
      cases d with
      | bool k => cases k <;> rfl
      | _ => rfl
    | _ => rfl
  | _ => rfl
@[simp] theorem evT_and (a b : E) : (ev c (.and a b)).T ρ = bw ((ev c a).T ρ) (fun k ρ1 => if k then (ev c b).T ρ1 else .ok false ρ1) .mk := by rw [ev] <;> rfl
@[simp] theorem ev_or (a b : E) : (ev c (.or a b)).P ρ = bw ((ev c a).P ρ) (fun x ρ1 => andK (settle x) (.ok (.fz (.bool true)) ρ1) (bw ((ev c b).P ρ1) (fun y ρ2 => .ok (settle y) ρ2) .mk)) .mk := by 
  rw [ev]
  unfold bw
  dsimp only
  cases (ev c a).P ρ with
  | ok x ρ1 =>
    simp only [R.bind_ok]
    generalize settle x = o
    cases o with
    | fz d =>
      cases d with
      | bool k => cases k <;> rfl
      | _ => rfl
    | _ => rfl
  | _ => rfl
@[simp] theorem evT_or (a b : E) : (ev c (.or a b)).T ρ = bw ((ev c a).T ρ) (fun k ρ1 => if k then .ok true ρ1 else (ev c b).T ρ1) .mk := by rw [ev] <;> rfl
@[simp] theorem ev_not (a : E) : (ev c (.not a)).P ρ = bw ((ev c a).P ρ) (fun x ρ1 => notK (settle x) ρ1) .mk := by 
  rw [ev]
  unfold bw
  dsimp only
  cases (ev c a).P ρ with
  | ok x ρ1 =>
    simp only [R.bind_ok]
    generalize settle x = o
    cases o with
    | fz d => cases d <;> rfl
    | _ => rfl
  | _ => rfl
@[simp] theorem evT_not (a : E) : (ev c (.not a)).T ρ = bw ((ev c a).T ρ) (fun k ρ1 => .ok (!k) ρ1) .mk := by rw [ev] <;> rfl
@[simp] theorem ev_ite (t a b : E) : (ev c (.ite t a b)).P ρ = bw ((ev c t).T ρ) (fun k ρ1 => if k then bw ((ev c a).P ρ1) (fun y ρ2 => .ok (settle y) ρ2) .mk else bw ((ev c b).P ρ1) (fun y ρ2 => .ok (settle y) ρ2) .mk) .mk := by rw [ev] <;> rfl
@[simp] theorem evT_ite (t a b : E) : (ev c (.ite t a b)).T ρ = bw ((ev c (.ite t a b)).P ρ) (fun x ρ1 => bw (derefR (settle x) ρ1) (fun d _ => R.opt (truD d) ρ1) .mk) .mk := by rw [ev] <;> rfl
@[simp] theorem ev_tup (es : List E) : (ev c (.tup es)).P ρ = bw (evX c es ρ) (fun ds ρ1 => if ds.length ≤ LIM then .ok (.fz (.tuple ds)) ρ1 else .bad) .mk := by rw [ev] <;> rfl
@[simp] theorem evT_tup (es : List E) : (ev c (.tup es)).T ρ = bw ((ev c (.tup es)).P ρ) (fun x ρ1 => bw (derefR (settle x) ρ1) (fun d _ => R.opt (truD d) ρ1) .mk) .mk := by rw [ev] <;> rfl
@[simp] theorem ev_lst (es : List E) : (ev c (.lst es)).P ρ = bw (evX c es ρ) (fun ds ρ1 => if ds.length ≤ LIM then .ok (.fresh (.list ds)) ρ1 else .bad) .mk := by rw [ev] <;> rfl
@[simp] theorem evT_lst (es : List E) : (ev c (.lst es)).T ρ = bw ((ev c (.lst es)).P ρ) (fun x ρ1 => bw (derefR (settle x) ρ1) (fun d _ => R.opt (truD d) ρ1) .mk) .mk := by rw [ev] <;> rfl
@[simp] theorem ev_dnew (t : Bool) : (ev c (.dnew t)).P ρ = .ok (.fresh (.dict (if t then [(.none, .none)] else []))) ρ := by rw [ev] <;> rfl
@[simp] theorem evT_dnew (t : Bool) : (ev c (.dnew t)).T ρ = bw ((ev c (.dnew t)).P ρ) (fun x ρ1 => bw (derefR (settle x) ρ1) (fun d _ => R.opt (truD d) ρ1) .mk) .mk := by rw [ev] <;> rfl
@[simp] theorem ev_dsp1 (t : Bool) (k v : E) : (ev c (.dsp1 t k v)).P ρ = bw ((ev c k).P ρ) (fun x ρ1 => bw (esc (settle x) ρ1) (fun kd ρ1 => bw ((ev c v).P ρ1) (fun y ρ2 => bw (esc (settle y) ρ2) (fun vd ρ3 => if (if t then keyT kd else key1 kd) then .ok (.fresh (.dict (if t then [(.none, .none), (kd, vd)] else [(kd, vd)]))) ρ3 else .bad) .mk) .mk) .mk) .mk := by rw [ev] <;> rfl
@[simp] theorem evT_dsp1 (t : Bool) (k v : E) : (ev c (.dsp1 t k v)).T ρ = bw ((ev c (.dsp1 t k v)).P ρ) (fun x ρ1 => bw (derefR (settle x) ρ1) (fun d _ => R.opt (truD d) ρ1) .mk) .mk := by rw [ev] <;> rfl
@[simp] theorem ev_sub (a b : E) : (ev c (.sub a b)).P ρ = bw ((ev c a).P ρ) (fun x ρ1 => bw ((ev c b).P ρ1) (fun y ρ2 => bw (derefR (settle x) ρ2) (fun d _ => bw (derefR (settle y) ρ2) (fun e _ => bw (R.opt (subD d e) ρ2) (fun v _ => .ok (.fz v) ρ2) .mk) .mk) .mk) .mk) .mk := by rw [ev] <;> rfl
@[simp] theorem evT_sub (a b : E) : (ev c (.sub a b)).T ρ = bw ((ev c (.sub a b)).P ρ) (fun x ρ1 => bw (derefR (settle x) ρ1) (fun d _ => R.opt (truD d) ρ1) .mk) .mk := by rw [ev] <;> rfl
@[simp] theorem ev_dsub (a b : E) : (ev c (.dsub a b)).P ρ = bw ((ev c a).P ρ) (fun x ρ1 => bw ((ev c b).P ρ1) (fun y ρ2 => bw (derefR (settle x) ρ2) (fun d _ => bw (derefR (settle y) ρ2) (fun e _ => bw (R.opt (lookD d e) ρ2) (fun o _ => bw (R.opt (o) ρ2) (fun v _ => .ok (.fz v) ρ2) .mk) .mk) .mk) .mk) .mk) .mk := by rw [ev] <;> rfl
@[simp] theorem evT_dsub (a b : E) : (ev c (.dsub a b)).T ρ = bw ((ev c (.dsub a b)).P ρ) (fun x ρ1 => bw (derefR (settle x) ρ1) (fun d _ => R.opt (truD d) ρ1) .mk) .mk := by rw [ev] <;> rfl
@[simp] theorem ev_slice (a lo hi : E) : (ev c (.slice a lo hi)).P ρ = bw ((ev c a).P ρ) (fun x ρ1 => bw (optI lo (ev c lo) ρ1) (fun l ρ2 => bw (optI hi (ev c hi) ρ2) (fun h ρ3 => bw (derefR (settle x) ρ3) (fun d _ => R.optO (sliceD d l h) ρ3) .mk) .mk) .mk) .mk := by rw [ev] <;> rfl
@[simp] theorem evT_slice (a lo hi : E) : (ev c (.slice a lo hi)).T ρ = bw ((ev c (.slice a lo hi)).P ρ) (fun x ρ1 => bw (derefR (settle x) ρ1) (fun d _ => R.opt (truD d) ρ1) .mk) .mk := by rw [ev] <;> rfl
@[simp] theorem ev_isa (a : E) (t : Ty0) : (ev c (.isa a t)).P ρ = bw ((ev c a).P ρ) (fun x ρ1 => bw (derefR (settle x) ρ1) (fun d _ => if d.plain then .ok (.fz (.bool (isaD t d))) ρ1 else .bad) .mk) .mk := by rw [ev] <;> rfl
@[simp] theorem evT_isa (a : E) (t : Ty0) : (ev c (.isa a t)).T ρ = bw ((ev c (.isa a t)).P ρ) (fun x ρ1 => bw (derefR (settle x) ρ1) (fun d _ => R.opt (truD d) ρ1) .mk) .mk := by rw [ev] <;> rfl
@[simp] theorem ev_bi (b : Bi) (es : List E) : (ev c (.bi b es)).P ρ = bw (evA c es ρ) (fun os ρ1 => bw (R.opt (derefs os ρ1) ρ1) (fun ds _ => R.optO (biD b ds) ρ1) .mk) .mk := by rw [ev] <;> rfl
@[simp] theorem evT_bi (b : Bi) (es : List E) : (ev c (.bi b es)).T ρ = bw ((ev c (.bi b es)).P ρ) (fun x ρ1 => bw (derefR (settle x) ρ1) (fun d _ => R.opt (truD d) ρ1) .mk) .mk := by rw [ev] <;> rfl
@[simp] theorem ev_skeys (d : E) : (ev c (.skeys d)).P ρ = bw ((ev c d).P ρ) (fun x ρ1 => bw (derefR (settle x) ρ1) (fun dd _ => bw (R.opt (keysD dd) ρ1) (fun ks _ => R.optO (biD .sorted [.list ks]) ρ1) .mk) .mk) .mk := by rw [ev] <;> rfl
@[simp] theorem evT_skeys (d : E) : (ev c (.skeys d)).T ρ = bw ((ev c (.skeys d)).P ρ) (fun x ρ1 => bw (derefR (settle x) ρ1) (fun d _ => R.opt (truD d) ρ1) .mk) .mk := by rw [ev] <;> rfl
@[simp] theorem ev_call (f : Nat) (es : List E) : (ev c (.call f es)).P ρ = bw (evA c es ρ) (fun os ρ1 => callF c f os ρ1) .mk := by rw [ev] <;> rfl
@[simp] theorem evT_call (f : Nat) (es : List E) : (ev c (.call f es)).T ρ = bw ((ev c (.call f es)).P ρ) (fun x ρ1 => bw (derefR (settle x) ρ1) (fun d _ => R.opt (truD d) ρ1) .mk) .mk := by rw [ev] <;> rfl
@[simp] theorem ev_dget1 (d k : E) : (ev c (.dget1 d k)).P ρ = bw ((ev c d).P ρ) (fun x ρ1 => bw (R.opt ((deref x ρ1).bind dictD) ρ1) (fun _ _ => bw ((ev c k).P ρ1) (fun y ρ2 => bw (derefR (settle x) ρ2) (fun dd _ => bw (derefR (settle y) ρ2) (fun kd _ => bw (R.opt (lookD dd kd) ρ2) (fun o _ => .ok (.fz (o.getD .none)) ρ2) .mk) .mk) .mk) .mk) .mk) .mk := by rw [ev] <;> rfl
@[simp] theorem evT_dget1 (d k : E) : (ev c (.dget1 d k)).T ρ = bw ((ev c (.dget1 d k)).P ρ) (fun x ρ1 => bw (derefR (settle x) ρ1) (fun d _ => R.opt (truD d) ρ1) .mk) .mk := by rw [ev] <;> rfl
@[simp] theorem ev_dget2 (d k z : E) : (ev c (.dget2 d k z)).P ρ = bw ((ev c d).P ρ) (fun x ρ1 => bw (R.opt ((deref x ρ1).bind dictD) ρ1) (fun _ _ => bw ((ev c k).P ρ1) (fun y ρ2 => bw ((ev c z).P ρ2) (fun w ρ3 => bw (esc (settle w) ρ3) (fun zd ρ3 => bw (derefR (settle x) ρ3) (fun dd _ => bw (derefR (settle y) ρ3) (fun kd _ => bw (R.opt (lookD dd kd) ρ3) (fun o _ => .ok (.fz (o.getD zd)) ρ3) .mk) .mk) .mk) .mk) .mk) .mk) .mk) .mk := by rw [ev] <;> rfl
@[simp] theorem evT_dget2 (d k z : E) : (ev c (.dget2 d k z)).T ρ = bw ((ev c (.dget2 d k z)).P ρ) (fun x ρ1 => bw (derefR (settle x) ρ1) (fun d _ => R.opt (truD d) ρ1) .mk) .mk := by rw [ev] <;> rfl
@[simp] theorem ev_app (a e : E) : (ev c (.app a e)).P ρ = bw ((ev c a).P ρ) (fun x ρ1 => bw (R.opt ((deref x ρ1).bind listD) ρ1) (fun _ _ => bw ((ev c e).P ρ1) (fun y ρ2 => bw (esc (settle y) ρ2) (fun d ρ3 => appR x d ρ3) .mk) .mk) .mk) .mk := by rw [ev] <;> rfl
@[simp] theorem evT_app (a e : E) : (ev c (.app a e)).T ρ = bw ((ev c (.app a e)).P ρ) (fun x ρ1 => bw (derefR (settle x) ρ1) (fun d _ => R.opt (truD d) ρ1) .mk) .mk := by rw [ev] <;> rfl
@[simp] theorem ev_comp (k : ItK) (src : List E) (t : Tg) (own : List Nat) (cond elt : E) : (ev c (.comp k src t own cond elt)).P ρ = bw (evA c src ρ) (fun os ρ1 => cRun k t own (condT cond (ev c cond)) (ev c elt).P os ρ1) .mk := by rw [ev] <;> rfl
@[simp] theorem evT_comp (k : ItK) (src : List E) (t : Tg) (own : List Nat) (cond elt : E) : (ev c (.comp k src t own cond elt)).T ρ = bw ((ev c (.comp k src t own cond elt)).P ρ) (fun x ρ1 => bw (derefR (settle x) ρ1) (fun d _ => R.opt (truD d) ρ1) .mk) .mk := by rw [ev] <;> rfl
@[simp] theorem evA_nil : evA c [] ρ = .ok [] ρ := by rw [evA]
@[simp] theorem evA_cons (e : E) (es : List E) : evA c (e :: es) ρ = bw ((ev c e).P ρ) (fun x ρ1 => bw (evA c es ρ1) (fun xs ρ2 => .ok (settle x :: xs) ρ2) .mk) .mk := by rw [evA] <;> rfl
@[simp] theorem evX_nil : evX c [] ρ = .ok [] ρ := by rw [evX]
@[simp] theorem evX_cons (e : E) (es : List E) : evX c (e :: es) ρ = bw ((ev c e).P ρ) (fun x ρ1 => bw (esc (settle x) ρ1) (fun d ρ1 => bw (evX c es ρ1) (fun ds ρ2 => .ok (d :: ds) ρ2) .mk) .mk) .mk := by rw [evX] <;> rfl
@[simp] theorem setAll_nil : setAll [] [] ρ = .ok () ρ := id rfl
@[simp] theorem setAll_cons (i : Nat) (is : List Nat) (d : D) (ds : List D) : setAll (i :: is) (d :: ds) ρ = bw (setS i (.fz d) ρ) (fun _ ρ' => setAll is ds ρ') .mk := id rfl
theorem optI_e (e : E) (v : Ev) (h : isNop e = false) : optI e v ρ = bw (v.P ρ) (fun x ρ1 => bw (derefR (settle x) ρ1) (fun d _ => bw (R.opt (intD d) ρ1) (fun i _ => .ok (some i) ρ1) .mk) .mk) .mk := by
  unfold optI
  rw [h]
  rfl
@[simp] theorem ex_asg (t : Tg) (e : E) : exec x (.asg t e) ρ = bw ((ev x.cal e).P ρ) (fun o ρ1 => bw (bindO t o ρ1) (fun _ ρ2 => .ok .next ρ2) .mk) .mk := by rw [exec] <;> rfl
@[simp] theorem ex_par (is : List Nat) (es : List E) : exec x (.par is es) ρ = bw (evX x.cal es ρ) (fun ds ρ1 => bw (setAll is ds ρ1) (fun _ ρ2 => .ok .next ρ2) .mk) .mk := by rw [exec] <;> rfl
@[simp] theorem ex_expr (e : E) : exec x (.expr e) ρ = bw ((ev x.cal e).P ρ) (fun _ ρ1 => .ok .next ρ1) .mk := by rw [exec] <;> rfl
@[simp] theorem ex_ret (e : E) : exec x (.ret e) ρ = bw ((ev x.cal e).P ρ) (fun o ρ1 => retO o ρ1) .mk := by rw [exec] <;> rfl
@[simp] theorem ex_retN  : exec x (.retN) ρ = .ok (.ret false .none) ρ := by rw [exec]
@[simp] theorem ex_if (t : E) (a b : List S) : exec x (.ifS t a b) ρ = bw ((ev x.cal t).T ρ) (fun k ρ1 => if k then execs x a ρ1 else execs x b ρ1) .mk := by rw [exec] <;> rfl
@[simp] theorem ex_for (k : ItK) (src : List E) (t : Tg) (body : List S) : exec x (.forS k src t body) ρ = bw (evA x.cal src ρ) (fun os ρ1 => fRun k t (execs x body) os ρ1) .mk := by rw [exec] <;> rfl
@[simp] theorem ex_while (t : E) (body : List S) : exec x (.whileS t body) ρ = wRun (wStep (ev x.cal t).T (execs x body)) ρ := by rw [exec]
@[simp] theorem ex_brk  : exec x (.brk) ρ = .ok .brk ρ := by rw [exec]
@[simp] theorem ex_cont  : exec x (.cont) ρ = .ok .cont ρ := by rw [exec]
@[simp] theorem ex_pass  : exec x (.pass) ρ = .ok .next ρ := by rw [exec]
@[simp] theorem ex_raise (k : Nat) : exec x (.raise k) ρ = .exc k ρ := by rw [exec]
@[simp] theorem ex_blk (ss : List S) : exec x (.blk ss) ρ = execs x ss ρ := by rw [exec]
@[simp] theorem ex_try (body : List S) (cs : List Nat) (hs : List S) : exec x (.tryS body cs hs) ρ = caught x.sub cs (execHs x hs) (execs x body ρ) := by rw [exec]

@[simp] theorem derefs_nil : derefs [] ρ = some [] := id rfl
@[simp] theorem derefs_cons (o : Out) (os : List Out) : derefs (o :: os) ρ = (deref o ρ).bind fun d => (derefs os ρ).map (d :: ·) := id rfl
@[simp] theorem bindO_nm (i : Nat) (o : Out) : bindO (.nm i) o ρ = setO i o ρ := id rfl
@[simp] theorem bindT_nm (i : Nat) (d : D) : bindT (.nm i) d ρ = setS i (.fz d) ρ := id rfl
@[simp] theorem bindT_tp (is : List Nat) (ds : List D) : bindT (.tp is) (.tuple ds) ρ = setAll is ds ρ := id rfl
@[simp] theorem bindO_tp (is : List Nat) (ds : List D) : bindO (.tp is) (.fz (.tuple ds)) ρ = setAll is ds ρ := id rfl
@[simp] theorem setO_fz (i : Nat) (d : D) : setO i (.fz d) ρ = setS i (.fz d) ρ := id rfl
@[simp] theorem setO_fresh (i : Nat) (d : D) : setO i (.fresh d) ρ = setS i (.ow d) ρ := id rfl
@[simp] theorem optI_nop (v : Ev) : optI .nop v ρ = .ok none ρ := id rfl
@[simp] theorem condT_nop (v : Ev) : condT .nop v ρ = .ok true ρ := id rfl
theorem condT_e (e : E) (v : Ev) (h : isNop e = false) : condT e v ρ = v.T ρ := by
  unfold condT
  rw [h]
  rfl
@[simp] theorem condT_con (d : D) (v : Ev) : condT (.con d) v ρ = v.T ρ := id rfl
@[simp] theorem optI_con (d : D) (v : Ev) : optI (.con d) v ρ = bw (v.P ρ) (fun x ρ1 => bw (derefR (settle x) ρ1) (fun d _ => bw (R.opt (intD d) ρ1) (fun i _ => .ok (some i) ρ1) .mk) .mk) .mk := id rfl
@[simp] theorem condT_var (i : Nat) (v : Ev) : condT (.var i) v ρ = v.T ρ := id rfl
@[simp] theorem optI_var (i : Nat) (v : Ev) : optI (.var i) v ρ = bw (v.P ρ) (fun x ρ1 => bw (derefR (settle x) ρ1) (fun d _ => bw (R.opt (intD d) ρ1) (fun i _ => .ok (some i) ρ1) .mk) .mk) .mk := id rfl
@[simp] theorem condT_bin (o : Bop) (a b : E) (v : Ev) : condT (.bin o a b) v ρ = v.T ρ := id rfl
@[simp] theorem optI_bin (o : Bop) (a b : E) (v : Ev) : optI (.bin o a b) v ρ = bw (v.P ρ) (fun x ρ1 => bw (derefR (settle x) ρ1) (fun d _ => bw (R.opt (intD d) ρ1) (fun i _ => .ok (some i) ρ1) .mk) .mk) .mk := id rfl
@[simp] theorem condT_neg (a : E) (v : Ev) : condT (.neg a) v ρ = v.T ρ := id rfl
@[simp] theorem optI_neg (a : E) (v : Ev) : optI (.neg a) v ρ = bw (v.P ρ) (fun x ρ1 => bw (derefR (settle x) ρ1) (fun d _ => bw (R.opt (intD d) ρ1) (fun i _ => .ok (some i) ρ1) .mk) .mk) .mk := id rfl
@[simp] theorem condT_cmp (o : Cop) (a b : E) (v : Ev) : condT (.cmp o a b) v ρ = v.T ρ := id rfl
@[simp] theorem optI_cmp (o : Cop) (a b : E) (v : Ev) : optI (.cmp o a b) v ρ = bw (v.P ρ) (fun x ρ1 => bw (derefR (settle x) ρ1) (fun d _ => bw (R.opt (intD d) ρ1) (fun i _ => .ok (some i) ρ1) .mk) .mk) .mk := id rfl
@[simp] theorem condT_chain (o1 o2 : Cop) (a b e : E) (v : Ev) : condT (.chain o1 o2 a b e) v ρ = v.T ρ := id rfl
@[simp] theorem optI_chain (o1 o2 : Cop) (a b e : E) (v : Ev) : optI (.chain o1 o2 a b e) v ρ = bw (v.P ρ) (fun x ρ1 => bw (derefR (settle x) ρ1) (fun d _ => bw (R.opt (intD d) ρ1) (fun i _ => .ok (some i) ρ1) .mk) .mk) .mk := id rfl
@[simp] theorem condT_din (n : Bool) (a b : E) (v : Ev) : condT (.din n a b) v ρ = v.T ρ := id rfl
@[simp] theorem optI_din (n : Bool) (a b : E) (v : Ev) : optI (.din n a b) v ρ = bw (v.P ρ) (fun x ρ1 => bw (derefR (settle x) ρ1) (fun d _ => bw (R.opt (intD d) ρ1) (fun i _ => .ok (some i) ρ1) .mk) .mk) .mk := id rfl
@[simp] theorem condT_and (a b : E) (v : Ev) : condT (.and a b) v ρ = v.T ρ := id rfl
@[simp] theorem optI_and (a b : E) (v : Ev) : optI (.and a b) v ρ = bw (v.P ρ) (fun x ρ1 => bw (derefR (settle x) ρ1) (fun d _ => bw (R.opt (intD d) ρ1) (fun i _ => .ok (some i) ρ1) .mk) .mk) .mk := id rfl
@[simp] theorem condT_or (a b : E) (v : Ev) : condT (.or a b) v ρ = v.T ρ := id rfl
@[simp] theorem optI_or (a b : E) (v : Ev) : optI (.or a b) v ρ = bw (v.P ρ) (fun x ρ1 => bw (derefR (settle x) ρ1) (fun d _ => bw (R.opt (intD d) ρ1) (fun i _ => .ok (some i) ρ1) .mk) .mk) .mk := id rfl
@[simp] theorem condT_not (a : E) (v : Ev) : condT (.not a) v ρ = v.T ρ := id rfl
@[simp] theorem optI_not (a : E) (v : Ev) : optI (.not a) v ρ = bw (v.P ρ) (fun x ρ1 => bw (derefR (settle x) ρ1) (fun d _ => bw (R.opt (intD d) ρ1) (fun i _ => .ok (some i) ρ1) .mk) .mk) .mk := id rfl
@[simp] theorem condT_isa (a : E) (t : Ty0) (v : Ev) : condT (.isa a t) v ρ = v.T ρ := id rfl
@[simp] theorem optI_isa (a : E) (t : Ty0) (v : Ev) : optI (.isa a t) v ρ = bw (v.P ρ) (fun x ρ1 => bw (derefR (settle x) ρ1) (fun d _ => bw (R.opt (intD d) ρ1) (fun i _ => .ok (some i) ρ1) .mk) .mk) .mk := id rfl
@[simp] theorem condT_call (f : Nat) (es : List E) (v : Ev) : condT (.call f es) v ρ = v.T ρ := id rfl
@[simp] theorem optI_call (f : Nat) (es : List E) (v : Ev) : optI (.call f es) v ρ = bw (v.P ρ) (fun x ρ1 => bw (derefR (settle x) ρ1) (fun d _ => bw (R.opt (intD d) ρ1) (fun i _ => .ok (some i) ρ1) .mk) .mk) .mk := id rfl
@[simp] theorem condT_sub (a b : E) (v : Ev) : condT (.sub a b) v ρ = v.T ρ := id rfl
@[simp] theorem optI_sub (a b : E) (v : Ev) : optI (.sub a b) v ρ = bw (v.P ρ) (fun x ρ1 => bw (derefR (settle x) ρ1) (fun d _ => bw (R.opt (intD d) ρ1) (fun i _ => .ok (some i) ρ1) .mk) .mk) .mk := id rfl
@[simp] theorem condT_bi (b : Bi) (es : List E) (v : Ev) : condT (.bi b es) v ρ = v.T ρ := id rfl
@[simp] theorem optI_bi (b : Bi) (es : List E) (v : Ev) : optI (.bi b es) v ρ = bw (v.P ρ) (fun x ρ1 => bw (derefR (settle x) ρ1) (fun d _ => bw (R.opt (intD d) ρ1) (fun i _ => .ok (some i) ρ1) .mk) .mk) .mk := id rfl
@[simp] theorem condT_comp (k : ItK) (src : List E) (t : Tg) (own : List Nat) (cond elt : E) (v : Ev) : condT (.comp k src t own cond elt) v ρ = v.T ρ := id rfl
@[simp] theorem optI_comp (k : ItK) (src : List E) (t : Tg) (own : List Nat) (cond elt : E) (v : Ev) : optI (.comp k src t own cond elt) v ρ = bw (v.P ρ) (fun x ρ1 => bw (derefR (settle x) ρ1) (fun d _ => bw (R.opt (intD d) ρ1) (fun i _ => .ok (some i) ρ1) .mk) .mk) .mk := id rfl
@[simp] theorem listD_list (xs : List D) : listD (.list xs) = some xs := id rfl
@[simp] theorem dictD_dict (xs : List (D × D)) : dictD (.dict xs) = some xs := id rfl
@[simp] theorem intD_int (i : Int) : intD (.int i) = some i := id rfl
@[simp] theorem seqD_list (xs : List D) : seqD (.list xs) = some xs := id rfl
@[simp] theorem seqD_tup (xs : List D) : seqD (.tuple xs) = some xs := id rfl
@[simp] theorem truD_bool (b : Bool) : truD (.bool b) = some b := id rfl
@[simp] theorem truD_none : truD .none = some false := id rfl
@[simp] theorem truD_int (n : Int) : truD (.int n) = some (n != 0) := id rfl
@[simp] theorem truD_list (xs : List D) : truD (.list xs) = some (!xs.isEmpty) := id rfl
@[simp] theorem truD_tup (xs : List D) : truD (.tuple xs) = some (!xs.isEmpty) := id rfl
@[simp] theorem bin_add_int (i j : Int) : binD .add (.int i) (.int j) = some (false, .int (i + j)) := id rfl
@[simp] theorem bin_sub_int (i j : Int) : binD .sub (.int i) (.int j) = some (false, .int (i - j)) := id rfl
@[simp] theorem bin_mod_int (i j : Int) : binD .mod (.int i) (.int j) = if j ≠ 0 then some (false, .int (i.fmod j)) else none := id rfl
@[simp] theorem bin_fdiv_int (i j : Int) : binD .fdiv (.int i) (.int j) = if j ≠ 0 ∧ j.natAbs < 1073741824 then some (false, .int (i.fdiv j)) else none := id rfl
@[simp] theorem bin_mul_int (i j : Int) : binD .mul (.int i) (.int j) = if small64 i || small64 j then some (false, .int (i * j)) else none := id rfl
theorem bin_pow_int (i j : Int) : binD .pow (.int i) (.int j) = if 0 ≤ j ∧ j ≤ 1000000 ∧ i.natAbs < 2 ^ 64 then some (false, .int (i ^ j.toNat)) else none := id rfl
@[simp] theorem bin_add_list (xs ys : List D) : binD .add (.list xs) (.list ys) = if xs.length + ys.length ≤ LIM then some (true, .list (xs ++ ys)) else none := id rfl
@[simp] theorem bin_add_tup (xs ys : List D) : binD .add (.tuple xs) (.tuple ys) = if xs.length + ys.length ≤ LIM then some (false, .tuple (xs ++ ys)) else none := id rfl
@[simp] theorem sub_list (xs : List D) (i : Int) : subD (.list xs) (.int i) = L2.atI xs i := id rfl
@[simp] theorem sub_tup (xs : List D) (i : Int) : subD (.tuple xs) (.int i) = L2.atI xs i := id rfl
@[simp] theorem bi_len_list (xs : List D) : biD .len [.list xs] = some (false, .int xs.length) := id rfl
@[simp] theorem bi_len_tup (xs : List D) : biD .len [.tuple xs] = some (false, .int xs.length) := id rfl
@[simp] theorem bi_tup_list (xs : List D) : biD .tup [.list xs] = some (false, .tuple xs) := id rfl
@[simp] theorem bi_tup_tup (xs : List D) : biD .tup [.tuple xs] = some (false, .tuple xs) := id rfl
@[simp] theorem bi_lst_list (xs : List D) : biD .lst [.list xs] = some (true, .list xs) := id rfl
@[simp] theorem bi_lst_tup (xs : List D) : biD .lst [.tuple xs] = some (true, .list xs) := id rfl
@[simp] theorem bi_min2 (i j : Int) : biD .min2 [.int i, .int j] = some (false, .int (if j < i then j else i)) := id rfl
@[simp] theorem bi_max2 (i j : Int) : biD .max2 [.int i, .int j] = some (false, .int (if j > i then j else i)) := id rfl
@[simp] theorem isa_int (d : D) : isaD .int d = d.isInt := id rfl
@[simp] theorem isa_bool (d : D) : isaD .bool d = d.isBool := id rfl
@[simp] theorem isa_str (d : D) : isaD .str d = d.isStr := id rfl
@[simp] theorem isa_tup (d : D) : isaD .tuple d = d.isTuple := id rfl
@[simp] theorem isa_list (d : D) : isaD .list d = d.isList := id rfl
@[simp] theorem isa_dict (d : D) : isaD .dict d = d.isDict := id rfl
@[simp] theorem notN_none (d : D) : cmpD .notN d .none = some (notNone d) := id rfl
@[simp] theorem isN_none (d : D) : cmpD .isN d .none = some (!notNone d) := id rfl
theorem atI_nat {α : Type} {xs : List α} {i : Nat} (h : i < xs.length) : L2.atI xs (i : Int) = some xs[i] := by
  unfold L2.atI L2.ixN
  rw [if_pos (by omega), if_pos (by omega)]
  simp [h]
theorem intsD_map' (ns : List Int) : intsD (ns.map PyData.int) = some ns := by
  induction ns with
  | nil => rfl
  | cons n ns ih => simp [intsD, ih]
@[simp] theorem bi_sum_tup (ns : List Int) : biD .sum [.tuple (ns.map PyData.int)] = some (false, .int ns.sum) := by
  simp [biD, one1, sumD, seqD, intsD_map']
@[simp] theorem bi_sum_list (ns : List Int) : biD .sum [.list (ns.map PyData.int)] = some (false, .int ns.sum) := by
  simp [biD, one1, sumD, seqD, intsD_map']
@[simp] theorem deref_s (i : Nat) : deref (.slot i) ρ = derK ρ[i]? := id rfl
@[simp] theorem derefR_s (i : Nat) : derefR (.slot i) ρ = R.opt (deref (.slot i) ρ) ρ := id rfl
theorem okSlots_d (ms : List Bool) (os : List Out) : okSlots ms os = (decide (inSlots ms os).Nodup && (inSlots ms os).all fun i => !(valSlots ms os).contains i) := id rfl
theorem callF_d (f : Nat) (os : List Out) : callF c f os ρ = if okSlots (c.md f) os then oB (argsD (c.md f) os ρ) (fun ds => frB (c.md f) os ρ (c.Φ f ds)) .mk else .bad := by
  unfold callF
  congr 1
  cases argsD (c.md f) os ρ with
  | none => rfl
  | some ds =>
    show _ = frB _ _ _ (c.Φ f ds)
    dsimp only
    cases c.Φ f ds with
    | none => rfl
    | some fr =>
      cases fr with
      | ret fr d outs =>
        simp only [frB_ret]
        cases (afterC (flatR fr d && flatO outs) (valSlots (c.md f) os) ρ).bind (setOuts (c.md f) os outs) <;> rfl
      | exc x outs =>
        simp only [frB_exc]
        cases (afterC (flatO outs) (valSlots (c.md f) os) ρ).bind (setOuts (c.md f) os outs) <;> rfl
@[simp] theorem appR_d (i : Nat) (d : D) : appR (.slot i) d ρ = appK i d ρ ρ[i]? := id rfl
theorem exs_sq (s : S) (ss : List S) : execs x (s :: ss) ρ = sq (exec x s ρ) (fun ρ1 => execs x ss ρ1) .mk := by
  rw [execs]
  cases exec x s ρ with
  | ok f r => cases f <;> rfl
  | _ => rfl
theorem turnX {t : Tg} {body : Rho → R Fl} {y : D} {f : D → Rho → R Fl} (h : f = fun x ρ => bw (bindT t x ρ) (fun _ ρ' => body ρ') .mk) : f y ρ = bw (bindT t y ρ) (fun _ ρ' => body ρ') .mk := by rw [h]
theorem cTurn_eq (t : Tg) (own : List Nat) (cond : Rho → R Bool) (elt : Rho → R Out) (x : D) : cTurn t own cond elt x ρ = bw (bindT t x ρ) (fun _ ρ' => bw (cond ρ') (fun k ρ'' =>
    if k then bw (elt ρ'') (fun y ρ3 => bw (esc (settle y) ρ3) (fun d ρ4 => .ok (some d) (wipeR ρ4 own)) .mk) .mk else .ok none (wipeR ρ'' own)) .mk) .mk := rfl
theorem derefR_slot (i : Nat) : derefR (.slot i) ρ = R.opt (deref (.slot i) ρ) ρ := rfl
theorem fTurn_eq (t : Tg) (body : Rho → R Fl) (x : D) : (bindT t x ρ).bind (fun _ ρ' => body ρ') = bw (bindT t x ρ) (fun _ ρ' => body ρ') .mk := rfl
theorem ex_setix (a i e : E) : exec x (.setix a i e) ρ = ((ev x.cal e).P ρ).bind fun y ρ1 => (esc (settle y) ρ1).bind fun d ρ1 => ((ev x.cal a).P ρ1).bind fun z ρ2 => match z with
    | .slot j => ((ev x.cal i).P ρ2).bind fun z ρ3 => (derefR (settle z) ρ3).bind fun zd _ => (R.opt (intD zd) ρ3).bind fun n _ => match ρ3[j]? with
      | some (.ow (.list xs)) => (R.opt (L2.ixN xs.length n) ρ3).bind fun k _ => .ok .next (ρ3.set j (.ow (.list (xs.set k d))))
      | some (.io (.list xs)) => (R.opt (L2.ixN xs.length n) ρ3).bind fun k _ => .ok .next (ρ3.set j (.io (.list (xs.set k d))))
      | _ => .bad
    | _ => .bad := by rw [exec] <;> rfl
theorem ex_dset (a k e : E) : exec x (.dset a k e) ρ = ((ev x.cal e).P ρ).bind fun y ρ1 => (esc (settle y) ρ1).bind fun d ρ1 => ((ev x.cal a).P ρ1).bind fun z ρ2 => match z with
    | .slot j => ((ev x.cal k).P ρ2).bind fun z ρ3 => (esc (settle z) ρ3).bind fun kd ρ3 => match ρ3[j]? with
      | some (.ow dd) => (R.opt (putD dd kd d) ρ3).bind fun dd' _ => .ok .next (ρ3.set j (.ow dd'))
      | some (.io dd) => (R.opt (putD dd kd d) ρ3).bind fun dd' _ => .ok .next (ρ3.set j (.io dd'))
      | _ => .bad
    | _ => .bad := by rw [exec] <;> rfl
@[simp] theorem exs_nil : execs x [] ρ = .ok .next ρ := by rw [execs]
theorem exs_cons (s : S) (ss : List S) : execs x (s :: ss) ρ = match exec x s ρ with
    | .ok .next ρ1 => execs x ss ρ1
    | r => r := by
  rw [exs_sq]
  cases exec x s ρ with
  | ok f r => cases f <;> rfl
  | _ => rfl
/-- one statement after another -/
theorem exs_next {s : S} {ss : List S} {ρ ρ1 : Rho} (h : exec x s ρ = .ok .next ρ1) : execs x (s :: ss) ρ = execs x ss ρ1 := by
  rw [exs_cons, h]
theorem exs_ret {s : S} {ss : List S} {ρ ρ1 : Rho} {fr : Bool} {d : D} (h : exec x s ρ = .ok (.ret fr d) ρ1) : execs x (s :: ss) ρ = .ok (.ret fr d) ρ1 := by
  rw [exs_cons, h]
theorem exs_exc {s : S} {ss : List S} {ρ ρ1 : Rho} {k : Nat} (h : exec x s ρ = .exc k ρ1) : execs x (s :: ss) ρ = .exc k ρ1 := by
  rw [exs_cons, h]
theorem exs_one {s : S} : execs x [s] ρ = exec x s ρ := by
  rw [exs_cons]
  cases h : exec x s ρ with
  | ok f r => cases f <;> rfl
  | _ => rfl
@[simp] theorem exh_nil : execHs x [] = [] := by rw [execHs]
@[simp] theorem exh_cons (s : S) (ss : List S) : execHs x (s :: ss) = exec x s :: execHs x ss := by rw [execHs]
@[simp] theorem fLoop_nil (turn : D → Rho → R Fl) : fLoop turn [] ρ = .ok .next ρ := id rfl
@[simp] theorem cLoop_nil (turn : D → Rho → R (Option D)) (acc : List D) : cLoop turn [] acc ρ = .ok acc ρ := id rfl
end
@[simp] theorem outsR_nil (ρ : Rho) : outsR [] ρ = some [] := id rfl
@[simp] theorem outsR_f (ms : List Bool) (x : Sl) (ρ : Rho) : outsR (false :: ms) (x :: ρ) = (outsR ms ρ).map (none :: ·) := by cases x <;> rfl
@[simp] theorem outsR_t (ms : List Bool) (d : D) (ρ : Rho) : outsR (true :: ms) (.io d :: ρ) = (outsR ms ρ).map (some d :: ·) := id rfl
@[simp] theorem argsD_nil (ρ : Rho) : argsD [] [] ρ = some [] := id rfl
@[simp] theorem argsD_f (ms : List Bool) (o : Out) (os : List Out) (ρ : Rho) : argsD (false :: ms) (o :: os) ρ = (deref o ρ).bind fun d => (argsD ms os ρ).map (d :: ·) := by cases o <;> rfl
theorem argsD_t (ms : List Bool) (i : Nat) (os : List Out) (ρ : Rho) : argsD (true :: ms) (.slot i :: os) ρ = match ρ[i]? with
    | some (.ow d) => (argsD ms os ρ).map (d :: ·)
    | some (.io d) => (argsD ms os ρ).map (d :: ·)
    | _ => none := rfl
@[simp] theorem inSlots_nil (ms : List Bool) : inSlots ms [] = [] := by rcases ms with _ | ⟨_ | _, _⟩ <;> rfl
@[simp] theorem inSlots_nil' (os : List Out) : inSlots [] os = [] := id rfl
@[simp] theorem inSlots_f (ms : List Bool) (o : Out) (os : List Out) : inSlots (false :: ms) (o :: os) = inSlots ms os := by cases o <;> rfl
@[simp] theorem inSlots_t (ms : List Bool) (i : Nat) (os : List Out) : inSlots (true :: ms) (.slot i :: os) = i :: inSlots ms os := id rfl
@[simp] theorem valSlots_nil (ms : List Bool) : valSlots ms [] = [] := by rcases ms with _ | ⟨_ | _, _⟩ <;> rfl
@[simp] theorem valSlots_nil' (os : List Out) : valSlots [] os = [] := id rfl
@[simp] theorem valSlots_t (ms : List Bool) (o : Out) (os : List Out) : valSlots (true :: ms) (o :: os) = valSlots ms os := by cases o <;> rfl
@[simp] theorem valSlots_fs (ms : List Bool) (i : Nat) (os : List Out) : valSlots (false :: ms) (.slot i :: os) = i :: valSlots ms os := id rfl
@[simp] theorem valSlots_fz (ms : List Bool) (d : D) (os : List Out) : valSlots (false :: ms) (.fz d :: os) = valSlots ms os := id rfl
@[simp] theorem setOuts_nil (ρ : Rho) : setOuts [] [] [] ρ = some ρ := id rfl
@[simp] theorem setOuts_f (ms : List Bool) (o : Out) (os : List Out) (d : Option D) (ds : List (Option D)) (ρ : Rho) : setOuts (false :: ms) (o :: os) (d :: ds) ρ = setOuts ms os ds ρ := by cases o <;> rfl
theorem setOuts_t (ms : List Bool) (i : Nat) (os : List Out) (d : D) (ds : List (Option D)) (ρ : Rho) : setOuts (true :: ms) (.slot i :: os) (some d :: ds) ρ = match ρ[i]? with
    | some (.ow _) => setOuts ms os ds (ρ.set i (.ow d))
    | some (.io _) => setOuts ms os ds (ρ.set i (.io d))
    | _ => none := rfl
@[simp] theorem afterC_t (is : List Nat) (ρ : Rho) : afterC true is ρ = some ρ := id rfl
@[simp] theorem afterC_f (is : List Nat) (ρ : Rho) : afterC false is ρ = freezeAll is ρ := id rfl
@[simp] theorem freeze_nil (ρ : Rho) : freezeAll [] ρ = some ρ := id rfl
theorem freeze_cons (i : Nat) (is : List Nat) (ρ : Rho) : freezeAll (i :: is) ρ = match ρ[i]? with
    | some (.ow d) => freezeAll is (ρ.set i (.fz d))
    | some (.fz _) => freezeAll is ρ
    | _ => none := rfl
@[simp] theorem flat_none : flat .none = true := id rfl
@[simp] theorem flat_bool (b : Bool) : flat (.bool b) = true := id rfl
@[simp] theorem flat_int (b : Int) : flat (.int b) = true := id rfl
@[simp] theorem flat_str (b : Str) : flat (.str b) = true := id rfl
@[simp] theorem flat_tup (xs : List D) : flat (.tuple xs) = flats xs := id rfl
@[simp] theorem flats_nil : flats [] = true := id rfl
@[simp] theorem flats_cons (x : D) (xs : List D) : flats (x :: xs) = (flat x && flats xs) := id rfl
@[simp] theorem flatR_list (xs : List D) : flatR true (.list xs) = flats xs := id rfl
@[simp] theorem flatR_f (d : D) : flatR false d = flat d := by cases d <;> rfl
@[simp] theorem flatO_nil : flatO [] = true := id rfl
@[simp] theorem flatO_n (r : List (Option D)) : flatO (none :: r) = flatO r := id rfl
@[simp] theorem flatO_l (xs : List D) (r : List (Option D)) : flatO (some (.list xs) :: r) = (flats xs && flatO r) := id rfl
/-- a call that answers -/
theorem call_ret {c : Cal} {f : Nat} {os : List Out} {ρ ρ' : Rho} {ds : List D} {fr : Bool} {d : D} {outs : List (Option D)} (h1 : okSlots (c.md f) os = true) (h2 : argsD (c.md f) os ρ = some ds) (h3 : c.Φ f ds = some (.ret fr d outs))
    (h4 : (afterC (flatR fr d && flatO outs) (valSlots (c.md f) os) ρ).bind (setOuts (c.md f) os outs) = some ρ') : callF c f os ρ = .ok (retD fr d) ρ' := by
  unfold callF
  rw [if_pos h1]
  simp only [h2, h3, h4]
theorem call_exc {c : Cal} {f : Nat} {os : List Out} {ρ ρ' : Rho} {ds : List D} {x : Nat} {outs : List (Option D)} (h1 : okSlots (c.md f) os = true) (h2 : argsD (c.md f) os ρ = some ds) (h3 : c.Φ f ds = some (.exc x outs))
    (h4 : (afterC (flatO outs) (valSlots (c.md f) os) ρ).bind (setOuts (c.md f) os outs) = some ρ') : callF c f os ρ = .exc x ρ' := by
  unfold callF
  rw [if_pos h1]
  simp only [h2, h3, h4]
@[simp] theorem finish_exc (md : List Bool) (c : Nat) (ρ : Rho) : finish md (.exc c ρ) = (outsR md ρ).map (.exc c ·) := id rfl
@[simp] theorem finish_ret (md : List Bool) (fr : Bool) (d : D) (ρ : Rho) : finish md (.ok (.ret fr d) ρ) = (outsR md ρ).map (.ret fr d ·) := id rfl
@[simp] theorem finish_next (md : List Bool) (ρ : Rho) : finish md (.ok .next ρ) = (outsR md ρ).map (.ret false .none ·) := id rfl
@[simp] theorem retO_fz (d : D) (ρ : Rho) : retO (.fz d) ρ = .ok (.ret false d) ρ := id rfl
@[simp] theorem retO_fresh (d : D) (ρ : Rho) : retO (.fresh d) ρ = .ok (.ret true d) ρ := id rfl
/-- a def's run -/
theorem run_def {T : Tab} {f : Nat} {fd : FDef} {n : Nat} {ds : List D} (h : T.defs[f]? = some fd) (hl : ds.length = fd.md.length) : runF T (n + 1) f ds = finish fd.md (execs ⟨⟨runF T n, T.md⟩, T.sub⟩ fd.body (startR fd ds)) := by
  unfold runF
  simp only [h]
  rw [if_pos hl]
/-! orders of ints -/
theorem okD_int (a : Int) : okD (.int a) = true := by simp [okD, PyData.plain, PyData.depth, DEP]
theorem okD_none : okD .none = true := by simp [okD, PyData.plain, PyData.depth, DEP]
@[simp] theorem cmp_lt_int (a b : Int) : cmpD .lt (.int a) (.int b) = some (decide (a < b)) := by
  simp [cmpD, ltD, alike, okD_int, notNone, dataLt_int]
@[simp] theorem cmp_gt_int (a b : Int) : cmpD .gt (.int a) (.int b) = some (decide (b < a)) := by
  simp [cmpD, gtD, alike, okD_int, notNone, dataLt_int]
@[simp] theorem cmp_le_int (a b : Int) : cmpD .le (.int a) (.int b) = some (decide (a ≤ b)) := by
  simp [cmpD, gtD, alike, okD_int, notNone, dataLt_int]
  by_cases h : a ≤ b
  · simp [h, Int.not_lt.mpr h]
  · simp [h, Int.not_le.mp h]
@[simp] theorem cmp_ge_int (a b : Int) : cmpD .ge (.int a) (.int b) = some (decide (b ≤ a)) := by
  simp [cmpD, ltD, alike, okD_int, notNone, dataLt_int]
  by_cases h : b ≤ a
  · simp [h, Int.not_lt.mpr h]
  · simp [h, Int.not_le.mp h]
@[simp] theorem cmp_eq_int (a b : Int) : cmpD .eq (.int a) (.int b) = some (decide (a = b)) := by
  simp [cmpD, okD_int, PyData.eqv]
  rfl
@[simp] theorem cmp_ne_int (a b : Int) : cmpD .ne (.int a) (.int b) = some (!decide (a = b)) := by
  simp [cmpD, okD_int, PyData.eqv]
  rfl
end DL
end

section
set_option Elab.async false
set_option linter.all false
set_option maxRecDepth 100000
set_option autoImplicit false
namespace DL
open PySem hiding exec execs settle finish
open PySem.W
theorem cLoop_pure {turn : D → Rho → R (Option D)} {ρ : Rho} {g : D → Option D} : ∀ {xs : List D} (acc : List D), (∀ x ∈ xs, turn x ρ = .ok (g x) ρ) → cLoop turn xs acc ρ = .ok (acc ++ xs.filterMap g) ρ
  | [], acc, _ => by simp
  | x :: xs, acc, h => by
    unfold cLoop
    rw [h x List.mem_cons_self, R.bind_ok, cLoop_pure _ fun y hy => h y (List.mem_cons_of_mem _ hy), List.filterMap_cons]
    cases g x <;> simp
/-- a comprehension that changes nothing -/
theorem cRun_pure {k : ItK} {t : Tg} {own : List Nat} {cond : Rho → R Bool} {elt : Rho → R Out} {os : List Out} {ρ : Rho} {xs : List D} {o : Out} (g : D → Option D) (h1 : itemsD k os ρ = some (xs, o)) (h2 : mayLend o ρ = true) (h3 : isKeys k = false) (h4 : idle ρ own = true) (h5 : (t.slots.all fun i => own.contains i) = true) (h6 : xs.length ≤ LIM)
    (h7 : ∀ x ∈ xs, cTurn t own cond elt x (wipeR (lendS o ρ) own) = .ok (g x) (wipeR (lendS o ρ) own)) : cRun k t own cond elt os ρ = .ok (.fresh (.list (xs.filterMap g))) (unlend o ρ (giveBack ρ (wipeR (lendS o ρ) own) own)) := by
  unfold cRun
  simp only [h1, h2, h3, h4, h5, h6]
  simp only [Bool.not_false, Bool.and_self, decide_true, if_true]
  rw [cLoop_pure [] h7]
  simp
theorem plainAll_mem : ∀ {xs : List D} {x : D}, PyData.plainAll xs = true → x ∈ xs → x.plain = true
  | y :: ys, x, h, hx => by
    simp only [PyData.plainAll, Bool.and_eq_true] at h
    rcases List.mem_cons.mp hx with e | hx
    · rw [e]
      exact h.1
    · exact plainAll_mem h.2 hx
theorem plainAll_of : ∀ {xs : List D}, (∀ x ∈ xs, x.plain = true) → PyData.plainAll xs = true
  | [], _ => by simp [PyData.plainAll]
  | x :: xs, h => by
    simp only [PyData.plainAll, Bool.and_eq_true]
    exact ⟨h x List.mem_cons_self, plainAll_of fun y hy => h y (List.mem_cons_of_mem _ hy)⟩
theorem depthAll_mem : ∀ {xs : List D} {d : D}, d ∈ xs → d.depth ≤ PyData.depthAll xs
  | x :: xs, d, h => by
    unfold PyData.depthAll
    rcases List.mem_cons.mp h with e | h
    · subst e
      exact Nat.le_max_left _ _
    · exact Nat.le_trans (depthAll_mem h) (Nat.le_max_right _ _)
theorem depthAll_le : ∀ {xs : List D} {n : Nat}, (∀ x ∈ xs, x.depth ≤ n) → PyData.depthAll xs ≤ n
  | [], n, _ => by simp [PyData.depthAll]
  | x :: xs, n, h => by
    unfold PyData.depthAll
    exact Nat.max_le.mpr ⟨h x List.mem_cons_self, depthAll_le fun y hy => h y (List.mem_cons_of_mem _ hy)⟩
theorem okD_iff' {d : D} : okD d = true ↔ d.plain = true ∧ d.depth ≤ 40 := by
  unfold okD DEP
  rw [Bool.and_eq_true, decide_eq_true_eq]
theorem okD_seq {xs : List D} (h : (∀ x ∈ xs, x.plain = true ∧ x.depth ≤ 39)) : okD (.list xs) = true ∧ okD (.tuple xs) = true := by
  have hp := plainAll_of fun x hx => (h x hx).1
  have hd := depthAll_le (n := 39) fun x hx => (h x hx).2
  rw [okD_iff', okD_iff']
  simp only [PyData.plain, PyData.depth, hp, true_and]
  omega
theorem okD_items {xs : List D} (h : okD (.list xs) = true ∨ okD (.tuple xs) = true) : ∀ x ∈ xs, x.plain = true ∧ x.depth ≤ 39 := by
  intro x hx
  have := depthAll_mem hx
  rw [okD_iff', okD_iff'] at h
  simp only [PyData.plain, PyData.depth, or_self] at h
  exact ⟨plainAll_mem h.1 hx, by omega⟩
theorem okD_plain {d : D} (h : okD d = true) : d.plain = true := by
  unfold okD at h
  rw [Bool.and_eq_true] at h
  exact h.1
theorem eqv_nil (xs : List D) : PyData.eqv (.list xs) (.list []) = xs.isEmpty := by
  cases xs <;> simp [PyData.eqv, PyData.eqvAll]
theorem cmp_nil {xs : List D} (h : okD (.list xs) = true) : cmpD .eq (.list xs) (.list []) = some xs.isEmpty := by
  have e : okD (.list []) = true := by simp [okD, PyData.plain, PyData.plainAll, PyData.depth, PyData.depthAll, DEP]
  simp [cmpD, h, e, eqv_nil]
def inB (a b : Int) : D → Bool
  | .int v => decide (a ≤ v) && decide (v ≤ b)
  | _ => false

/-! ### loops -/
theorem fLoop_ind {turn : D → Rho → R Fl} {xs : List D} {ρ : Rho} (P : Nat → Rho → Prop) (h0 : P 0 ρ) (hs : ∀ i (h : i < xs.length) ρ, P i ρ → ∃ ρ', turn xs[i] ρ = .ok .next ρ' ∧ P (i + 1) ρ') : ∃ ρ', fLoop turn xs ρ = .ok .next ρ' ∧ P xs.length ρ' := by
  have go : ∀ k i (ρ : Rho), i + k = xs.length → P i ρ → ∃ ρ', fLoop turn (xs.drop i) ρ = .ok .next ρ' ∧ P xs.length ρ' := by
    intro k
    induction k with
    | zero =>
      intro i ρ e p
      have e : i = xs.length := by omega
      subst e
      rw [List.drop_length]
      exact ⟨ρ, rfl, p⟩
    | succ k ih =>
      intro i ρ e p
      have hi : i < xs.length := by omega
      obtain ⟨ρ1, h1, p1⟩ := hs i hi ρ p
      obtain ⟨ρ2, h2, p2⟩ := ih (i + 1) ρ1 (by omega) p1
      refine ⟨ρ2, ?_, p2⟩
      rw [List.drop_eq_getElem_cons hi]
      unfold fLoop
      rw [h1]
      exact h2
  have := go xs.length 0 ρ (by omega) h0
  rwa [List.drop_zero] at this
/-- a loop that may answer early -/
theorem fLoop_ret {turn : D → Rho → R Fl} {xs : List D} {ρ : Rho} (P : Nat → Rho → Prop) (Q : Nat → Bool → D → Rho → Prop) (h0 : P 0 ρ)
    (hs : ∀ i (h : i < xs.length) ρ, P i ρ → (∃ ρ', turn xs[i] ρ = .ok .next ρ' ∧ P (i + 1) ρ') ∨ ∃ fr d ρ', turn xs[i] ρ = .ok (.ret fr d) ρ' ∧ Q i fr d ρ') :
    (∃ ρ', fLoop turn xs ρ = .ok .next ρ' ∧ P xs.length ρ') ∨ ∃ i fr d ρ', i < xs.length ∧ fLoop turn xs ρ = .ok (.ret fr d) ρ' ∧ Q i fr d ρ' := by
  have go : ∀ k i (ρ : Rho), i + k = xs.length → P i ρ → (∃ ρ', fLoop turn (xs.drop i) ρ = .ok .next ρ' ∧ P xs.length ρ') ∨ ∃ j fr d ρ', j < xs.length ∧ fLoop turn (xs.drop i) ρ = .ok (.ret fr d) ρ' ∧ Q j fr d ρ' := by
    intro k
    induction k with
    | zero =>
      intro i ρ e p
      have e : i = xs.length := by omega
      subst e
      rw [List.drop_length]
      exact .inl ⟨ρ, rfl, p⟩
    | succ k ih =>
      intro i ρ e p
      have hi : i < xs.length := by omega
      rw [List.drop_eq_getElem_cons hi]
      unfold fLoop
      rcases hs i hi ρ p with ⟨ρ1, h1, p1⟩ | ⟨fr, d, ρ1, h1, q⟩
      · rw [h1]
        rcases ih (i + 1) ρ1 (by omega) p1 with h | ⟨j, fr, d, ρ2, hj, h, q⟩
        · exact .inl h
        · exact .inr ⟨j, fr, d, ρ2, hj, h, q⟩
      · rw [h1]
        exact .inr ⟨i, fr, d, ρ1, hi, rfl, q⟩
  have := go xs.length 0 ρ (by omega) h0
  rwa [List.drop_zero] at this
theorem rngD_0 {n : Nat} (h : n ≤ LIM) : rngD 0 (n : Int) = some ((List.range n).map fun (i : Nat) => PyData.int (i : Int)) := by
  unfold rngD LIM at *
  rw [if_pos (by omega)]
  simp
theorem rngD_1 {n : Nat} (h : n ≤ LIM) : rngD 1 (n : Int) = some ((List.range (n - 1)).map fun (i : Nat) => PyData.int (1 + (i : Int))) := by
  unfold rngD LIM at *
  rw [if_pos (by omega)]
  have e : ((n : Int) - 1).toNat = n - 1 := by omega
  rw [e]
def turnOf (t : Tg) (body : Rho → R Fl) : D → Rho → R Fl := fun x ρ => bw (bindT t x ρ) (fun _ ρ' => body ρ') .mk
theorem fRun_of {k : ItK} {t : Tg} {body : Rho → R Fl} {os : List Out} {ρ : Rho} {xs : List D} {o : Out} (e : itemsD k os ρ = some (xs, o)) (hk : isKeys k = false) (hm : mayLend o ρ = true) : fRun k t body os ρ = onR (unlend o ρ) (fLoop (turnOf t body) xs (lendS o ρ)) := by
  unfold fRun
  simp only [e, hk, hm]
  rfl
theorem onR_id {α : Type} {f : Rho → Rho} (h : ∀ ρ, f ρ = ρ) (r : R α) : onR f r = r := by
  cases r <;> simp only [onR, h]
theorem items_r1 {o : Out} {ρ : Rho} {d : D} {n : Int} {xs : List D} (h1 : deref o ρ = some d) (h2 : intD d = some n) (h3 : rngD 0 n = some xs) : itemsD .rng1 [o] ρ = some (xs, .fz .none) := by
  unfold itemsD
  simp only [h1, h2, h3, Option.bind_some, Option.map_some]
theorem items_r2 {o p : Out} {ρ : Rho} {d e : D} {m n : Int} {xs : List D} (h1 : deref o ρ = some d) (h2 : intD d = some m) (h3 : deref p ρ = some e) (h4 : intD e = some n) (h5 : rngD m n = some xs) : itemsD .rng2 [o, p] ρ = some (xs, .fz .none) := by
  unfold itemsD
  simp only [h1, h2, h3, h4, h5, Option.bind_some, Option.map_some]
theorem items_rng1 {n : Nat} (ρ : Rho) (h : n ≤ LIM) : itemsD .rng1 [.fz (.int n)] ρ = some ((List.range n).map fun (i : Nat) => PyData.int (i : Int), .fz .none) := items_r1 (d := .int n) (n := n) rfl rfl (rngD_0 h)
theorem items_rng2 {n : Nat} (ρ : Rho) (h : n ≤ LIM) : itemsD .rng2 [.fz (.int 1), .fz (.int n)] ρ = some ((List.range (n - 1)).map fun (i : Nat) => PyData.int (1 + (i : Int)), .fz .none) := items_r2 (d := .int 1) (m := 1) (e := .int n) (n := n) rfl rfl rfl rfl (rngD_1 h)
theorem items_seq {d : D} {xs : List D} (ρ : Rho) (h : seqD d = some xs) : itemsD .seq [.fz d] ρ = some (xs, .fz d) := by
  show ((seqD d).map fun xs => (xs, Out.fz d)) = _
  rw [h]
  rfl
theorem fRun_rng1 {t : Tg} {body : Rho → R Fl} {ρ : Rho} {n : Nat} (h : n ≤ LIM) : fRun .rng1 t body [.fz (.int n)] ρ = fLoop (turnOf t body) ((List.range n).map fun (i : Nat) => PyData.int (i : Int)) ρ := by
  rw [fRun_of (items_rng1 ρ h) rfl rfl, onR_id (f := unlend (.fz .none) ρ) fun _ => rfl]
  rfl
theorem fRun_rng2 {t : Tg} {body : Rho → R Fl} {ρ : Rho} {n : Nat} (h : n ≤ LIM) : fRun .rng2 t body [.fz (.int 1), .fz (.int n)] ρ = fLoop (turnOf t body) ((List.range (n - 1)).map fun (i : Nat) => PyData.int (1 + (i : Int))) ρ := by
  rw [fRun_of (items_rng2 ρ h) rfl rfl, onR_id (f := unlend (.fz .none) ρ) fun _ => rfl]
  rfl
theorem fRun_seq {t : Tg} {body : Rho → R Fl} {ρ : Rho} {d : D} {xs : List D} (h : seqD d = some xs) : fRun .seq t body [.fz d] ρ = fLoop (turnOf t body) xs ρ := by
  rw [fRun_of (items_seq ρ h) rfl rfl, onR_id (f := unlend (.fz d) ρ) fun _ => rfl]
  rfl
theorem filterMap_map {α β γ : Type} (f : α → β) (g : β → Option γ) (l : List α) : (l.map f).filterMap g = l.filterMap fun x => g (f x) := by
  rw [List.filterMap_map]
  rfl
/-- over a range -/
theorem cRun_rng1 {t : Tg} {own : List Nat} {cond : Rho → R Bool} {elt : Rho → R Out} {ρ : Rho} {n : Nat} (g : Nat → Option D) (h : n ≤ LIM) (h4 : idle ρ own = true) (h5 : (t.slots.all fun i => own.contains i) = true)
    (h7 : ∀ i, i < n → cTurn t own cond elt (.int i) (wipeR ρ own) = .ok (g i) (wipeR ρ own)) : cRun .rng1 t own cond elt [.fz (.int n)] ρ = .ok (.fresh (.list ((List.range n).filterMap g))) (giveBack ρ (wipeR ρ own) own) := by
  have hx : ∀ x ∈ (List.range n).map fun (i : Nat) => PyData.int (i : Int), cTurn t own cond elt x (wipeR (lendS (.fz .none) ρ) own) = .ok ((fun d => match d with | .int i => g i.toNat | _ => none) x) (wipeR (lendS (.fz .none) ρ) own) := fun x hx => by
    obtain ⟨i, hi, rfl⟩ := List.mem_map.mp hx
    exact h7 i (List.mem_range.mp hi)
  rw [cRun_pure _ (items_rng1 ρ h) rfl rfl h4 h5 (by rw [List.length_map, List.length_range]; exact h) hx, filterMap_map]
  rfl
theorem cRun_seq {t : Tg} {own : List Nat} {cond : Rho → R Bool} {elt : Rho → R Out} {ρ : Rho} {d : D} {xs : List D} (g : D → Option D) (hd : seqD d = some xs) (h : xs.length ≤ LIM) (h4 : idle ρ own = true) (h5 : (t.slots.all fun i => own.contains i) = true)
    (h7 : ∀ x ∈ xs, cTurn t own cond elt x (wipeR ρ own) = .ok (g x) (wipeR ρ own)) : cRun .seq t own cond elt [.fz d] ρ = .ok (.fresh (.list (xs.filterMap g))) (giveBack ρ (wipeR ρ own) own) := by
  rw [cRun_pure g (items_seq ρ hd) rfl rfl h4 h5 h h7]
  rfl
/-! ### bags -/
def bg (b : List Int) : D := .tuple (b.map PyData.int)
theorem flats_ints (ns : List Int) : flats (ns.map PyData.int) = true := by
  induction ns with
  | nil => rfl
  | cons n ns ih => simp [ih]
@[simp] theorem flat_bg (b : List Int) : flat (bg b) = true := flats_ints b
theorem ok_ints (ns : List Int) : ∀ x ∈ ns.map PyData.int, x.plain = true ∧ x.depth ≤ 39 := by
  intro x hx
  obtain ⟨i, _, rfl⟩ := List.mem_map.mp hx
  simp [PyData.plain, PyData.depth]
theorem okD_bg (b : List Int) : okD (bg b) = true := (okD_seq (ok_ints b)).2
theorem plain_bg (b : List Int) : (bg b).plain = true := okD_plain (okD_bg b)
theorem depth_bg (b : List Int) : (bg b).depth ≤ 2 := by
  unfold bg
  simp only [PyData.depth]
  have := depthAll_le (xs := b.map PyData.int) (n := 1) fun x hx => by
    obtain ⟨i, _, rfl⟩ := List.mem_map.mp hx
    simp [PyData.depth]
  omega
theorem at_bg {b : List Int} {i : Nat} (h : i < b.length) : L2.atI (b.map PyData.int) (i : Int) = some (.int b[i]) := by
  rw [atI_nat (by simpa using h)]
  simp
/-- part is within bag -/
def hasB (bag part : List Int) : Bool := (List.range bag.length).all fun k => decide (part.getD k 0 ≤ bag.getD k 0)
def putB (bag left right : List Int) : List Int := (List.range bag.length).map fun k => bag.getD k 0 - left.getD k 0 + right.getD k 0
end DL
namespace DL
open PySem hiding exec execs settle finish
open PySem.W
/-! ### slots that take something else -/
def freeS : Sl → Bool
  | .io _ => false
  | .lent _ => false
  | _ => true
def idlS : Sl → Bool
  | .no => true
  | .fz _ => true
  | _ => false
@[simp] theorem freeS_no : freeS .no = true := id rfl
@[simp] theorem freeS_fz (d : D) : freeS (.fz d) = true := id rfl
@[simp] theorem freeS_ow (d : D) : freeS (.ow d) = true := id rfl
@[simp] theorem idlS_no : idlS .no = true := id rfl
@[simp] theorem idlS_fz (d : D) : idlS (.fz d) = true := id rfl
theorem idl_free {s : Sl} (h : idlS s = true) : freeS s = true := by cases s <;> first | rfl | cases h
theorem setS_free {ρ : Rho} {i : Nat} {y : Sl} (h : (ρ[i]?).map freeS = some true) : setS i y ρ = .ok () (ρ.set i y) := by
  unfold setS
  cases e : ρ[i]? with
  | none =>
    rw [e] at h
    cases h
  | some x =>
    rw [e] at h
    cases x <;> first | rfl | cases h
theorem idle_iff {ρ : Rho} {vs : List Nat} (h : ∀ v ∈ vs, (ρ[v]?).map idlS = some true) : idle ρ vs = true := by
  unfold idle
  rw [List.all_eq_true]
  intro v hv
  have := h v hv
  cases e : ρ[v]? with
  | none =>
    rw [e] at this
    cases this
  | some x =>
    rw [e] at this
    cases x <;> first | rfl | cases this
/-! ### rules and exchanges -/
abbrev Rule := List Int × List Int
def rl (r : Rule) : D := .tuple [bg r.1, bg r.2]
def rls (rs : List Rule) : List D := rs.map rl
def exD (e : Nat × Nat × List Int) : D := .tuple [.int e.1, .int e.2.1, bg e.2.2]
def exc1 (p : Nat) (r : Rule) (bag : List Int) : List (Nat × Nat × List Int) := (if hasB bag r.1 then [(p, 0, putB bag r.1 r.2)] else []) ++ (if hasB bag r.2 then [(p, 1, putB bag r.2 r.1)] else [])
def exAcc (rs : List Rule) (bag : List Int) (i : Nat) : List (Nat × Nat × List Int) := (List.range i).flatMap fun p => exc1 p (rs.getD p ([], [])) bag
def excs (rs : List Rule) (bag : List Int) : List (Nat × Nat × List Int) := exAcc rs bag rs.length
theorem exAcc_succ (rs : List Rule) (bag : List Int) (i : Nat) : exAcc rs bag (i + 1) = exAcc rs bag i ++ exc1 i (rs.getD i ([], [])) bag := by
  unfold exAcc
  rw [List.range_succ, List.flatMap_append, List.flatMap_singleton]
theorem exc1_len (p : Nat) (r : Rule) (bag : List Int) : (exc1 p r bag).length ≤ 2 := by
  unfold exc1
  rw [List.length_append]
  split <;> split <;> simp
theorem exAcc_len (rs : List Rule) (bag : List Int) (i : Nat) : (exAcc rs bag i).length ≤ 2 * i := by
  induction i with
  | zero => simp [exAcc]
  | succ i ih =>
    rw [exAcc_succ, List.length_append]
    have := exc1_len i (rs.getD i ([], [])) bag
    omega
/-- all bags of the rules are of k kinds -/
def Kinds (k : Nat) (rs : List Rule) : Prop := ∀ r ∈ rs, r.1.length = k ∧ r.2.length = k
theorem at_rls {rs : List Rule} {i : Nat} (h : i < rs.length) : L2.atI (rls rs) (i : Int) = some (rl rs[i]) := by
  unfold rls
  rw [atI_nat (by simpa using h)]
  simp
@[simp] theorem rls_length (rs : List Rule) : (rls rs).length = rs.length := by simp [rls]
theorem flats_exD (l : List (Nat × Nat × List Int)) : flats (l.map exD) = true := by
  induction l with
  | nil => rfl
  | cons e l ih => simp [ih, exD]
end DL
namespace DL
open PySem hiding exec execs settle finish
open PySem.W
/-! ### a loop, turn by turn -/
def lq (r : R Fl) (f : Rho → R Fl) (_ : Tg3 f) : R Fl := match r with
  | .bad => .bad
  | .exc c ρ' => .exc c ρ'
  | .ok .next ρ' => f ρ'
  | .ok .cont ρ' => f ρ'
  | .ok .brk ρ' => .ok .next ρ'
  | .ok (.ret fr d) ρ' => .ok (.ret fr d) ρ'
section
variable (ρ : Rho)
@[simp] theorem lq_next (f : Rho → R Fl) (t : Tg3 f) : lq (.ok .next ρ) f t = f ρ := id rfl
@[simp] theorem lq_cont (f : Rho → R Fl) (t : Tg3 f) : lq (.ok .cont ρ) f t = f ρ := id rfl
@[simp] theorem lq_brk (f : Rho → R Fl) (t : Tg3 f) : lq (.ok .brk ρ) f t = .ok .next ρ := id rfl
@[simp] theorem lq_ret (fr : Bool) (d : D) (f : Rho → R Fl) (t : Tg3 f) : lq (.ok (.ret fr d) ρ) f t = .ok (.ret fr d) ρ := id rfl
@[simp] theorem lq_exc (k : Nat) (f : Rho → R Fl) (t : Tg3 f) : lq (.exc k ρ) f t = .exc k ρ := id rfl
@[simp] theorem lq_bw {α : Type} (r : R α) (g : α → Rho → R Fl) (f : Rho → R Fl) (t : Tg1 g) (u : Tg3 f) : lq (bw r g t) f u = bw r (fun a ρ => lq (g a ρ) f .mk) .mk := by
  cases r <;> rfl
theorem fLoop_lq (turn : D → Rho → R Fl) (x : D) (xs : List D) : fLoop turn (x :: xs) ρ = lq (turn x ρ) (fun ρ' => fLoop turn xs ρ') .mk := id rfl
theorem turnOf_d (t : Tg) (body : Rho → R Fl) (x : D) : turnOf t body x ρ = bw (bindT t x ρ) (fun _ ρ' => body ρ') .mk := id rfl
theorem fRun_two (t : Tg) (body : Rho → R Fl) : fRun .rng1 t body [.fz (.int 2)] ρ = fLoop (turnOf t body) [.int 0, .int 1] ρ := fRun_rng1 (n := 2) (by unfold LIM; omega)
theorem fRun_three (t : Tg) (body : Rho → R Fl) : fRun .rng1 t body [.fz (.int 3)] ρ = fLoop (turnOf t body) [.int 0, .int 1, .int 2] ρ := fRun_rng1 (n := 3) (by unfold LIM; omega)
end
theorem atI_two0 {α : Type} (a b : α) : L2.atI [a, b] 0 = some a := id rfl
theorem atI_two1 {α : Type} (a b : α) : L2.atI [a, b] 1 = some b := id rfl
end DL
namespace DL
open PySem hiding exec execs settle finish
open PySem.W
theorem eqv_bgs : ∀ a b : List Int, PyData.eqvAll (a.map PyData.int) (b.map PyData.int) = decide (a = b)
  | [], [] => by simp [PyData.eqvAll]
  | [], _ :: _ => by simp [PyData.eqvAll]
  | _ :: _, [] => by simp [PyData.eqvAll]
  | x :: a, y :: b => by
    have ih := eqv_bgs a b
    simp only [List.map_cons, PyData.eqvAll, ih, PyData.eqv]
    by_cases h : x = y <;> simp [h]
theorem eqv_bg (a b : List Int) : PyData.eqv (bg a) (bg b) = decide (a = b) := by
  unfold bg
  simp only [PyData.eqv, eqv_bgs]
theorem cmp_eq_bg (a b : List Int) : cmpD .eq (bg a) (bg b) = some (decide (a = b)) := by
  simp [cmpD, okD_bg, eqv_bg]
theorem cmp_ne_bg (a b : List Int) : cmpD .ne (bg a) (bg b) = some (!decide (a = b)) := by
  simp [cmpD, okD_bg, eqv_bg]
def partsIn (m : Int) (b : List Int) : Bool := b.all fun x => decide (0 ≤ x) && decide (x ≤ m)
theorem inB_ints (m : Int) (b : List Int) : (b.map PyData.int).all (inB 0 m) = partsIn m b := by
  unfold partsIn
  rw [List.all_map]
  rfl
theorem flat_rl (r : Rule) : flat (rl r) = true := by simp [rl]
theorem plain_rl (r : Rule) : (rl r).plain = true := by
  unfold rl
  simp [PyData.plain, PyData.plainAll, plain_bg]
/-- what the program takes as rules of k kinds -/
structure RulesOk (k : Nat) (rs : List Rule) : Prop where
  n1 : 1 ≤ rs.length
  n4 : rs.length ≤ 4
  k1 : 1 ≤ k
  k3 : k ≤ 3
  kinds : Kinds k rs
  parts : ∀ r ∈ rs, partsIn 4 r.1 = true ∧ partsIn 4 r.2 = true
  ne : ∀ r ∈ rs, r.1 ≠ r.2
end DL
namespace DL
open PySem hiding exec execs settle finish
open PySem.W
theorem cLoop_ind {turn : D → Rho → R (Option D)} {xs : List D} {ρ : Rho} (P : Nat → List D → Rho → Prop) (h0 : P 0 [] ρ) (hs : ∀ i (h : i < xs.length) acc ρ, P i acc ρ → ∃ o ρ', turn xs[i] ρ = .ok o ρ' ∧ P (i + 1) (match o with | some y => acc ++ [y] | none => acc) ρ') : ∃ acc ρ', cLoop turn xs [] ρ = .ok acc ρ' ∧ P xs.length acc ρ' := by
  have go : ∀ k i acc (ρ : Rho), i + k = xs.length → P i acc ρ → ∃ acc' ρ', cLoop turn (xs.drop i) acc ρ = .ok acc' ρ' ∧ P xs.length acc' ρ' := by
    intro k
    induction k with
    | zero =>
      intro i acc ρ e p
      have e : i = xs.length := by omega
      subst e
      rw [List.drop_length]
      exact ⟨acc, ρ, rfl, p⟩
    | succ k ih =>
      intro i acc ρ e p
      have hi : i < xs.length := by omega
      obtain ⟨o, ρ1, h1, p1⟩ := hs i hi acc ρ p
      obtain ⟨acc2, ρ2, h2, p2⟩ := ih (i + 1) _ ρ1 (by omega) p1
      refine ⟨acc2, ρ2, ?_, p2⟩
      rw [List.drop_eq_getElem_cons hi]
      unfold cLoop
      rw [h1]
      exact h2
  have := go xs.length 0 [] ρ (by omega) h0
  rwa [List.drop_zero] at this
theorem cRun_of {k : ItK} {t : Tg} {own : List Nat} {cond : Rho → R Bool} {elt : Rho → R Out} {os : List Out} {ρ ρ2 : Rho} {xs ds : List D} {o : Out} (h1 : itemsD k os ρ = some (xs, o)) (h2 : mayLend o ρ = true) (h3 : isKeys k = false) (h4 : idle ρ own = true) (h5 : (t.slots.all fun i => own.contains i) = true) (h6 : xs.length ≤ LIM)
    (h7 : cLoop (cTurn t own cond elt) xs [] (wipeR (lendS o ρ) own) = .ok ds ρ2) : cRun k t own cond elt os ρ = .ok (.fresh (.list ds)) (unlend o ρ (giveBack ρ ρ2 own)) := by
  unfold cRun
  simp only [h1, h2, h3, h4, h5, h6]
  simp only [Bool.not_false, Bool.and_self, decide_true, if_true]
  rw [h7]
  rfl
theorem wStep_on {t : Rho → R Bool} {body : Rho → R Fl} {ρ ρ1 ρ2 : Rho} (h1 : t ρ = .ok true ρ1) (h2 : body ρ1 = .ok .next ρ2) : wStep t body ρ = .inr ρ2 := by
  unfold wStep
  simp only [h1, h2]
theorem wStep_off {t : Rho → R Bool} {body : Rho → R Fl} {ρ ρ1 : Rho} (h1 : t ρ = .ok false ρ1) : wStep t body ρ = .inl (.ok .next ρ1) := by
  unfold wStep
  simp only [h1]
/-- a while that counts -/
theorem wRun_cnt {t : Rho → R Bool} {body : Rho → R Fl} {ρ : Rho} (P : Nat → Rho → Prop) (m : Nat) (h0 : P 0 ρ) (hs : ∀ i, i < m → ∀ ρ, P i ρ → ∃ ρ1 ρ2, t ρ = .ok true ρ1 ∧ body ρ1 = .ok .next ρ2 ∧ P (i + 1) ρ2) (hd : ∀ ρ, P m ρ → t ρ = .ok false ρ) :
    ∃ ρ', wRun (wStep t body) ρ = .ok .next ρ' ∧ P m ρ' := by
  have go : ∀ k i (ρ : Rho), i + k = m → P i ρ → ∃ ρ', wRun (wStep t body) ρ = .ok .next ρ' ∧ P m ρ' := by
    intro k
    induction k with
    | zero =>
      intro i ρ e p
      have e : i = m := by omega
      subst e
      exact ⟨ρ, wRun_done (wStep_off (hd ρ p)), p⟩
    | succ k ih =>
      intro i ρ e p
      obtain ⟨ρ1, ρ2, h1, h2, p2⟩ := hs i (by omega) ρ p
      obtain ⟨ρ3, h3, p3⟩ := ih (i + 1) ρ2 (by omega) p2
      exact ⟨ρ3, by rw [wRun_on (wStep_on h1 h2)]; exact h3, p3⟩
  exact go m 0 ρ (by omega) h0
def drw (nums : List Int) (a : Nat) : D := .list [.list (nums.map PyData.int), .int a]
@[simp] theorem flatO_drw (nums : List Int) (a : Nat) (r : List (Option D)) : flatO (some (drw nums a) :: r) = false := id rfl
end DL
namespace DL
open PySem hiding exec execs settle finish
open PySem.W
theorem slice_tup (xs : List D) (lo hi : Option Int) : sliceD (.tuple xs) lo hi = some (false, .tuple ((xs.drop (HT.sIx xs.length 0 lo)).take (HT.sIx xs.length xs.length hi - HT.sIx xs.length 0 lo))) := id rfl
theorem slice_list (xs : List D) (lo hi : Option Int) : sliceD (.list xs) lo hi = some (true, .list ((xs.drop (HT.sIx xs.length 0 lo)).take (HT.sIx xs.length xs.length hi - HT.sIx xs.length 0 lo))) := id rfl
theorem slice_to (b : List Int) (j : Nat) : sliceD (.tuple (b.map PyData.int)) none (some (j : Int)) = some (false, .tuple ((b.take j).map PyData.int)) := by
  rw [slice_tup, HT.sIx_nat, HT.sIx_none]
  simp only [List.drop_zero, Nat.sub_zero, List.map_take]
  congr 3
  rw [List.take_eq_take_iff]
  simp
end DL
namespace DL
open PySem hiding exec execs settle finish
open PySem.W
def nxt (rs : List Rule) (b : List Int) : List (List Int) := (excs rs b).map (·.2.2)
theorem excs_mem {rs : List Rule} {b : List Int} {e : Nat × Nat × List Int} (h : e ∈ excs rs b) : ∃ r ∈ rs, (hasB b r.1 = true ∧ e.2.2 = putB b r.1 r.2) ∨ (hasB b r.2 = true ∧ e.2.2 = putB b r.2 r.1) := by
  unfold excs exAcc at h
  obtain ⟨p, hp, he⟩ := List.mem_flatMap.mp h
  have hp := List.mem_range.mp hp
  have hg : rs.getD p ([], []) = rs[p] := by simp [List.getD_eq_getElem?_getD, hp]
  rw [hg] at he
  refine ⟨rs[p], List.getElem_mem hp, ?_⟩
  unfold exc1 at he
  rcases List.mem_append.mp he with he | he
  · split at he
    · rename_i c
      rw [List.mem_singleton.mp he]
      exact .inl ⟨c, rfl⟩
    · cases he
  · split at he
    · rename_i c
      rw [List.mem_singleton.mp he]
      exact .inr ⟨c, rfl⟩
    · cases he
theorem putB_len (b l r : List Int) : (putB b l r).length = b.length := by simp [putB]
def nonneg (b : List Int) : Prop := ∀ x ∈ b, 0 ≤ x
theorem putB_nonneg {b l r : List Int} (h : hasB b l = true) (hr : nonneg r) : nonneg (putB b l r) := by
  intro x hx
  unfold putB at hx
  obtain ⟨k, hk, rfl⟩ := List.mem_map.mp hx
  unfold hasB at h
  rw [List.all_eq_true] at h
  have h1 := h k hk
  simp only [decide_eq_true_eq] at h1
  have h2 : 0 ≤ r.getD k 0 := by
    rw [List.getD_eq_getElem?_getD]
    cases e : r[k]? with
    | none => simp
    | some y => exact hr y (List.mem_of_getElem? e)
  omega
theorem parts_nonneg {m : Int} {b : List Int} (h : partsIn m b = true) : nonneg b := by
  intro x hx
  unfold partsIn at h
  rw [List.all_eq_true] at h
  have := h x hx
  simp at this
  exact this.1
theorem nxt_ok {k : Nat} {rs : List Rule} {b c : List Int} (h : RulesOk k rs) (hb : b.length = k) (hc : c ∈ nxt rs b) : c.length = k ∧ nonneg c := by
  unfold nxt at hc
  obtain ⟨e, he, rfl⟩ := List.mem_map.mp hc
  obtain ⟨r, hr, h1 | h1⟩ := excs_mem he
  · rw [h1.2, putB_len]
    exact ⟨hb, putB_nonneg h1.1 (parts_nonneg (h.parts r hr).2)⟩
  · rw [h1.2, putB_len]
    exact ⟨hb, putB_nonneg h1.1 (parts_nonneg (h.parts r hr).1)⟩
def maxB (b : List Int) : Int := b.tail.foldl max (b.headD 0)
theorem foldl_max_le (m : Int) : ∀ (l : List Int) (a : Int), l.foldl max a ≤ m ↔ a ≤ m ∧ ∀ x ∈ l, x ≤ m
  | [], a => by simp
  | x :: l, a => by
    rw [List.foldl_cons, foldl_max_le m l (max a x), Int.max_le]
    simp [and_assoc]
theorem maxB_le {b : List Int} {m : Int} (hb : b ≠ []) : maxB b ≤ m ↔ ∀ x ∈ b, x ≤ m := by
  cases b with
  | nil => exact absurd rfl hb
  | cons x l =>
    unfold maxB
    simp [foldl_max_le]
theorem alike_ints' : ∀ a b : List Int, alikeAllB (a.map PyData.int) = true := fun a _ => by
  unfold alikeAllB
  rw [List.all_eq_true]
  intro x hx
  rw [List.all_eq_true]
  intro y hy
  obtain ⟨i, _, rfl⟩ := List.mem_map.mp hx
  obtain ⟨j, _, rfl⟩ := List.mem_map.mp hy
  simp [alike]
theorem bi_max_bg {b : List Int} (hb : b ≠ []) : biD .max [bg b] = some (false, .int (maxB b)) := by
  cases b with
  | nil => exact absurd rfl hb
  | cons x l =>
    have h1 := alike_ints' (x :: l) []
    have h2 := (okD_seq (ok_ints (x :: l))).1
    rw [List.map_cons] at h1 h2
    show one1 (fun d => (seqD d).bind (pickD maxD)) [bg (x :: l)] = _
    unfold one1 bg
    simp only [seqD_tup, Option.bind_some, List.map_cons]
    show (if (alikeAllB (PyData.int x :: l.map PyData.int) && okD (PyData.list (PyData.int x :: l.map PyData.int)) && notNone (.int x)) = true then some (false, maxD (.int x) (l.map PyData.int)) else none) = _
    rw [h1, h2]
    simp [notNone, maxD_ints, maxB]
end DL
end

section
set_option Elab.async false
set_option linter.all false
set_option maxRecDepth 100000
set_option autoImplicit false
namespace K40
open PySem hiding exec execs settle finish
open PySem.W DL
theorem is_within_ok (n : Nat) (d : D) (a b : Int) (h : d.plain = true) : runF T (n + 1) n_is_within [d, .int a, .int b] = some (.ret false (.bool (inB a b d)) [none, none, none]) := by
  rw [run_def at_is_within rfl]
  cases d <;> simp [fd_is_within, startR, exs_one, h, isaD, PyData.isInt, PyData.isBool, inB]
  rename_i v
  by_cases h1 : a ≤ v
  · simp [h1]
  · simp [h1]
theorem is_tuple_ok (n : Nat) (d : D) (k : Int) (h : d.plain = true) : runF T (n + 1) n_is_tuple [d, .int k] = some (.ret false (.bool (match d with | .tuple xs => decide ((xs.length : Int) = k) | _ => false)) [none, none]) := by
  rw [run_def at_is_tuple rfl]
  cases d <;> simp [fd_is_tuple, startR, exs_one, h, isaD, PyData.isTuple, biD, one1, lenD]
def isBag (d : D) (kinds most : Int) : Bool := match d with
  | .tuple xs => decide ((xs.length : Int) = kinds) && xs.all (inB 0 most)
  | _ => false
theorem is_bag_of_ok (n : Nat) (d : D) (kinds most : Int) (h : okD d = true) (hl : ∀ xs, d = .tuple xs → xs.length ≤ LIM) : runF T (n + 2) n_is_bag_of [d, .int kinds, .int most] = some (.ret false (.bool (isBag d kinds most)) [none, none, none]) := by
  rw [run_def at_is_bag_of rfl]
  have h1 := is_tuple_ok n d kinds (okD_plain h)
  cases d with
  | tuple xs =>
    have hc : cRun .seq (.nm 3) [3] (condT (.not (.call n_is_within [.var 3, .con (.int 0), .var 2])) (ev ⟨runF T (n + 1), T.md⟩ (.not (.call n_is_within [.var 3, .con (.int 0), .var 2])))) (ev ⟨runF T (n + 1), T.md⟩ (.var 3)).P [.fz (.tuple xs)] [.fz (.tuple xs), .fz (.int kinds), .fz (.int most), .no] =
          .ok (.fresh (.list (xs.filterMap fun x => if inB 0 most x then none else some x))) [.fz (.tuple xs), .fz (.int kinds), .fz (.int most), .no] := by
      rw [cRun_pure (xs := xs) (o := .fz (.tuple xs)) (fun x => if inB 0 most x then none else some x) (by rfl) (by rfl) (by rfl) (by rfl) (by rfl) (hl xs rfl) (fun x hx => ?_)]
      · simp [lendS, wipeR, giveBack, unlend]
      · have := is_within_ok n x 0 most (okD_items (.inr h) x hx).1
        simp [cTurn_eq, lendS, wipeR, setS, callF_d, okSlots_d, this]
        cases inB 0 most x <;> simp [wipeR]
    simp [fd_is_bag_of, startR, exs_one, callF_d, okSlots_d, h1, isBag, hc]
    have hs : okD (.list (xs.filterMap fun x => if inB 0 most x then none else some x)) = true := by
      refine (okD_seq fun y hy => ?_).1
      obtain ⟨x, hx, e⟩ := List.mem_filterMap.mp hy
      split at e
      · cases e
      · cases e
        exact okD_items (.inr h) y hx
    rw [cmp_nil hs]
    have he : (xs.filterMap fun x => if inB 0 most x then none else some x).isEmpty = xs.all (inB 0 most) := by
      clear hc hs h1 h hl
      induction xs with
      | nil => rfl
      | cons x xs ih =>
        rw [List.filterMap_cons, List.all_cons]
        cases inB 0 most x
        · simp
        · simpa using ih
    rw [he]
    by_cases hk : (xs.length : Int) = kinds <;> simp [hk]
  | _ => simp [fd_is_bag_of, startR, exs_one, callF_d, okSlots_d, h1, isBag]
theorem is_within_bag_ok (n : Nat) (one bag : List Int) (h : one.length = bag.length) (hl : bag.length ≤ LIM) : runF T (n + 1) n_is_within_bag [bg one, bg bag] = some (.ret false (.bool (hasB bag one)) [none, none]) := by
  rw [run_def at_is_within_bag rfl]
  have hc : cRun .rng1 (.nm 2) [2] (condT (.cmp .gt (.sub (.var 0) (.var 2)) (.sub (.var 1) (.var 2))) (ev ⟨runF T n, T.md⟩ (.cmp .gt (.sub (.var 0) (.var 2)) (.sub (.var 1) (.var 2))))) (ev ⟨runF T n, T.md⟩ (.var 2)).P [.fz (.int bag.length)] [.fz (.tuple (one.map .int)), .fz (.tuple (bag.map .int)), .no] =
      .ok (.fresh (.list ((List.range bag.length).filterMap fun (k : Nat) => if bag.getD k 0 < one.getD k 0 then some (.int k) else none))) [.fz (.tuple (one.map .int)), .fz (.tuple (bag.map .int)), .no] := by
    rw [cRun_rng1 (fun k => if bag.getD k 0 < one.getD k 0 then some (.int k) else none) hl (by rfl) (by rfl) fun i hi => ?_]
    · simp [wipeR, giveBack]
    · have h1 : i < one.length := by omega
      simp [cTurn_eq, wipeR, setS, at_bg hi, at_bg h1, List.getD_eq_getElem?_getD, hi, h1]
      by_cases hk : bag[i] < one[i] <;> simp [hk, wipeR]
  simp [fd_is_within_bag, startR, exs_one, bg, hc]
  have hs : okD (.list ((List.range bag.length).filterMap fun (k : Nat) => if bag.getD k 0 < one.getD k 0 then some (PyData.int (k : Int)) else none)) = true := by
    refine (okD_seq fun y hy => ?_).1
    obtain ⟨x, hx, e⟩ := List.mem_filterMap.mp hy
    split at e
    · cases e
      simp [PyData.plain, PyData.depth]
    · cases e
  simp only [List.getD_eq_getElem?_getD] at hs
  rw [cmp_nil hs]
  have he : ((List.range bag.length).filterMap fun (k : Nat) => if (bag[k]?).getD 0 < (one[k]?).getD 0 then some (PyData.int (k : Int)) else none).isEmpty = hasB bag one := by
    unfold hasB
    generalize List.range bag.length = l
    clear hc hs
    induction l with
    | nil => rfl
    | cons k l ih =>
      rw [List.filterMap_cons, List.all_cons, ← ih]
      simp only [List.getD_eq_getElem?_getD]
      by_cases hk : (bag[k]?).getD 0 < (one[k]?).getD 0
      · simp [hk, Int.not_le.mpr hk]
      · simp [hk, Int.not_lt.mp hk]
  rw [he]
  simp
theorem put_go (n : Nat) (bag left right : List Int) (hl : left.length = bag.length) (hr : right.length = bag.length) (hm : bag.length ≤ LIM) : cRun .rng1 (.nm 3) [3] (condT .nop (ev ⟨runF T n, T.md⟩ .nop)) (ev ⟨runF T n, T.md⟩ (.bin .add (.bin .sub (.sub (.var 0) (.var 3)) (.sub (.var 1) (.var 3))) (.sub (.var 2) (.var 3)))).P [.fz (.int bag.length)]
    [.fz (.tuple (bag.map .int)), .fz (.tuple (left.map .int)), .fz (.tuple (right.map .int)), .no] = .ok (.fresh (.list ((putB bag left right).map .int))) [.fz (.tuple (bag.map .int)), .fz (.tuple (left.map .int)), .fz (.tuple (right.map .int)), .no] := by
  rw [cRun_rng1 (fun k => some (.int (bag.getD k 0 - left.getD k 0 + right.getD k 0))) hm (by rfl) (by rfl) fun i hi => ?_]
  · simp [wipeR, giveBack, putB]
  · have h1 : i < left.length := by omega
    have h2 : i < right.length := by omega
    simp [cTurn_eq, wipeR, setS, at_bg hi, at_bg h1, at_bg h2, List.getD_eq_getElem?_getD, hi, h1, h2]
theorem put_for_ok (n : Nat) (bag left right : List Int) (hl : left.length = bag.length) (hr : right.length = bag.length) (hm : bag.length ≤ LIM) : runF T (n + 1) n_put_for [bg bag, bg left, bg right] = some (.ret false (bg (putB bag left right)) [none, none, none]) := by
  rw [run_def at_put_for rfl]
  simp [fd_put_for, startR, exs_one, bg, put_go n bag left right hl hr hm]
theorem law_put_ok (n : Nat) (bag left right : List Int) (hl : left.length = bag.length) (hr : right.length = bag.length) (hm : bag.length ≤ LIM) : runF T (n + 1) n__law_put [bg bag, bg left, bg right] = some (.ret false (bg (putB bag left right)) [none, none, none]) := by
  rw [run_def at__law_put rfl]
  simp [fd__law_put, startR, exs_one, bg, put_go n bag left right hl hr hm]
theorem law_has_ok (n : Nat) (one bag : List Int) (h : one.length = bag.length) (hl : bag.length ≤ LIM) : runF T (n + 1) n__law_has [bg bag, bg one] = some (.ret false (.bool (hasB bag one)) [none, none]) := by
  rw [run_def at__law_has rfl]
  have hc : cRun .rng1 (.nm 2) [2] (condT (.cmp .gt (.sub (.var 1) (.var 2)) (.sub (.var 0) (.var 2))) (ev ⟨runF T n, T.md⟩ (.cmp .gt (.sub (.var 1) (.var 2)) (.sub (.var 0) (.var 2))))) (ev ⟨runF T n, T.md⟩ (.var 2)).P [.fz (.int bag.length)] [.fz (.tuple (bag.map .int)), .fz (.tuple (one.map .int)), .no] =
      .ok (.fresh (.list ((List.range bag.length).filterMap fun (k : Nat) => if bag.getD k 0 < one.getD k 0 then some (.int k) else none))) [.fz (.tuple (bag.map .int)), .fz (.tuple (one.map .int)), .no] := by
    rw [cRun_rng1 (fun k => if bag.getD k 0 < one.getD k 0 then some (.int k) else none) hl (by rfl) (by rfl) fun i hi => ?_]
    · simp [wipeR, giveBack]
    · have h1 : i < one.length := by omega
      simp [cTurn_eq, wipeR, setS, at_bg hi, at_bg h1, List.getD_eq_getElem?_getD, hi, h1]
      by_cases hk : bag[i] < one[i] <;> simp [hk, wipeR]
  simp only [List.getD_eq_getElem?_getD] at hc
  simp [fd__law_has, startR, exs_one, bg, hc]
  unfold hasB
  rw [Bool.eq_iff_iff]
  simp
end K40
end

section
set_option Elab.async false
set_option linter.all false
set_option maxRecDepth 100000
set_option autoImplicit false
namespace K40
open PySem hiding exec execs settle finish
open PySem.W DL
theorem all_exchanges_ok (n k : Nat) (rs : List Rule) (bag : List Int) (hk : Kinds k rs) (hb : bag.length = k) (hkm : k ≤ 100) (hr : rs.length ≤ 100) : runF T (n + 2) n_all_exchanges [.list (rls rs), bg bag] = some (.ret true (.list ((excs rs bag).map exD)) [none, none]) := by
  rw [run_def at_all_exchanges rfl]
  have hL : LIM = 1000000 := rfl
  have hm : bag.length ≤ LIM := by omega
  have W := fun (one : List Int) (h : one.length = bag.length) => is_within_bag_ok n one bag h hm
  have PF := fun (l r : List Int) (hl : l.length = bag.length) (hr : r.length = bag.length) => put_for_ok n bag l r hl hr hm
  generalize runF T (n + 1) = Φ at W PF ⊢
  have loop := fLoop_ind (turn := turnOf (.nm 3) (execs ⟨⟨Φ, T.md⟩, T.sub⟩ [.asg (.tp [4, 5]) (.sub (.var 0) (.var 3)), .ifS (.call n_is_within_bag [.var 4, .var 1]) [.expr (.app (.var 2) (.tup [.var 3, .con (.int 0), .call n_put_for [.var 1, .var 4, .var 5]]))] [], .ifS (.call n_is_within_bag [.var 5, .var 1]) [.expr (.app (.var 2) (.tup [.var 3, .con (.int 1), .call n_put_for [.var 1, .var 5, .var 4]]))] []]))
    (xs := (List.range rs.length).map fun (i : Nat) => PyData.int (i : Int)) (ρ := [.fz (.list (rls rs)), .fz (bg bag), .ow (.list []), .no, .no, .no])
    (fun i ρ => ∃ s3 s4 s5, freeS s3 = true ∧ freeS s4 = true ∧ freeS s5 = true ∧ ρ = [.fz (.list (rls rs)), .fz (bg bag), .ow (.list ((exAcc rs bag i).map exD)), s3, s4, s5]) ⟨.no, .no, .no, rfl, rfl, rfl, rfl⟩ (fun i hi ρ ⟨s3, s4, s5, h3, h4, h5, e⟩ => ?_)
  · obtain ⟨ρ', h1, s3, s4, s5, h3, h4, h5, e⟩ := loop
    subst e
    rw [List.length_map, List.length_range] at h1
    simp [fd_all_exchanges, startR, exs_sq, setS_free, fRun_rng1 (show rs.length ≤ LIM by omega), h1]
    rfl
  · subst e
    rw [List.length_map, List.length_range] at hi
    have hri : rs[i] ∈ rs := List.getElem_mem hi
    obtain ⟨k1, k2⟩ := hk _ hri
    have w1 := W rs[i].1 (by omega)
    have w2 := W rs[i].2 (by omega)
    have p1 := PF rs[i].1 rs[i].2 (by omega) (by omega)
    have p2 := PF rs[i].2 rs[i].1 (by omega) (by omega)
    have hA := exAcc_len rs bag i
    have hA1 : (exAcc rs bag i).length < 1000000 := by omega
    have hA2 : (exAcc rs bag i).length + 1 < 1000000 := by omega
    have hg : rs.getD i ([], []) = rs[i] := by simp [List.getD_eq_getElem?_getD, hi]
    simp only [List.getElem_map, List.getElem_range]
    rw [exAcc_succ, hg]
    unfold exc1
    cases c1 : hasB bag rs[i].1 <;> cases c2 : hasB bag rs[i].2
    all_goals
      rw [c1] at w1
      rw [c2] at w2
      refine ⟨[.fz (.list (rls rs)), .fz (bg bag), .ow (.list (((exAcc rs bag i) ++ ((if _ then [(i, 0, putB bag rs[i].1 rs[i].2)] else []) ++ (if _ then [(i, 1, putB bag rs[i].2 rs[i].1)] else []))).map exD)), .fz (.int i), .fz (bg rs[i].1), .fz (bg rs[i].2)], ?_, _, _, _, rfl, rfl, rfl, rfl⟩
      simp [turnOf, setS_free, h3, h4, h5, exs_sq, at_rls hi, rl, callF_d, okSlots_d, w1, w2, p1, p2, exD, hL, hA1, hA2]
end K40
end

section
set_option Elab.async false
set_option linter.all false
set_option maxRecDepth 100000
set_option autoImplicit false
namespace K40
open PySem hiding exec execs settle finish
open PySem.W DL
theorem law_exchanges_ok (n k : Nat) (rs : List Rule) (bag : List Int) (hk : Kinds k rs) (hb : bag.length = k) (hkm : k ≤ 100) (hr : rs.length ≤ 100) : runF T (n + 2) n__law_exchanges [.list (rls rs), bg bag] = some (.ret true (.list ((excs rs bag).map exD)) [none, none]) := by
  rw [run_def at__law_exchanges rfl]
  have hL : LIM = 1000000 := rfl
  have hm : bag.length ≤ LIM := by omega
  have W := fun (one : List Int) (h : one.length = bag.length) => law_has_ok n one bag h hm
  have PF := fun (l r : List Int) (hl : l.length = bag.length) (hr : r.length = bag.length) => law_put_ok n bag l r hl hr hm
  generalize runF T (n + 1) = Φ at W PF ⊢
  have loop := fLoop_ind (turn := turnOf (.nm 3) (execs ⟨⟨Φ, T.md⟩, T.sub⟩ [.forS .rng1 [.con (.int 2)] (.nm 4) [.ifS (.call n__law_has [.var 1, .sub (.sub (.var 0) (.var 3)) (.var 4)]) [.expr (.app (.var 2) (.tup [.var 3, .var 4, .call n__law_put [.var 1, .sub (.sub (.var 0) (.var 3)) (.var 4), .sub (.sub (.var 0) (.var 3)) (.bin .sub (.con (.int 1)) (.var 4))]]))] []]]))
    (xs := (List.range rs.length).map fun (i : Nat) => PyData.int (i : Int)) (ρ := [.fz (.list (rls rs)), .fz (bg bag), .ow (.list []), .no, .no])
    (fun i ρ => ∃ s3 s4, freeS s3 = true ∧ freeS s4 = true ∧ ρ = [.fz (.list (rls rs)), .fz (bg bag), .ow (.list ((exAcc rs bag i).map exD)), s3, s4]) ⟨.no, .no, rfl, rfl, rfl⟩ (fun i hi ρ ⟨s3, s4, h3, h4, e⟩ => ?_)
  · obtain ⟨ρ', h1, s3, s4, h3, h4, e⟩ := loop
    subst e
    rw [List.length_map, List.length_range] at h1
    simp [fd__law_exchanges, startR, exs_sq, setS_free, fRun_rng1 (show rs.length ≤ LIM by omega), h1]
    rfl
  · subst e
    rw [List.length_map, List.length_range] at hi
    have hri : rs[i] ∈ rs := List.getElem_mem hi
    obtain ⟨k1, k2⟩ := hk _ hri
    have w1 := W rs[i].1 (by omega)
    have w2 := W rs[i].2 (by omega)
    have p1 := PF rs[i].1 rs[i].2 (by omega) (by omega)
    have p2 := PF rs[i].2 rs[i].1 (by omega) (by omega)
    have hA := exAcc_len rs bag i
    have hA1 : (exAcc rs bag i).length < 1000000 := by omega
    have hA2 : (exAcc rs bag i).length + 1 < 1000000 := by omega
    have hg : rs.getD i ([], []) = rs[i] := by simp [List.getD_eq_getElem?_getD, hi]
    simp only [List.getElem_map, List.getElem_range]
    rw [exAcc_succ, hg]
    unfold exc1
    cases c1 : hasB bag rs[i].1 <;> cases c2 : hasB bag rs[i].2
    all_goals
      rw [c1] at w1
      rw [c2] at w2
      refine ⟨[.fz (.list (rls rs)), .fz (bg bag), .ow (.list (((exAcc rs bag i) ++ ((if _ then [(i, 0, putB bag rs[i].1 rs[i].2)] else []) ++ (if _ then [(i, 1, putB bag rs[i].2 rs[i].1)] else []))).map exD)), .fz (.int i), .fz (.int 1)], ?_, _, _, rfl, rfl, rfl⟩
      simp [turnOf_d, setS_free, h3, h4, exs_sq, fRun_two, fLoop_lq, at_rls hi, rl, atI_two0, atI_two1, callF_d, okSlots_d, w1, w2, p1, p2, exD, hL, hA1, hA2]
end K40
end

section
set_option Elab.async false
set_option linter.all false
set_option maxRecDepth 100000
set_option autoImplicit false
namespace K40
open PySem hiding exec execs settle finish
open PySem.W DL
theorem rls_get {rs : List Rule} {i : Nat} (h : i < rs.length) : (rls rs)[i]'(by rw [rls_length]; exact h) = rl rs[i] := by simp [rls]
theorem isBag_bg (b : List Int) (k m : Int) : isBag (bg b) k m = (decide ((b.length : Int) = k) && partsIn m b) := by
  unfold isBag bg
  simp only [List.length_map, inB_ints]
theorem bag_of_ok (n : Nat) (b : List Int) (k m : Int) (hb : b.length ≤ LIM) : runF T (n + 2) n_is_bag_of [bg b, .int k, .int m] = some (.ret false (.bool (decide ((b.length : Int) = k) && partsIn m b)) [none, none, none]) := by
  rw [is_bag_of_ok n (bg b) k m (okD_bg b) (fun xs e => by
    have : xs = b.map PyData.int := by
      unfold bg at e
      injection e with e
      exact e.symm
    rw [this, List.length_map]
    exact hb), isBag_bg]
theorem is_tuple_rl (n : Nat) (r : Rule) : runF T (n + 1) n_is_tuple [rl r, .int 2] = some (.ret false (.bool true) [none, none]) := by
  rw [is_tuple_ok n (rl r) 2 (plain_rl r)]
  rfl
theorem check_rules_ok (n k : Nat) (rs : List Rule) (h : RulesOk k rs) : runF T (n + 3) n_check_rules [.list (rls rs)] = some (.ret false .none [none]) := by
  rw [run_def at_check_rules rfl]
  have hL : LIM = 1000000 := rfl
  have h3 := h.k3
  have h4 := h.n4
  have W := fun (b : List Int) (hb : b.length = k) (hp : partsIn 4 b = true) => bag_of_ok n b k 4 (by omega)
  have V := fun (r : Rule) => is_tuple_rl (n + 1) r
  generalize runF T (n + 2) = Φ at W V ⊢
  have hp : PyData.plain (.list (rls rs)) = true := by
    simp only [PyData.plain]
    exact plainAll_of fun x hx => by
      unfold rls at hx
      obtain ⟨r, _, rfl⟩ := List.mem_map.mp hx
      exact plain_rl r
  have hc : cRun .seq (.nm 4) [4] (condT (.not (.call n_is_tuple [.var 4, .con (.int 2)])) (ev ⟨Φ, T.md⟩ (.not (.call n_is_tuple [.var 4, .con (.int 2)])))) (ev ⟨Φ, T.md⟩ (.var 4)).P [.fz (.list (rls rs))] [.fz (.list (rls rs)), .no, .no, .no, .no] =
      .ok (.fresh (.list [])) [.fz (.list (rls rs)), .no, .no, .no, .no] := by
    rw [cRun_seq (xs := rls rs) (fun _ => none) (by rfl) (by rw [rls_length]; omega) (by rfl) (by rfl) fun x hx => ?_]
    · simp [wipeR, giveBack]
    · unfold rls at hx
      obtain ⟨r, _, rfl⟩ := List.mem_map.mp hx
      simp [cTurn_eq, wipeR, setS_free, callF_d, okSlots_d, V r]
  obtain ⟨r0, rs', rfl⟩ : ∃ r0 rs', rs = r0 :: rs' := by
    cases rs with
    | nil =>
      have := h.n1
      simp at this
    | cons r0 rs' => exact ⟨_, _, rfl⟩
  have k0 := (h.kinds r0 List.mem_cons_self).1
  have c1 : L2.atI (rls (r0 :: rs')) 0 = some (rl r0) := at_rls (rs := r0 :: rs') (i := 0) (by simp)
  have hk1 := h.k1
  have loop := fLoop_ind (turn := turnOf (.tp [2, 3]) (execs ⟨⟨Φ, T.md⟩, T.sub⟩ [.ifS (.or (.not (.call n_is_bag_of [.var 2, .var 1, .con (.int 4)])) (.or (.not (.call n_is_bag_of [.var 3, .var 1, .con (.int 4)])) (.cmp .eq (.var 2) (.var 3)))) [.raise 0] []]))
    (xs := rls (r0 :: rs')) (ρ := [.fz (.list (rls (r0 :: rs'))), .fz (.int k), .no, .no, .no])
    (fun i ρ => ∃ s2 s3, freeS s2 = true ∧ freeS s3 = true ∧ ρ = [.fz (.list (rls (r0 :: rs'))), .fz (.int k), s2, s3, .no]) ⟨.no, .no, rfl, rfl, rfl⟩ (fun i hi ρ ⟨s2, s3, g2, g3, e⟩ => ?_)
  · obtain ⟨ρ', l1, s2, s3, g2, g3, e⟩ := loop
    subst e
    have hlen : (1 : Int) ≤ ((rs'.length : Int) + 1) ∧ ((rs'.length : Int) + 1) ≤ 4 := by
      simp at h4
      omega
    have hk2 : (1 : Int) ≤ (k : Int) := by omega
    have hk3 : (k : Int) ≤ 3 := by omega
    have e1 : (rl r0) = .tuple [bg r0.1, bg r0.2] := rfl
    have e2 : (bg r0.1) = .tuple (r0.1.map PyData.int) := rfl
    have pl := plain_bg r0.1
    rw [e2] at pl
    simp [fd_check_rules, startR, exs_sq, setS_free, hp, PyData.isList, PyData.isTuple, hlen, hc, c1, e1, atI_two0, e2, pl, k0, hk2, hk3, fRun_seq (show seqD (.list (rls (r0 :: rs'))) = some (rls (r0 :: rs')) from rfl), l1]
  · subst e
    rw [rls_length] at hi
    have hri : (r0 :: rs')[i] ∈ r0 :: rs' := List.getElem_mem hi
    obtain ⟨k1, k2⟩ := h.kinds _ hri
    obtain ⟨p1, p2⟩ := h.parts _ hri
    have w1 := W _ k1 p1
    have w2 := W _ k2 p2
    have hne := h.ne _ hri
    have eg : (rls (r0 :: rs'))[i]'(by rw [rls_length]; exact hi) = rl (r0 :: rs')[i] := rls_get hi
    rw [eg]
    generalize (r0 :: rs')[i] = r at *
    refine ⟨[.fz (.list (rls (r0 :: rs'))), .fz (.int k), .fz (bg r.1), .fz (bg r.2), .no], ?_, _, _, rfl, rfl, rfl⟩
    simp [turnOf_d, rl, setS_free, g2, g3, exs_sq, callF_d, okSlots_d, w1, w2, k1, k2, p1, p2, cmp_eq_bg, hne]
theorem check_bag_ok (n k : Nat) (rs : List Rule) (b : List Int) (h : RulesOk k rs) (hb : b.length = k) (hp : partsIn 60 b = true) : runF T (n + 4) n_check_bag [.list (rls rs), bg b] = some (.ret false .none [none, none]) := by
  rw [run_def at_check_bag rfl]
  have h3 := h.k3
  have w := check_rules_ok n k rs h
  have v := bag_of_ok (n + 1) b k 60 (by unfold LIM; omega)
  generalize runF T (n + 3) = Φ at w v ⊢
  obtain ⟨r0, rs', rfl⟩ : ∃ r0 rs', rs = r0 :: rs' := by
    cases rs with
    | nil =>
      have := h.n1
      simp at this
    | cons r0 rs' => exact ⟨_, _, rfl⟩
  have k0 := (h.kinds r0 List.mem_cons_self).1
  have c1 : L2.atI (rls (r0 :: rs')) 0 = some (rl r0) := at_rls (rs := r0 :: rs') (i := 0) (by simp)
  have e1 : (rl r0) = .tuple [bg r0.1, bg r0.2] := rfl
  have e2 : (bg r0.1) = .tuple (r0.1.map PyData.int) := rfl
  simp [fd_check_bag, startR, exs_sq, callF_d, okSlots_d, w, c1, e1, atI_two0, e2, k0, v, hb, hp]
theorem exchanges_ok (n k : Nat) (rs : List Rule) (b : List Int) (h : RulesOk k rs) (hb : b.length = k) (hp : partsIn 60 b = true) : runF T (n + 5) n_exchanges [.list (rls rs), bg b] = some (.ret true (.list ((excs rs b).map exD)) [none, none]) := by
  rw [run_def at_exchanges rfl]
  have h3 := h.k3
  have h4 := h.n4
  have w := check_bag_ok n k rs b h hb hp
  have v := all_exchanges_ok (n + 2) k rs b h.kinds hb (by omega) (by omega)
  generalize runF T (n + 4) = Φ at w v ⊢
  simp [fd_exchanges, startR, exs_sq, callF_d, okSlots_d, w, v, flats_exD]
theorem check_sum_ok (n : Nat) (m : Int) (h0 : 0 ≤ m) (h1 : m ≤ 30) : runF T (n + 2) n_check_sum [.int m] = some (.ret false .none [none]) := by
  rw [run_def at_check_sum rfl]
  have w := is_within_ok n (.int m) 0 30 rfl
  generalize runF T (n + 1) = Φ at w ⊢
  simp [fd_check_sum, startR, exs_sq, callF_d, okSlots_d, w, inB, h0, h1]
end K40
end

section
set_option Elab.async false
set_option linter.all false
set_option maxRecDepth 100000
set_option autoImplicit false
namespace K40
open PySem hiding exec execs settle finish
open PySem.W DL
theorem small_of {i : Int} (h1 : -(2 ^ 62) < i) (h2 : i < 2 ^ 62) : small64 i = true := by
  unfold small64
  rw [Bool.and_eq_true, decide_eq_true_eq, decide_eq_true_eq]
  omega
theorem fmod_in (a : Int) {b : Int} (h : 0 < b) : 0 ≤ a.fmod b ∧ a.fmod b < b := ⟨Int.fmod_nonneg_of_pos a h, Int.fmod_lt_of_pos a h⟩
def mixV (a k : Int) : Int := (((a * 48271 + k * 69621 + 12345).fmod 2147483647) * (((a * 48271 + k * 69621 + 12345).fmod 2147483647).fdiv 65536 + 3) + k).fmod 2147483647
theorem mix_in (a k : Int) : 0 ≤ mixV a k ∧ mixV a k < 2147483647 := fmod_in _ (by omega)
theorem law_mixed_ok (n : Nat) (a k : Int) : runF T (n + 1) n__law_mixed [.int a, .int k] = some (.ret false (.int (mixV a k)) [none, none]) := by
  rw [run_def at__law_mixed rfl]
  generalize runF T n = Φ
  have h := fmod_in (a * 48271 + k * 69621 + 12345) (b := 2147483647) (by omega)
  have s1 : small64 48271 = true := small_of (by omega) (by omega)
  have s2 : small64 69621 = true := small_of (by omega) (by omega)
  have s3 : small64 ((a * 48271 + k * 69621 + 12345).fmod 2147483647) = true := small_of (by omega) (by omega)
  simp [fd__law_mixed, startR, exs_sq, setS_free, s1, s2, s3, mixV]
theorem law_draw_ok (n : Nat) (nums : List Int) (a : Nat) (hin : ∀ x ∈ nums, 0 ≤ x ∧ x < 1000000) : ∃ v : Int, runF T (n + 2) n__law_draw [.list [.list (nums.map .int), .int a]] = some (.ret false (.int v) [some (.list [.list (nums.map .int), .int (a + 1)])]) ∧ 0 ≤ v ∧ v < 1000000 := by
  rw [run_def at__law_draw rfl]
  have w := fun a k => law_mixed_ok n a k
  generalize runF T (n + 1) = Φ at w ⊢
  have s1 : small64 1009 = true := small_of (by omega) (by omega)
  have x1 : L2.ixN 2 1 = some 1 := rfl
  by_cases h1 : a < nums.length
  · refine ⟨nums[a], ?_, hin _ (List.getElem_mem h1)⟩
    simp [fd__law_draw, startR, exs_sq, setS_free, atI_two0, atI_two1, ex_setix, x1, h1, at_bg h1]
  · by_cases h2 : 0 < nums.length
    · have f := fmod_in (mixV (mixV (1 + (a : Int) + 1009 * nums[0]) a) 5) (b := 1000000) (by omega)
      refine ⟨_, ?_, f⟩
      have g : L2.atI (nums.map PyData.int) 0 = some (.int nums[0]) := at_bg h2
      simp [fd__law_draw, startR, exs_sq, setS_free, atI_two0, atI_two1, ex_setix, x1, h1, h2, g, s1, callF_d, okSlots_d, w]
    · have f := fmod_in (mixV (mixV (1 + (a : Int)) a) 5) (b := 1000000) (by omega)
      refine ⟨_, ?_, f⟩
      simp [fd__law_draw, startR, exs_sq, setS_free, atI_two0, atI_two1, ex_setix, x1, h1, h2, s1, callF_d, okSlots_d, w]
def numB : List Int → Prop := fun l => ∀ x ∈ l, 0 ≤ x ∧ x < 1000000
theorem law_numbers_ok (n : Nat) (ns : List Int) (hn : ns.length ≤ 63) : ∃ nums : List Int, runF T (n + 2) n__law_numbers [.list (ns.map .int)] = some (.ret true (.list (nums.map .int)) [none]) ∧ ∀ x ∈ nums, 0 ≤ x ∧ x < 1000000 := by
  rw [run_def at__law_numbers rfl]
  have w := fun a k => law_mixed_ok n a k
  generalize runF T (n + 1) = Φ at w ⊢
  have hL : LIM = 1000000 := rfl
  have mm : ∀ a : Int, 0 ≤ a.fmod 1000000 ∧ a.fmod 1000000 < 1000000 := fun a => fmod_in a (by omega)
  have big : ∀ nums (rest : Int) (s0 s4 c : Sl), freeS s4 = true → nums.length ≤ 10000 → numB nums → ∃ nums2 rest2 s4', freeS s4' = true ∧ nums2.length ≤ nums.length + 60 ∧ numB nums2 ∧
      fLoop (turnOf (.nm 4) (execs ⟨⟨Φ, T.md⟩, T.sub⟩ [.ifS (.cmp .gt (.var 3) (.con (.int 0))) [.expr (.app (.var 1) (.bin .mod (.var 3) (.con (.int 1000000)))), .asg (.nm 3) (.bin .fdiv (.var 3) (.con (.int 1000000)))] []])) ((List.range 60).map fun (i : Nat) => PyData.int (i : Int)) [s0, .ow (.list (nums.map .int)), c, .fz (.int rest), s4] =
        .ok .next [s0, .ow (.list (nums2.map .int)), c, .fz (.int rest2), s4'] := by
    intro nums rest s0 s4 c h4 hl hb
    obtain ⟨ρ', h1, nums2, rest2, s4', g1, g2, g3, e⟩ := fLoop_ind (turn := turnOf (.nm 4) (execs ⟨⟨Φ, T.md⟩, T.sub⟩ [.ifS (.cmp .gt (.var 3) (.con (.int 0))) [.expr (.app (.var 1) (.bin .mod (.var 3) (.con (.int 1000000)))), .asg (.nm 3) (.bin .fdiv (.var 3) (.con (.int 1000000)))] []]))
      (xs := (List.range 60).map fun (i : Nat) => PyData.int (i : Int)) (ρ := [s0, .ow (.list (nums.map .int)), c, .fz (.int rest), s4])
      (fun i ρ => ∃ nums2 rest2 s4', freeS s4' = true ∧ nums2.length ≤ nums.length + i ∧ numB nums2 ∧ ρ = [s0, .ow (.list (nums2.map .int)), c, .fz (.int rest2), s4']) ⟨nums, rest, s4, h4, by omega, hb, rfl⟩ (fun i hi ρ ⟨nums2, rest2, s4', g1, g2, g3, e⟩ => by
        subst e
        rw [List.length_map, List.length_range] at hi
        have hq : nums2.length < 1000000 := by omega
        have := mm rest2
        by_cases hr : 0 < rest2
        · refine ⟨[s0, .ow (.list ((nums2 ++ [rest2.fmod 1000000]).map .int)), c, .fz (.int (rest2.fdiv 1000000)), .fz (.int i)], ?_, _, _, _, rfl, ?_, ?_, rfl⟩
          · simp [turnOf_d, setS_free, g1, exs_sq, hr, hL, hq]
          · rw [List.length_append]
            show nums2.length + 1 ≤ _
            omega
          · intro x hx
            rcases List.mem_append.mp hx with hx | hx
            · exact g3 x hx
            · rw [List.mem_singleton.mp hx]
              exact this
        · refine ⟨[s0, .ow (.list (nums2.map .int)), c, .fz (.int rest2), .fz (.int i)], ?_, _, _, _, rfl, by omega, g3, rfl⟩
          simp [turnOf_d, setS_free, g1, exs_sq, hr])
    subst e
    rw [List.length_map, List.length_range] at g2
    exact ⟨nums2, rest2, s4', g1, g2, g3, h1⟩
  have small : ∀ nums (cell : Int) (s0 s3 s4 : Sl), freeS s4 = true → nums.length ≤ 10000 → numB nums → ∃ nums2 s4', freeS s4' = true ∧ nums2.length ≤ nums.length + 5 ∧ numB nums2 ∧
      fLoop (turnOf (.nm 4) (execs ⟨⟨Φ, T.md⟩, T.sub⟩ [.expr (.app (.var 1) (.bin .mod (.call n__law_mixed [.call n__law_mixed [.bin .mod (.var 2) (.con (.int 2147483647)), .var 4], .bin .add (.var 4) (.con (.int 7))]) (.con (.int 1000000))))])) ((List.range 5).map fun (i : Nat) => PyData.int (i : Int)) [s0, .ow (.list (nums.map .int)), .fz (.int cell), s3, s4] =
        .ok .next [s0, .ow (.list (nums2.map .int)), .fz (.int cell), s3, s4'] := by
    intro nums cell s0 s3 s4 h4 hl hb
    obtain ⟨ρ', h1, nums2, s4', g1, g2, g3, e⟩ := fLoop_ind (turn := turnOf (.nm 4) (execs ⟨⟨Φ, T.md⟩, T.sub⟩ [.expr (.app (.var 1) (.bin .mod (.call n__law_mixed [.call n__law_mixed [.bin .mod (.var 2) (.con (.int 2147483647)), .var 4], .bin .add (.var 4) (.con (.int 7))]) (.con (.int 1000000))))]))
      (xs := (List.range 5).map fun (i : Nat) => PyData.int (i : Int)) (ρ := [s0, .ow (.list (nums.map .int)), .fz (.int cell), s3, s4])
      (fun i ρ => ∃ nums2 s4', freeS s4' = true ∧ nums2.length ≤ nums.length + i ∧ numB nums2 ∧ ρ = [s0, .ow (.list (nums2.map .int)), .fz (.int cell), s3, s4']) ⟨nums, s4, h4, by omega, hb, rfl⟩ (fun i hi ρ ⟨nums2, s4', g1, g2, g3, e⟩ => by
        subst e
        rw [List.length_map, List.length_range] at hi
        have hq : nums2.length < 1000000 := by omega
        refine ⟨[s0, .ow (.list ((nums2 ++ [(mixV (mixV (cell.fmod 2147483647) i) (i + 7)).fmod 1000000]).map .int)), .fz (.int cell), s3, .fz (.int i)], ?_, _, _, rfl, ?_, ?_, rfl⟩
        · simp [turnOf_d, setS_free, g1, exs_sq, callF_d, okSlots_d, w, hL, hq]
        · rw [List.length_append]
          show nums2.length + 1 ≤ _
          omega
        · intro x hx
          rcases List.mem_append.mp hx with hx | hx
          · exact g3 x hx
          · rw [List.mem_singleton.mp hx]
            exact mm _)
    subst e
    rw [List.length_map, List.length_range] at g2
    exact ⟨nums2, s4', g1, g2, g3, h1⟩
  have pw : binD .pow (.int 10) (.int 18) = some (false, .int 1000000000000000000) := by
    rw [bin_pow_int, if_pos (by decide)]
    rfl
  have f60 := fun t b ρ => fRun_rng1 (t := t) (body := b) (ρ := ρ) (n := 60) (by omega)
  have f5 := fun t b ρ => fRun_rng1 (t := t) (body := b) (ρ := ρ) (n := 5) (by omega)
  simp only [show ((60 : Nat) : Int) = 60 from rfl, show ((5 : Nat) : Int) = 5 from rfl] at f60 f5
  have loop := fLoop_ind (turn := turnOf (.nm 2) (execs ⟨⟨Φ, T.md⟩, T.sub⟩ [.ifS (.cmp .ge (.var 2) (.bin .pow (.con (.int 10)) (.con (.int 18)))) [.asg (.nm 3) (.var 2), .forS .rng1 [.con (.int 60)] (.nm 4) [.ifS (.cmp .gt (.var 3) (.con (.int 0))) [.expr (.app (.var 1) (.bin .mod (.var 3) (.con (.int 1000000)))), .asg (.nm 3) (.bin .fdiv (.var 3) (.con (.int 1000000)))] []]] [.expr (.app (.var 1) (.bin .mod (.var 2) (.con (.int 1000000)))), .forS .rng1 [.con (.int 5)] (.nm 4) [.expr (.app (.var 1) (.bin .mod (.call n__law_mixed [.call n__law_mixed [.bin .mod (.var 2) (.con (.int 2147483647)), .var 4], .bin .add (.var 4) (.con (.int 7))]) (.con (.int 1000000))))]]]))
    (xs := ns.map .int) (ρ := [.fz (.list (ns.map .int)), .ow (.list []), .no, .no, .no])
    (fun i ρ => ∃ (nums2 : List Int) (s2 s3 s4 : Sl), freeS s2 = true ∧ freeS s3 = true ∧ freeS s4 = true ∧ nums2.length ≤ 60 * i ∧ numB nums2 ∧ ρ = [.fz (.list (ns.map .int)), .ow (.list (nums2.map .int)), s2, s3, s4]) ⟨[], .no, .no, .no, rfl, rfl, rfl, by simp, by simp [numB], rfl⟩ (fun i hi ρ ⟨nums2, s2, s3, s4, g2, g3, g4, gl, gb, e⟩ => ?_)
  · obtain ⟨ρ', h1, nums2, s2', s3', s4', g2, g3, g4, gl, gb, e⟩ := loop
    subst e
    refine ⟨nums2, ?_, gb⟩
    simp [fd__law_numbers, startR, exs_sq, setS_free, fRun_seq (show seqD (.list (ns.map PyData.int)) = some (ns.map PyData.int) from rfl), h1]
  · subst e
    rw [List.length_map] at hi
    have ex : (ns.map PyData.int)[i]'(by simpa using hi) = .int ns[i] := by simp
    rw [ex]
    by_cases hc : (1000000000000000000 : Int) ≤ ns[i]
    · obtain ⟨nums3, rest3, s5, q1, q2, q3, q4⟩ := big nums2 ns[i] (.fz (.list (ns.map .int))) s4 (.fz (.int ns[i])) g4 (by omega) gb
      refine ⟨[.fz (.list (ns.map .int)), .ow (.list (nums3.map .int)), .fz (.int ns[i]), .fz (.int rest3), s5], ?_, nums3, .fz (.int ns[i]), .fz (.int rest3), s5, rfl, rfl, q1, by omega, q3, rfl⟩
      simp [turnOf_d, setS_free, g2, g3, exs_sq, pw, hc, f60, q4]
    · have hb2 : numB (nums2 ++ [ns[i].fmod 1000000]) := fun x hx => by
        rcases List.mem_append.mp hx with hx | hx
        · exact gb x hx
        · rw [List.mem_singleton.mp hx]
          exact mm _
      have hl2 : (nums2 ++ [ns[i].fmod 1000000]).length = nums2.length + 1 := by simp
      obtain ⟨nums3, s5, q1, q2, q3, q4⟩ := small (nums2 ++ [ns[i].fmod 1000000]) ns[i] (.fz (.list (ns.map .int))) s3 s4 g4 (by omega) hb2
      have hq : nums2.length < 1000000 := by omega
      rw [List.map_append] at q4
      refine ⟨[.fz (.list (ns.map .int)), .ow (.list (nums3.map .int)), .fz (.int ns[i]), s3, s5], ?_, nums3, .fz (.int ns[i]), s3, s5, rfl, g3, q1, by omega, q3, rfl⟩
      simp at q4
      simp [turnOf_d, setS_free, g2, g3, exs_sq, pw, hc, f5, hL, hq, q4]
end K40
end

section
set_option Elab.async false
set_option linter.all false
set_option maxRecDepth 100000
set_option autoImplicit false
namespace K40
open PySem hiding exec execs settle finish
open PySem.W DL
def Eq1 (n : Nat) (d : D) : Prop := runF T n n__law_equal [d, d] = some (.ret false (.bool true) [none, none])
theorem eq_int (n : Nat) (a : Int) : Eq1 (n + 1) (.int a) := by
  unfold Eq1
  rw [run_def at__law_equal rfl]
  generalize runF T n = Φ
  simp [fd__law_equal, startR, exs_sq, PyData.plain, PyData.isList, PyData.isTuple, PyData.isBool, PyData.isInt]
theorem eq_bool (n : Nat) (a : Bool) : Eq1 (n + 1) (.bool a) := by
  unfold Eq1
  rw [run_def at__law_equal rfl]
  generalize runF T n = Φ
  have e : cmpD .eq (.bool a) (.bool a) = some true := by cases a <;> rfl
  simp [fd__law_equal, startR, exs_sq, PyData.plain, PyData.isList, PyData.isTuple, PyData.isBool, PyData.isInt, e]
theorem eq_none (n : Nat) : Eq1 (n + 1) .none := by
  unfold Eq1
  rw [run_def at__law_equal rfl]
  generalize runF T n = Φ
  have e : cmpD .isN .none .none = some true := rfl
  simp [fd__law_equal, startR, exs_sq, PyData.plain, PyData.isList, PyData.isTuple, PyData.isBool, PyData.isInt, PyData.isStr, notNone]
theorem all_eq (n : Nat) (d : D) (xs : List D) (hd : d = .list xs ∨ d = .tuple xs) (hl : xs.length ≤ LIM) (h : ∀ x ∈ xs, Eq1 n x) : runF T (n + 1) n__law_all_equal [d, d] = some (.ret false (.bool true) [none, none]) := by
  rw [run_def at__law_all_equal rfl]
  unfold Eq1 at h
  generalize runF T n = Φ at h ⊢
  have hs : ∀ i : Nat, subD d (.int i) = L2.atI xs i := fun i => by rcases hd with rfl | rfl <;> rfl
  have hlen : biD .len [d] = some (false, .int xs.length) := by rcases hd with rfl | rfl <;> rfl
  have loop := fLoop_ind (turn := turnOf (.nm 2) (execs ⟨⟨Φ, T.md⟩, T.sub⟩ [.ifS (.not (.call n__law_equal [.sub (.var 0) (.var 2), .sub (.var 1) (.var 2)])) [.ret (.con (.bool false))] []]))
    (xs := (List.range xs.length).map fun (i : Nat) => PyData.int (i : Int)) (ρ := [.fz d, .fz d, .no])
    (fun i ρ => ∃ s2, freeS s2 = true ∧ ρ = [.fz d, .fz d, s2]) ⟨.no, rfl, rfl⟩ (fun i hi ρ ⟨s2, h2, e⟩ => ?_)
  · obtain ⟨ρ', l1, s2, h2, e⟩ := loop
    subst e
    simp [fd__law_all_equal, startR, exs_sq, hlen, fRun_rng1 hl, l1]
  · subst e
    rw [List.length_map, List.length_range] at hi
    have hx := h xs[i] (List.getElem_mem hi)
    have ha : L2.atI xs (i : Int) = some xs[i] := atI_nat hi
    refine ⟨[.fz d, .fz d, .fz (.int i)], ?_, _, rfl, rfl⟩
    simp only [List.getElem_map, List.getElem_range]
    simp [turnOf_d, setS_free, h2, exs_sq, hs, ha, callF_d, okSlots_d, hx]
theorem eq_list (n : Nat) (xs : List D) (hp : PyData.plain (.list xs) = true) (hl : xs.length ≤ LIM) (h : ∀ x ∈ xs, Eq1 n x) : Eq1 (n + 2) (.list xs) := by
  have w := all_eq n (.list xs) xs (.inl rfl) hl h
  unfold Eq1
  rw [run_def at__law_equal rfl]
  generalize runF T (n + 1) = Φ at w ⊢
  simp [fd__law_equal, startR, exs_sq, hp, PyData.isList, callF_d, okSlots_d, w]
theorem eq_tuple (n : Nat) (xs : List D) (hp : PyData.plain (.tuple xs) = true) (hl : xs.length ≤ LIM) (h : ∀ x ∈ xs, Eq1 n x) : Eq1 (n + 2) (.tuple xs) := by
  have w := all_eq n (.tuple xs) xs (.inr rfl) hl h
  unfold Eq1
  rw [run_def at__law_equal rfl]
  generalize runF T (n + 1) = Φ at w ⊢
  simp [fd__law_equal, startR, exs_sq, hp, PyData.isList, PyData.isTuple, callF_d, okSlots_d, w]
theorem eq_bg (n : Nat) (b : List Int) (hl : b.length ≤ LIM) : Eq1 (n + 3) (bg b) := by
  unfold bg
  refine eq_tuple (n + 1) _ (plain_bg b) (by rw [List.length_map]; exact hl) fun x hx => ?_
  obtain ⟨i, _, rfl⟩ := List.mem_map.mp hx
  exact eq_int n i
theorem plain_exD (e : Nat × Nat × List Int) : (exD e).plain = true := by
  unfold exD
  simp [PyData.plain, PyData.plainAll, plain_bg]
theorem eq_exs (n : Nat) (l : List (Nat × Nat × List Int)) (hl : l.length ≤ LIM) (hb : ∀ e ∈ l, e.2.2.length ≤ LIM) : Eq1 (n + 7) (.list (l.map exD)) := by
  refine eq_list (n + 5) _ ?_ (by rw [List.length_map]; exact hl) fun x hx => ?_
  · simp only [PyData.plain]
    exact plainAll_of fun x hx => by
      obtain ⟨e, _, rfl⟩ := List.mem_map.mp hx
      exact plain_exD e
  · obtain ⟨e, he, rfl⟩ := List.mem_map.mp hx
    refine eq_tuple (n + 3) _ (plain_exD e) (by simp [LIM]) fun y hy => ?_
    simp at hy
    rcases hy with rfl | rfl | rfl
    · exact eq_int (n + 2) _
    · exact eq_int (n + 2) _
    · exact eq_bg n _ (hb e he)
theorem eq_bags (n : Nat) (l : List (List Int)) (hl : l.length ≤ LIM) (hb : ∀ e ∈ l, e.length ≤ LIM) : Eq1 (n + 5) (.list (l.map bg)) := by
  refine eq_list (n + 3) _ ?_ (by rw [List.length_map]; exact hl) fun x hx => ?_
  · simp only [PyData.plain]
    exact plainAll_of fun x hx => by
      obtain ⟨e, _, rfl⟩ := List.mem_map.mp hx
      exact plain_bg e
  · obtain ⟨e, he, rfl⟩ := List.mem_map.mp hx
    exact eq_bg n _ (hb e he)
end K40
end

section
set_option Elab.async false
set_option linter.all false
set_option maxRecDepth 100000
set_option autoImplicit false
namespace K40
open PySem hiding exec execs settle finish
open PySem.W DL
/-- a draw, however deep -/
theorem draw_at (n : Nat) (nums : List Int) (hin : ∀ x ∈ nums, 0 ≤ x ∧ x < 1000000) (a : Nat) : ∃ v : Int, runF T (n + 2) n__law_draw [drw nums a] = some (.ret false (.int v) [some (drw nums (a + 1))]) ∧ 0 ≤ v ∧ v < 1000000 := law_draw_ok n nums a hin
/-- [_law_draw(draws) % (most + 1) for k in range(kinds)] of _law_rules -/
theorem rules_bag {Φ : Nat → List D → Option FR} {nums : List Int} (W : ∀ a : Nat, ∃ v : Int, Φ n__law_draw [drw nums a] = some (.ret false (.int v) [some (drw nums (a + 1))]) ∧ 0 ≤ v ∧ v < 1000000) (k a : Nat) (hk : k ≤ 3) (s3 s4 s5 s6 s7 : Sl) (h7 : idlS s7 = true) :
    ∃ (b : List Int) (a' : Nat), b.length = k ∧ partsIn 4 b = true ∧ cRun .rng1 (.nm 7) [7] (condT .nop (ev ⟨Φ, T.md⟩ .nop)) (ev ⟨Φ, T.md⟩ (.bin .mod (.call n__law_draw [.var 0]) (.bin .add (.var 2) (.con (.int 1))))).P [.fz (.int k)]
      [.io (drw nums a), .fz (.int k), .fz (.int 4), s3, s4, s5, s6, s7] = .ok (.fresh (.list (b.map .int))) [.io (drw nums a'), .fz (.int k), .fz (.int 4), s3, s4, s5, s6, s7] := by
  have loop := cLoop_ind (turn := cTurn (.nm 7) [7] (condT .nop (ev ⟨Φ, T.md⟩ .nop)) (ev ⟨Φ, T.md⟩ (.bin .mod (.call n__law_draw [.var 0]) (.bin .add (.var 2) (.con (.int 1))))).P) (xs := (List.range k).map fun (i : Nat) => PyData.int (i : Int))
    (ρ := [.io (drw nums a), .fz (.int k), .fz (.int 4), s3, s4, s5, s6, .no])
    (fun i acc ρ => ∃ (b : List Int) (a' : Nat), b.length = i ∧ partsIn 4 b = true ∧ acc = b.map .int ∧ ρ = [.io (drw nums a'), .fz (.int k), .fz (.int 4), s3, s4, s5, s6, .no]) ⟨[], a, rfl, rfl, rfl, rfl⟩ (fun i hi acc ρ ⟨b, a', g1, g2, g3, e⟩ => ?_)
  · obtain ⟨acc, ρ', l1, b, a', g1, g2, g3, e⟩ := loop
    subst e g3
    rw [List.length_map, List.length_range] at g1
    refine ⟨b, a', g1, g2, ?_⟩
    have hid : idle [.io (drw nums a), .fz (.int k), .fz (.int 4), s3, s4, s5, s6, s7] [7] = true := idle_iff fun v hv => by
      rw [List.mem_singleton.mp hv]
      exact congrArg some h7
    rw [cRun_of (items_rng1 _ (by unfold LIM; omega)) rfl rfl hid rfl (by rw [List.length_map, List.length_range]; unfold LIM; omega) l1]
    rfl
  · subst e g3
    obtain ⟨v, w, v0, v1⟩ := W a'
    have f := fmod_in v (b := 5) (by omega)
    refine ⟨some (.int (v.fmod 5)), [.io (drw nums (a' + 1)), .fz (.int k), .fz (.int 4), s3, s4, s5, s6, .no], ?_, b ++ [v.fmod 5], a' + 1, by simp [g1], ?_, by simp, rfl⟩
    · simp only [List.getElem_map, List.getElem_range]
      simp [cTurn_eq, setS_free, callF_d, okSlots_d, w, wipeR]
    · unfold partsIn at g2 ⊢
      rw [List.all_append, g2]
      simp
      omega
end K40
end

section
set_option Elab.async false
set_option linter.all false
set_option maxRecDepth 100000
set_option autoImplicit false
namespace K40
open PySem hiding exec execs settle finish
open PySem.W DL
section
variable {Φ : Nat → List D → Option FR} {nums : List Int} (W : ∀ a : Nat, ∃ v : Int, Φ n__law_draw [drw nums a] = some (.ret false (.int v) [some (drw nums (a + 1))]) ∧ 0 ≤ v ∧ v < 1000000)
include W
theorem parts_take {m : Int} {b : List Int} (h : partsIn m b = true) (j : Nat) : partsIn m (b.take j) = true := by
  unfold partsIn at *
  rw [List.all_eq_true] at *
  exact fun x hx => h x (List.mem_of_mem_take hx)
theorem rules_st3 (k j a : Nat) (hk : k = j + 1) (hk3 : k ≤ 3) (b1 b2 : List Int) (l1 : b1.length = k) (l2 : b2.length = k) (p2 : partsIn 4 b2 = true) (s3 s4 s7 : Sl) :
    ∃ (b : List Int) (a' : Nat), b.length = k ∧ partsIn 4 b = true ∧ exec ⟨⟨Φ, T.md⟩, T.sub⟩ (.ifS (.cmp .eq (.bin .mod (.call n__law_draw [.var 0]) (.con (.int 3))) (.con (.int 0))) [.asg (.nm 6) (.bin .add (.slice (.var 6) (.nop) (.bin .sub (.var 1) (.con (.int 1)))) (.tup [.bi .min2 [.var 2, .bi .max2 [.con (.int 0), .bin .sub (.bi .sum [.var 5]) (.bi .sum [.slice (.var 6) (.nop) (.bin .sub (.var 1) (.con (.int 1)))])]]]))] [])
      [.io (drw nums a), .fz (.int k), .fz (.int 4), s3, s4, .fz (bg b1), .fz (bg b2), s7] = .ok .next [.io (drw nums a'), .fz (.int k), .fz (.int 4), s3, s4, .fz (bg b1), .fz (bg b), s7] := by
  obtain ⟨v, w, v0, v1⟩ := W a
  have e1 : (k : Int) - 1 = (j : Int) := by omega
  have hL : LIM = 1000000 := rfl
  by_cases hd : v.fmod 3 = 0
  · let S := b1.sum - (b2.take j).sum
    let y : Int := if (if S > 0 then S else 0) < 4 then (if S > 0 then S else 0) else 4
    have hy : 0 ≤ y ∧ y ≤ 4 := by
      show 0 ≤ (if (if S > 0 then S else 0) < 4 then (if S > 0 then S else 0) else 4) ∧ (if (if S > 0 then S else 0) < 4 then (if S > 0 then S else 0) else 4) ≤ 4
      split <;> split <;> omega
    refine ⟨b2.take j ++ [y], a + 1, by simp; omega, ?_, ?_⟩
    · have := parts_take W p2 j
      unfold partsIn at this ⊢
      rw [List.all_append, this]
      simp
      exact hy
    · have hlen : min j b2.length + 1 ≤ 1000000 := by omega
      have sm : biD .sum [.tuple (List.take j (b2.map PyData.int))] = some (false, .int (b2.take j).sum) := by
        rw [← List.map_take]
        exact bi_sum_tup _
      simp [setS_free, exs_sq, callF_d, okSlots_d, w, hd, bg, e1, slice_to, hL, hlen, sm, y, S]
  · refine ⟨b2, a + 1, l2, p2, ?_⟩
    simp [setS_free, exs_sq, callF_d, okSlots_d, w, hd]
theorem rules_st4 (k j a : Nat) (hk : k = j + 1) (hk3 : k ≤ 3) (b1 b2 : List Int) (l1 : b1.length = k) (l2 : b2.length = k) (p1 : partsIn 4 b1 = true) (p2 : partsIn 4 b2 = true) (s0 s3 s4 s7 : Sl) :
    ∃ (b : List Int), b.length = k ∧ partsIn 4 b = true ∧ b1 ≠ b ∧ exec ⟨⟨Φ, T.md⟩, T.sub⟩ (.ifS (.cmp .eq (.var 5) (.var 6)) [.asg (.nm 6) (.bin .add (.slice (.var 5) (.nop) (.bin .sub (.var 1) (.con (.int 1)))) (.tup [.bin .mod (.bin .add (.sub (.var 5) (.bin .sub (.var 1) (.con (.int 1)))) (.con (.int 1))) (.bin .add (.var 2) (.con (.int 1)))]))] [])
      [s0, .fz (.int k), .fz (.int 4), s3, s4, .fz (bg b1), .fz (bg b2), s7] = .ok .next [s0, .fz (.int k), .fz (.int 4), s3, s4, .fz (bg b1), .fz (bg b), s7] := by
  have e1 : (k : Int) - 1 = (j : Int) := by omega
  have hL : LIM = 1000000 := rfl
  by_cases he : b1 = b2
  · have hj : j < b1.length := by omega
    have hjp : 0 ≤ b1[j] ∧ b1[j] ≤ 4 := by
      unfold partsIn at p1
      rw [List.all_eq_true] at p1
      have := p1 _ (List.getElem_mem hj)
      simpa using this
    have f := fmod_in (b1[j] + 1) (b := 5) (by omega)
    have hne : (b1[j] + 1).fmod 5 ≠ b1[j] := by
      rw [Int.fmod_eq_emod_of_nonneg _ (by omega)]
      omega
    refine ⟨b1.take j ++ [(b1[j] + 1).fmod 5], by simp; omega, ?_, ?_, ?_⟩
    · have := parts_take W p1 j
      unfold partsIn at this ⊢
      rw [List.all_append, this]
      simp
      omega
    · intro z
      apply hne
      have : (b1.take j ++ [(b1[j] + 1).fmod 5])[j]? = some ((b1[j] + 1).fmod 5) := by
        rw [List.getElem?_append_right (by simp; omega)]
        simp [List.length_take, Nat.min_eq_left (Nat.le_of_lt hj)]
      rw [← z, List.getElem?_eq_getElem hj] at this
      exact (Option.some.inj this).symm
    · have hlen : min j b2.length + 1 ≤ 1000000 := by omega
      have hlen1 : min j b1.length + 1 ≤ 1000000 := by omega
      have ha := at_bg hj
      have hce := cmp_eq_bg b1 b2
      unfold bg at hce ⊢
      simp [setS_free, exs_sq, hce, he, e1, slice_to, hL, hlen, hlen1]
      subst he
      simp [setS_free, exs_sq, hce, e1, slice_to, hL, hlen, hlen1, ha]
  · refine ⟨b2, l2, p2, he, ?_⟩
    have hce := cmp_eq_bg b1 b2
    simp [setS_free, exs_sq, hce, he]
end
end K40
namespace K40
open PySem hiding exec execs settle finish
open PySem.W DL
theorem law_rules_ok (n : Nat) (nums : List Int) (hin : ∀ x ∈ nums, 0 ≤ x ∧ x < 1000000) (k many a : Nat) (k1 : 1 ≤ k) (k3 : k ≤ 3) (m1 : 1 ≤ many) (m4 : many ≤ 4) :
    ∃ rs a', runF T (n + 3) n__law_rules [drw nums a, .int k, .int 4, .int many] = some (.ret true (.list (rls rs)) [some (drw nums a'), none, none, none]) ∧ RulesOk k rs := by
  rw [run_def at__law_rules rfl]
  have W := draw_at n nums hin
  generalize runF T (n + 2) = Φ at W ⊢
  have hL : LIM = 1000000 := rfl
  obtain ⟨j, hj⟩ : ∃ j, k = j + 1 := ⟨k - 1, by omega⟩
  have loop := wRun_cnt (t := (ev ⟨Φ, T.md⟩ (.cmp .lt (.bi .len [.var 4]) (.var 3))).T) (body := execs ⟨⟨Φ, T.md⟩, T.sub⟩ [.asg (.nm 5) (.bi .tup [.comp .rng1 [.var 1] (.nm 7) [7] (.nop) (.bin .mod (.call n__law_draw [.var 0]) (.bin .add (.var 2) (.con (.int 1))))]), .asg (.nm 6) (.bi .tup [.comp .rng1 [.var 1] (.nm 7) [7] (.nop) (.bin .mod (.call n__law_draw [.var 0]) (.bin .add (.var 2) (.con (.int 1))))]), .ifS (.cmp .eq (.bin .mod (.call n__law_draw [.var 0]) (.con (.int 3))) (.con (.int 0))) [.asg (.nm 6) (.bin .add (.slice (.var 6) (.nop) (.bin .sub (.var 1) (.con (.int 1)))) (.tup [.bi .min2 [.var 2, .bi .max2 [.con (.int 0), .bin .sub (.bi .sum [.var 5]) (.bi .sum [.slice (.var 6) (.nop) (.bin .sub (.var 1) (.con (.int 1)))])]]]))] [], .ifS (.cmp .eq (.var 5) (.var 6)) [.asg (.nm 6) (.bin .add (.slice (.var 5) (.nop) (.bin .sub (.var 1) (.con (.int 1)))) (.tup [.bin .mod (.bin .add (.sub (.var 5) (.bin .sub (.var 1) (.con (.int 1)))) (.con (.int 1))) (.bin .add (.var 2) (.con (.int 1)))]))] [], .expr (.app (.var 4) (.tup [.var 5, .var 6]))])
    (ρ := [.io (drw nums a), .fz (.int k), .fz (.int 4), .fz (.int many), .ow (.list []), .no, .no, .no])
    (fun i ρ => ∃ (rs : List Rule) (a' : Nat) (s5 s6 s7 : Sl), rs.length = i ∧ Kinds k rs ∧ (∀ r ∈ rs, partsIn 4 r.1 = true ∧ partsIn 4 r.2 = true) ∧ (∀ r ∈ rs, r.1 ≠ r.2) ∧ freeS s5 = true ∧ freeS s6 = true ∧ idlS s7 = true ∧ ρ = [.io (drw nums a'), .fz (.int k), .fz (.int 4), .fz (.int many), .ow (.list (rls rs)), s5, s6, s7]) many
    ⟨[], a, .no, .no, .no, rfl, by simp [Kinds], by simp, by simp, rfl, rfl, rfl, rfl⟩ (fun i hi ρ ⟨rs, a', s5, s6, s7, g1, g2, g3, g4, h5, h6, h7, e⟩ => ?_) (fun ρ ⟨rs, a', s5, s6, s7, g1, g2, g3, g4, h5, h6, h7, e⟩ => ?_)
  · obtain ⟨ρ', l1, rs, a', s5, s6, s7, g1, g2, g3, g4, h5, h6, h7, e⟩ := loop
    subst e
    refine ⟨rs, a', ?_, ⟨by omega, by omega, k1, k3, g2, g3, g4⟩⟩
    simp [fd__law_rules, startR, exs_sq, setS_free, l1]
  · subst e
    obtain ⟨b1, a1, l1, p1, c1⟩ := rules_bag W k a' (by omega) (.fz (.int many)) (.ow (.list (rls rs))) s5 s6 s7 h7
    obtain ⟨b2, a2, l2, p2, c2⟩ := rules_bag W k a1 (by omega) (.fz (.int many)) (.ow (.list (rls rs))) (.fz (bg b1)) s6 s7 h7
    obtain ⟨b3, a3, l3, p3, c3⟩ := rules_st3 W k j a2 hj (by omega) b1 b2 l1 l2 p2 (.fz (.int many)) (.ow (.list (rls rs))) s7
    obtain ⟨b4, l4, p4, ne, c4⟩ := rules_st4 W k j a3 hj (by omega) b1 b3 l1 l3 p1 p3 (.io (drw nums a3)) (.fz (.int many)) (.ow (.list (rls rs))) s7
    have hq : rs.length < 1000000 := by omega
    have hlt : (rs.length : Int) < (many : Int) := by omega
    refine ⟨[.io (drw nums a'), .fz (.int k), .fz (.int 4), .fz (.int many), .ow (.list (rls rs)), s5, s6, s7], [.io (drw nums a3), .fz (.int k), .fz (.int 4), .fz (.int many), .ow (.list (rls (rs ++ [(b1, b4)]))), .fz (bg b1), .fz (bg b4), s7], ?_, ?_, rs ++ [(b1, b4)], a3, .fz (bg b1), .fz (bg b4), s7, by simp [g1], ?_, ?_, ?_, rfl, rfl, h7, rfl⟩
    · simp [hlt]
    · have q1 : exec ⟨⟨Φ, T.md⟩, T.sub⟩ (.asg (.nm 5) (.bi .tup [.comp .rng1 [.var 1] (.nm 7) [7] (.nop) (.bin .mod (.call n__law_draw [.var 0]) (.bin .add (.var 2) (.con (.int 1))))])) [.io (drw nums a'), .fz (.int k), .fz (.int 4), .fz (.int many), .ow (.list (rls rs)), s5, s6, s7] =
          .ok .next [.io (drw nums a1), .fz (.int k), .fz (.int 4), .fz (.int many), .ow (.list (rls rs)), .fz (bg b1), s6, s7] := by
        simp [setS_free, h5, c1, bg]
      have q2 : exec ⟨⟨Φ, T.md⟩, T.sub⟩ (.asg (.nm 6) (.bi .tup [.comp .rng1 [.var 1] (.nm 7) [7] (.nop) (.bin .mod (.call n__law_draw [.var 0]) (.bin .add (.var 2) (.con (.int 1))))])) [.io (drw nums a1), .fz (.int k), .fz (.int 4), .fz (.int many), .ow (.list (rls rs)), .fz (bg b1), s6, s7] =
          .ok .next [.io (drw nums a2), .fz (.int k), .fz (.int 4), .fz (.int many), .ow (.list (rls rs)), .fz (bg b1), .fz (bg b2), s7] := by
        unfold bg at c2 ⊢
        simp [setS_free, h6, c2]
      rw [exs_next _ q1, exs_next _ q2, exs_next _ c3, exs_next _ c4]
      simp [exs_sq, hL, hq, rls, rl]
    · intro r hr
      rcases List.mem_append.mp hr with hr | hr
      · exact g2 r hr
      · rw [List.mem_singleton.mp hr]
        exact ⟨l1, l4⟩
    · intro r hr
      rcases List.mem_append.mp hr with hr | hr
      · exact g3 r hr
      · rw [List.mem_singleton.mp hr]
        exact ⟨p1, p4⟩
    · intro r hr
      rcases List.mem_append.mp hr with hr | hr
      · exact g4 r hr
      · rw [List.mem_singleton.mp hr]
        exact ne
  · subst e
    have hlt : ¬ ((rs.length : Int) < (many : Int)) := by omega
    simp [hlt]
end K40
end

section
set_option Elab.async false
set_option linter.all false
set_option maxRecDepth 100000
set_option autoImplicit false
namespace K40
open PySem hiding exec execs settle finish
open PySem.W DL
structure Walk (k : Nat) (rs : List Rule) (b : List Int) (ch : List (List Int)) : Prop where
  head : ch.head? = some b
  ok : ∀ c ∈ ch, c.length = k ∧ partsIn 60 c = true
  step : ∀ i (h : i + 1 < ch.length), ch[i + 1] ∈ nxt rs ch[i]
def keepD (d : D) : Bool := match subD d (.int 2) with
  | some b => (match biD .max [b] with
    | some (_, .int m) => decide (m ≤ 60)
    | _ => false)
  | none => false
theorem exD_2 (e : Nat × Nat × List Int) : subD (exD e) (.int 2) = some (bg e.2.2) := rfl
theorem keepD_exD {e : Nat × Nat × List Int} (h : e.2.2 ≠ []) : keepD (exD e) = decide (maxB e.2.2 ≤ 60) := by
  unfold keepD
  rw [exD_2]
  simp only [bi_max_bg h]
theorem keep_map : ∀ {l : List (Nat × Nat × List Int)}, (∀ e ∈ l, e.2.2 ≠ []) → (l.map exD).filterMap (fun d => if keepD d then some d else none) = (l.filter fun e => decide (maxB e.2.2 ≤ 60)).map exD
  | [], _ => rfl
  | e :: l, h => by
    rw [List.map_cons, List.filterMap_cons, List.filter_cons, keepD_exD (h e List.mem_cons_self), keep_map fun x hx => h x (List.mem_cons_of_mem _ hx)]
    by_cases hc : maxB e.2.2 ≤ 60 <;> simp [hc]
theorem excs_ne {k : Nat} {rs : List Rule} {b : List Int} (h : RulesOk k rs) (hb : b.length = k) : ∀ e ∈ excs rs b, e.2.2 ≠ [] := fun e he z => by
  have := (nxt_ok (c := e.2.2) h hb (List.mem_map.mpr ⟨e, he, rfl⟩)).1
  rw [z] at this
  have := h.k1
  simp at *
  omega
theorem law_walked_ok (n : Nat) (nums : List Int) (hin : ∀ x ∈ nums, 0 ≤ x ∧ x < 1000000) (k : Nat) (rs : List Rule) (h : RulesOk k rs) (b : List Int) (hb : b.length = k) (hp : partsIn 60 b = true) (steps a : Nat) (hs : steps ≤ 10) :
    ∃ ch a', runF T (n + 3) n__law_walked [drw nums a, .list (rls rs), bg b, .int steps] = some (.ret true (.list (ch.map bg)) [some (drw nums a'), none, none, none]) ∧ Walk k rs b ch ∧ ch.length ≤ steps + 1 := by
  rw [run_def at__law_walked rfl]
  have hk3 := h.k3
  have hn4 := h.n4
  have W := draw_at n nums hin
  have V := fun (c : List Int) (hc : c.length = k) => law_exchanges_ok n k rs c h.kinds hc (by omega) (by omega)
  generalize runF T (n + 2) = Φ at W V ⊢
  have hL : LIM = 1000000 := rfl
  have loop := fLoop_ind (turn := turnOf (.nm 5) (execs ⟨⟨Φ, T.md⟩, T.sub⟩ [.asg (.nm 6) (.call n__law_exchanges [.var 1, .sub (.var 4) (.bin .sub (.bi .len [.var 4]) (.con (.int 1)))]), .asg (.nm 6) (.comp .seq [.var 6] (.nm 7) [7] (.cmp .le (.bi .max [.sub (.var 7) (.con (.int 2))]) (.con (.int 60))) (.var 7)), .ifS (.cmp .gt (.bi .len [.var 6]) (.con (.int 0))) [.expr (.app (.var 4) (.sub (.sub (.var 6) (.bin .mod (.call n__law_draw [.var 0]) (.bi .len [.var 6]))) (.con (.int 2))))] []]))
    (xs := (List.range steps).map fun (i : Nat) => PyData.int (i : Int)) (ρ := [.io (drw nums a), .fz (.list (rls rs)), .fz (bg b), .fz (.int steps), .ow (.list ([b].map bg)), .no, .no, .no])
    (fun i ρ => ∃ (ch : List (List Int)) (a' : Nat) (s5 s6 s7 : Sl), Walk k rs b ch ∧ ch.length ≤ i + 1 ∧ freeS s5 = true ∧ freeS s6 = true ∧ idlS s7 = true ∧ ρ = [.io (drw nums a'), .fz (.list (rls rs)), .fz (bg b), .fz (.int steps), .ow (.list (ch.map bg)), s5, s6, s7])
    ⟨[b], a, .no, .no, .no, ⟨rfl, by simp [hb, hp], by simp⟩, by simp, rfl, rfl, rfl, rfl⟩ (fun i hi ρ ⟨ch, a', s5, s6, s7, wk, wl, h5, h6, h7, e⟩ => ?_)
  · obtain ⟨ρ', l1, ch, a', s5, s6, s7, wk, wl, h5, h6, h7, e⟩ := loop
    subst e
    rw [List.length_map, List.length_range] at wl
    refine ⟨ch, a', ?_, wk, wl⟩
    simp at l1
    simp [fd__law_walked, startR, exs_sq, setS_free, hL, fRun_rng1 (show steps ≤ LIM by omega), l1]
  · subst e
    rw [List.length_map, List.length_range] at hi
    obtain ⟨m, hm⟩ : ∃ m, ch.length = m + 1 := by
      cases ch with
      | nil => cases wk.head
      | cons c r => exact ⟨r.length, rfl⟩
    have hmlt : m < ch.length := by omega
    have hlast : L2.atI (ch.map bg) (m : Int) = some (bg ch[m]) := by
      rw [atI_nat (by simpa using hmlt)]
      simp
    have em : (ch.length : Int) - 1 = (m : Int) := by omega
    obtain ⟨ck, cp⟩ := wk.ok ch[m] (List.getElem_mem hmlt)
    have v := V ch[m] ck
    have hE := exAcc_len rs ch[m] rs.length
    have hne := excs_ne h ck
    generalize hl : excs rs ch[m] = l at v hne
    have hll : l.length ≤ 8 := by
      rw [← hl]
      unfold excs
      omega
    have q1 : exec ⟨⟨Φ, T.md⟩, T.sub⟩ (.asg (.nm 6) (.call n__law_exchanges [.var 1, .sub (.var 4) (.bin .sub (.bi .len [.var 4]) (.con (.int 1)))])) [.io (drw nums a'), .fz (.list (rls rs)), .fz (bg b), .fz (.int steps), .ow (.list (ch.map bg)), .fz (.int i), s6, s7] =
        .ok .next [.io (drw nums a'), .fz (.list (rls rs)), .fz (bg b), .fz (.int steps), .ow (.list (ch.map bg)), .fz (.int i), .ow (.list (l.map exD)), s7] := by
      simp [setS_free, h6, em, hlast, callF_d, okSlots_d, v, flats_exD]
    have hcomp : cRun .seq (.nm 7) [7] (condT (.cmp .le (.bi .max [.sub (.var 7) (.con (.int 2))]) (.con (.int 60))) (ev ⟨Φ, T.md⟩ (.cmp .le (.bi .max [.sub (.var 7) (.con (.int 2))]) (.con (.int 60))))) (ev ⟨Φ, T.md⟩ (.var 7)).P [.slot 6] [.io (drw nums a'), .fz (.list (rls rs)), .fz (bg b), .fz (.int steps), .ow (.list (ch.map bg)), .fz (.int i), .ow (.list (l.map exD)), s7] =
        .ok (.fresh (.list ((l.filter fun e => decide (maxB e.2.2 ≤ 60)).map exD))) [.io (drw nums a'), .fz (.list (rls rs)), .fz (bg b), .fz (.int steps), .ow (.list (ch.map bg)), .fz (.int i), .ow (.list (l.map exD)), s7] := by
      have hid : idle [.io (drw nums a'), .fz (.list (rls rs)), .fz (bg b), .fz (.int steps), .ow (.list (ch.map bg)), .fz (.int i), .ow (.list (l.map exD)), s7] [7] = true := idle_iff fun v hv => by
        rw [List.mem_singleton.mp hv]
        exact congrArg some h7
      rw [cRun_pure (xs := l.map exD) (o := .slot 6) (fun d => if keepD d then some d else none) rfl rfl rfl hid rfl (by rw [List.length_map]; omega) fun x hx => ?_]
      · rw [keep_map hne]
        rfl
      · obtain ⟨e, he, rfl⟩ := List.mem_map.mp hx
        have e2 := exD_2 e
        have mx := bi_max_bg (hne e he)
        rw [keepD_exD (hne e he)]
        by_cases hc : maxB e.2.2 ≤ 60 <;> simp [cTurn_eq, lendS, wipeR, setS_free, e2, mx, hc]
    generalize hw : (l.filter fun e => decide (maxB e.2.2 ≤ 60)) = w at hcomp
    have q2 : exec ⟨⟨Φ, T.md⟩, T.sub⟩ (.asg (.nm 6) (.comp .seq [.var 6] (.nm 7) [7] (.cmp .le (.bi .max [.sub (.var 7) (.con (.int 2))]) (.con (.int 60))) (.var 7))) [.io (drw nums a'), .fz (.list (rls rs)), .fz (bg b), .fz (.int steps), .ow (.list (ch.map bg)), .fz (.int i), .ow (.list (l.map exD)), s7] =
        .ok .next [.io (drw nums a'), .fz (.list (rls rs)), .fz (bg b), .fz (.int steps), .ow (.list (ch.map bg)), .fz (.int i), .ow (.list (w.map exD)), s7] := by
      simp [setS_free, hcomp]
    have hwl : w.length ≤ 8 := by
      rw [← hw]
      exact Nat.le_trans (List.length_filter_le _ _) hll
    by_cases he : w.length = 0
    · have hz : ¬ (0 : Int) < (w.length : Int) := by omega
      refine ⟨[.io (drw nums a'), .fz (.list (rls rs)), .fz (bg b), .fz (.int steps), .ow (.list (ch.map bg)), .fz (.int i), .ow (.list (w.map exD)), s7], ?_, ch, a', .fz (.int i), .ow (.list (w.map exD)), s7, wk, by omega, rfl, rfl, h7, rfl⟩
      simp only [List.getElem_map, List.getElem_range]
      rw [turnOf_d, bindT_nm, setS_free (by simpa using h5), bw_ok]
      show execs _ _ [.io (drw nums a'), .fz (.list (rls rs)), .fz (bg b), .fz (.int steps), .ow (.list (ch.map bg)), .fz (.int i), s6, s7] = _
      rw [exs_next _ q1, exs_next _ q2]
      have he' : w = [] := List.length_eq_zero_iff.mp he
      subst he'
      simp [exs_sq]
    · obtain ⟨v, wd, v0, v1⟩ := W a'
      have f := fmod_in v (b := (w.length : Int)) (by omega)
      obtain ⟨j, hj⟩ : ∃ j : Nat, v.fmod w.length = (j : Int) := ⟨(v.fmod w.length).toNat, by omega⟩
      have hjl : j < w.length := by omega
      have hw0 : (w.length : Int) ≠ 0 := by omega
      have hpos : 0 < w.length := by omega
      have hwe : ¬ (w = []) := fun z => he (by rw [z]; rfl)
      have hat : L2.atI (w.map exD) (j : Int) = some (exD w[j]) := by
        rw [atI_nat (by simpa using hjl)]
        simp
      have hmem : w[j] ∈ l.filter fun e => decide (maxB e.2.2 ≤ 60) := by
        rw [hw]
        exact List.getElem_mem hjl
      obtain ⟨hin2, hmx⟩ := List.mem_filter.mp hmem
      have hnx : w[j].2.2 ∈ nxt rs ch[m] := by
        unfold nxt
        rw [hl]
        exact List.mem_map.mpr ⟨_, hin2, rfl⟩
      obtain ⟨nk, nn⟩ := nxt_ok h ck hnx
      have e2 := exD_2 w[j]
      have hcl : ch.length < 1000000 := by omega
      refine ⟨[.io (drw nums (a' + 1)), .fz (.list (rls rs)), .fz (bg b), .fz (.int steps), .ow (.list ((ch ++ [w[j].2.2]).map bg)), .fz (.int i), .ow (.list (w.map exD)), s7], ?_, ch ++ [w[j].2.2], a' + 1, .fz (.int i), .ow (.list (w.map exD)), s7, ⟨?_, ?_, ?_⟩, by simp; omega, rfl, rfl, h7, rfl⟩
      · simp only [List.getElem_map, List.getElem_range]
        rw [turnOf_d, bindT_nm, setS_free (by simpa using h5), bw_ok]
        show execs _ _ [.io (drw nums a'), .fz (.list (rls rs)), .fz (bg b), .fz (.int steps), .ow (.list (ch.map bg)), .fz (.int i), s6, s7] = _
        rw [exs_next _ q1, exs_next _ q2]
        simp [exs_sq, hpos, callF_d, okSlots_d, wd, hw0, hwe, hj, hat, e2, hL, hcl]
      · have := wk.head
        cases ch with
        | nil => cases this
        | cons c r => exact this
      · intro c hc
        rcases List.mem_append.mp hc with hc | hc
        · exact wk.ok c hc
        · rw [List.mem_singleton.mp hc]
          refine ⟨nk, ?_⟩
          have hb0 := hne _ hin2
          simp only [decide_eq_true_eq] at hmx
          have hall := (maxB_le hb0).mp hmx
          unfold partsIn
          rw [List.all_eq_true]
          intro x hx
          simp
          exact ⟨nn x hx, hall x hx⟩
      · intro q hq
        have hq2 : q + 1 < ch.length + 1 := by simpa using hq
        by_cases hqm : q + 1 < ch.length
        · rw [List.getElem_append_left hqm, List.getElem_append_left (by omega)]
          exact wk.step q hqm
        · have hqq : q = m := by omega
          subst hqq
          have z1 : (ch ++ [w[j].2.2])[q + 1]'hq = w[j].2.2 := by
            rw [List.getElem_append_right (Nat.le_of_not_lt hqm)]
            simp
          have z2 : (ch ++ [w[j].2.2])[q]'(Nat.lt_of_succ_lt hq) = ch[q] := List.getElem_append_left hmlt
          rw [z1, z2]
          exact hnx
end K40
end

section
set_option Elab.async false
set_option linter.all false
set_option maxRecDepth 100000
set_option autoImplicit false
namespace K40
open PySem hiding exec execs settle finish
open PySem.W DL
/-- each next one by an exchange -/
def chainB (rs : List Rule) (ch : List (List Int)) : Bool := (List.range (ch.length - 1)).all fun i => decide (ch.getD (i + 1) [] ∈ nxt rs (ch.getD i []))
theorem at_bags {ch : List (List Int)} {i : Nat} (h : i < ch.length) : L2.atI (ch.map bg) (i : Int) = some (bg ch[i]) := by
  rw [atI_nat (by simpa using h)]
  simp
theorem plain_bags (ch : List (List Int)) : PyData.plain (.list (ch.map bg)) = true := by
  simp only [PyData.plain]
  exact plainAll_of fun x hx => by
    obtain ⟨e, _, rfl⟩ := List.mem_map.mp hx
    exact plain_bg e
theorem depth_exD (e : Nat × Nat × List Int) : (exD e).depth ≤ 10 := by
  unfold exD
  simp only [PyData.depth]
  have := depthAll_le (xs := [PyData.int e.1, .int e.2.1, bg e.2.2]) (n := 5) fun x hx => by
    simp at hx
    have := depth_bg e.2.2
    rcases hx with rfl | rfl | rfl
    · simp [PyData.depth]
    · simp [PyData.depth]
    · omega
  omega
theorem okD_exs (l : List (Nat × Nat × List Int)) : okD (.list (l.map exD)) = true := (okD_seq fun x hx => by
  obtain ⟨e, _, rfl⟩ := List.mem_map.mp hx
  have := depth_exD e
  exact ⟨plain_exD e, by omega⟩).1
theorem empty_filter (c : List Int) : ∀ l : List (Nat × Nat × List Int), ((l.filter fun e => decide (e.2.2 = c)).map exD).isEmpty = !decide (c ∈ l.map (·.2.2))
  | [] => rfl
  | e :: l => by
    have ih := empty_filter c l
    rw [List.filter_cons, List.map_cons]
    by_cases h : e.2.2 = c
    · simp [h]
    · have h' : ¬ c = e.2.2 := fun z => h z.symm
      simp only [h, decide_false, Bool.false_eq_true, if_false, ih]
      simp [h']
theorem is_chain_ok (n k : Nat) (rs : List Rule) (h : RulesOk k rs) (ch : List (List Int)) (hne : ch ≠ []) (hl : ch.length ≤ 100) (hc : ∀ c ∈ ch, c.length = k ∧ partsIn 60 c = true) :
    runF T (n + 4) n_is_chain [.list (rls rs), .list (ch.map bg)] = some (.ret false (.bool (chainB rs ch)) [none, none]) := by
  rw [run_def at_is_chain rfl]
  have hk3 := h.k3
  have hn4 := h.n4
  have hL : LIM = 1000000 := rfl
  have R := check_rules_ok n k rs h
  have B := fun (c : List Int) (e : c.length = k) => bag_of_ok (n + 1) c k 60 (by omega)
  have X := fun (c : List Int) (e : c.length = k) => all_exchanges_ok (n + 1) k rs c h.kinds e (by omega) (by omega)
  generalize runF T (n + 3) = Φ at R B X ⊢
  have hn1 := h.n1
  have c1 : L2.atI (rls rs) 0 = some (rl rs[0]) := at_rls (rs := rs) (i := 0) hn1
  have k0 := (h.kinds rs[0] (List.getElem_mem hn1)).1
  have e1 : (rl rs[0]) = .tuple [bg rs[0].1, bg rs[0].2] := rfl
  have e2 : (bg rs[0].1) = .tuple (rs[0].1.map PyData.int) := rfl
  have pl := plain_bags ch
  have hcomp : cRun .seq (.nm 3) [3] (condT (.not (.call n_is_bag_of [.var 3, .bi .len [.sub (.sub (.var 0) (.con (.int 0))) (.con (.int 0))], .con (.int 60)])) (ev ⟨Φ, T.md⟩ (.not (.call n_is_bag_of [.var 3, .bi .len [.sub (.sub (.var 0) (.con (.int 0))) (.con (.int 0))], .con (.int 60)])))) (ev ⟨Φ, T.md⟩ (.var 3)).P [.fz (.list (ch.map bg))] [.fz (.list (rls rs)), .fz (.list (ch.map bg)), .no, .no] =
      .ok (.fresh (.list [])) [.fz (.list (rls rs)), .fz (.list (ch.map bg)), .no, .no] := by
    rw [cRun_seq (xs := ch.map bg) (fun _ => none) (by rfl) (by rw [List.length_map]; omega) (by rfl) (by rfl) fun x hx => ?_]
    · simp [wipeR, giveBack]
    · obtain ⟨c, hcm, rfl⟩ := List.mem_map.mp hx
      obtain ⟨g1, g2⟩ := hc c hcm
      have b := B c g1
      generalize hq : bg c = q at b ⊢
      simp [cTurn_eq, wipeR, setS_free, callF_d, okSlots_d, c1, e1, atI_two0, e2, k0, b, g1, g2]
  have hlen : ch.length - 1 + 1 = ch.length := by
    cases ch with
    | nil => exact absurd rfl hne
    | cons _ _ => simp
  have loop := fLoop_ret (turn := turnOf (.nm 2) (execs ⟨⟨Φ, T.md⟩, T.sub⟩ [.ifS (.cmp .eq (.comp .seq [.call n_all_exchanges [.var 0, .sub (.var 1) (.bin .sub (.var 2) (.con (.int 1)))]] (.nm 3) [3] (.cmp .eq (.sub (.var 3) (.con (.int 2))) (.sub (.var 1) (.var 2))) (.var 3)) (.lst [])) [.ret (.con (.bool false))] []]))
    (xs := (List.range (ch.length - 1)).map fun (i : Nat) => PyData.int (1 + (i : Int))) (ρ := [.fz (.list (rls rs)), .fz (.list (ch.map bg)), .no, .no])
    (fun i ρ => ∃ s2 s3, freeS s2 = true ∧ idlS s3 = true ∧ ρ = [.fz (.list (rls rs)), .fz (.list (ch.map bg)), s2, s3] ∧ ∀ j, j < i → decide (ch.getD (j + 1) [] ∈ nxt rs (ch.getD j [])) = true)
    (fun i fr d ρ => fr = false ∧ d = .bool false ∧ (∃ s2 s3, ρ = [.fz (.list (rls rs)), .fz (.list (ch.map bg)), s2, s3]) ∧ i < ch.length - 1 ∧ decide (ch.getD (i + 1) [] ∈ nxt rs (ch.getD i [])) = false)
    ⟨.no, .no, rfl, rfl, rfl, by simp⟩ (fun i hi ρ ⟨s2, s3, g2, g3, e, hj⟩ => ?_)
  · have hlL : ch.length ≤ LIM := by omega
    rw [List.length_map, List.length_range] at loop
    have fin : ∀ ρ' fl, fLoop (turnOf (.nm 2) (execs ⟨⟨Φ, T.md⟩, T.sub⟩ [.ifS (.cmp .eq (.comp .seq [.call n_all_exchanges [.var 0, .sub (.var 1) (.bin .sub (.var 2) (.con (.int 1)))]] (.nm 3) [3] (.cmp .eq (.sub (.var 3) (.con (.int 2))) (.sub (.var 1) (.var 2))) (.var 3)) (.lst [])) [.ret (.con (.bool false))] []]))
       ((List.range (ch.length - 1)).map fun (i : Nat) => PyData.int (1 + (i : Int))) [.fz (.list (rls rs)), .fz (.list (ch.map bg)), .no, .no] = .ok fl ρ' → (∃ s2 s3, ρ' = [.fz (.list (rls rs)), .fz (.list (ch.map bg)), s2, s3]) →
       ((fl = .next ∧ chainB rs ch = true) ∨ (fl = .ret false (.bool false) ∧ chainB rs ch = false)) → finish fd_is_chain.md (execs ⟨⟨Φ, T.md⟩, T.sub⟩ fd_is_chain.body (startR fd_is_chain [.list (rls rs), .list (ch.map bg)])) = some (.ret false (.bool (chainB rs ch)) [none, none]) := by
      intro ρ' fl l1 ⟨s2, s3, e⟩ hcase
      subst e
      have hne2 : ¬ (ch = []) := hne
      rcases hcase with ⟨rfl, hb⟩ | ⟨rfl, hb⟩ <;> (rw [hb]; simp [fd_is_chain, startR, exs_sq, callF_d, okSlots_d, R, pl, PyData.isList, hne2, hcomp, fRun_rng2 hlL, l1])
    rcases loop with ⟨ρ', l1, s2, s3, g2, g3, e, hj⟩ | ⟨i, fr, d, ρ', hi, l1, rfl, rfl, e, hi2, hf⟩
    · refine fin _ _ l1 ⟨s2, s3, e⟩ (.inl ⟨rfl, ?_⟩)
      unfold chainB
      rw [List.all_eq_true]
      exact fun j hjm => hj j (List.mem_range.mp hjm)
    · refine fin _ _ l1 e (.inr ⟨rfl, ?_⟩)
      unfold chainB
      rw [Bool.eq_false_iff, ne_eq, List.all_eq_true]
      intro hall
      rw [hall i (List.mem_range.mpr hi2)] at hf
      cases hf
  · subst e
    rw [List.length_map, List.length_range] at hi
    have hi1 : i < ch.length := by omega
    have hi2 : i + 1 < ch.length := by omega
    obtain ⟨ck, cp⟩ := hc ch[i] (List.getElem_mem hi1)
    have x := X ch[i] ck
    have a1 : L2.atI (ch.map bg) (i : Int) = some (bg ch[i]) := at_bags hi1
    have a2 : L2.atI (ch.map bg) (1 + (i : Int)) = some (bg ch[i + 1]) := by
      have := at_bags hi2
      rw [show (1 : Int) + (i : Int) = ((i + 1 : Nat) : Int) by omega]
      exact this
    have e3 : (1 : Int) + (i : Int) - 1 = (i : Int) := by omega
    have gd1 : ch.getD i [] = ch[i] := by simp [List.getD_eq_getElem?_getD, hi1]
    have gd2 : ch.getD (i + 1) [] = ch[i + 1] := by simp [List.getD_eq_getElem?_getD, hi2]
    have hE := exAcc_len rs ch[i] rs.length
    have hll : (excs rs ch[i]).length ≤ 8 := by
      unfold excs
      omega
    have hcs : cRun .seq (.nm 3) [3] (condT (.cmp .eq (.sub (.var 3) (.con (.int 2))) (.sub (.var 1) (.var 2))) (ev ⟨Φ, T.md⟩ (.cmp .eq (.sub (.var 3) (.con (.int 2))) (.sub (.var 1) (.var 2))))) (ev ⟨Φ, T.md⟩ (.var 3)).P [.fz (.list ((excs rs ch[i]).map exD))] [.fz (.list (rls rs)), .fz (.list (ch.map bg)), .fz (.int (1 + (i : Int))), s3] =
        .ok (.fresh (.list (((excs rs ch[i]).filter fun e => decide (e.2.2 = ch[i + 1])).map exD))) [.fz (.list (rls rs)), .fz (.list (ch.map bg)), .fz (.int (1 + (i : Int))), s3] := by
      have hid : idle [.fz (.list (rls rs)), .fz (.list (ch.map bg)), .fz (.int (1 + (i : Int))), s3] [3] = true := idle_iff fun v hv => by
        rw [List.mem_singleton.mp hv]
        exact congrArg some g3
      rw [cRun_seq (xs := (excs rs ch[i]).map exD) (fun d => match subD d (.int 2) with | some b => if PyData.eqv b (bg ch[i + 1]) then some d else none | none => none) (by rfl) (by rw [List.length_map]; omega) hid (by rfl) fun y hy => ?_]
      · have go : ∀ l : List (Nat × Nat × List Int), (l.map exD).filterMap (fun d => match subD d (.int 2) with | some b => if PyData.eqv b (bg ch[i + 1]) then some d else none | none => none) = (l.filter fun e => decide (e.2.2 = ch[i + 1])).map exD := by
          intro l
          induction l with
          | nil => rfl
          | cons e l ih =>
            rw [List.map_cons, List.filterMap_cons, List.filter_cons, ih]
            simp only [exD_2, eqv_bg]
            by_cases hq : e.2.2 = ch[i + 1] <;> simp [hq]
        rw [go]
        rfl
      · obtain ⟨e, he, rfl⟩ := List.mem_map.mp hy
        have e2 := exD_2 e
        by_cases hq : e.2.2 = ch[i + 1] <;> simp [cTurn_eq, wipeR, setS_free, e2, a2, cmp_eq_bg, eqv_bg, hq]
    have hem : (((excs rs ch[i]).filter fun e => decide (e.2.2 = ch[i + 1])).map exD).isEmpty = !decide (ch[i + 1] ∈ nxt rs ch[i]) := by
      exact empty_filter _ _
    have hce := cmp_nil (okD_exs ((excs rs ch[i]).filter fun e => decide (e.2.2 = ch[i + 1])))
    rw [hem] at hce
    simp only [List.getElem_map, List.getElem_range]
    by_cases hq : ch[i + 1] ∈ nxt rs ch[i]
    · refine .inl ⟨[.fz (.list (rls rs)), .fz (.list (ch.map bg)), .fz (.int (1 + (i : Int))), s3], ?_, .fz (.int (1 + (i : Int))), s3, rfl, g3, rfl, fun j hjl => ?_⟩
      · simp [turnOf_d, setS_free, g2, exs_sq, e3, a1, callF_d, okSlots_d, x, flats_exD, hcs, hce, hq]
      · by_cases hji : j < i
        · exact hj j hji
        · have : j = i := by omega
          subst this
          rw [gd1, gd2]
          exact decide_eq_true hq
    · refine .inr ⟨false, .bool false, [.fz (.list (rls rs)), .fz (.list (ch.map bg)), .fz (.int (1 + (i : Int))), s3], ?_, rfl, rfl, ⟨_, _, rfl⟩, hi, ?_⟩
      · simp [turnOf_d, setS_free, g2, exs_sq, e3, a1, callF_d, okSlots_d, x, flats_exD, hcs, hce, hq]
      · rw [gd1, gd2]
        exact decide_eq_false hq
end K40
end

section
set_option Elab.async false
set_option linter.all false
set_option maxRecDepth 100000
set_option autoImplicit false
namespace K40
open PySem hiding exec execs settle finish
open PySem.W DL
theorem notin_bags (c : List Int) (l : List (List Int)) : cmpD .notin (bg c) (.list (l.map bg)) = some (!decide (c ∈ l)) := by
  have ho : okD (.list (l.map bg)) = true := (okD_seq fun x hx => by
    obtain ⟨e, _, rfl⟩ := List.mem_map.mp hx
    have := depth_bg e
    exact ⟨plain_bg e, by omega⟩).1
  show (inD (bg c) (.list (l.map bg))).map (!·) = _
  unfold inD
  simp only [okD_bg, ho, Bool.and_self, if_true, Option.map_some]
  congr 2
  induction l with
  | nil => rfl
  | cons x l ih =>
    have ho2 : okD (.list (l.map bg)) = true := (okD_seq fun x hx => by
      obtain ⟨e, _, rfl⟩ := List.mem_map.mp hx
      have := depth_bg e
      exact ⟨plain_bg e, by omega⟩).1
    rw [List.map_cons, List.any_cons, ih ho2, eqv_bg]
    by_cases h : x = c
    · simp [h]
    · have h' : ¬ c = x := fun z => h z.symm
      simp [h, h']
theorem max_list {l : List Int} {x : Int} : biD .max [.list ((x :: l).map PyData.int)] = some (false, .int (maxB (x :: l))) := by
  have h1 := alike_ints' (x :: l) []
  have h2 := (okD_seq (ok_ints (x :: l))).1
  rw [List.map_cons] at h1 h2
  show one1 (fun d => (seqD d).bind (pickD maxD)) [.list ((x :: l).map PyData.int)] = _
  unfold one1
  simp only [seqD_list, Option.bind_some, List.map_cons]
  show (if (alikeAllB (PyData.int x :: l.map PyData.int) && okD (PyData.list (PyData.int x :: l.map PyData.int)) && notNone (.int x)) = true then some (false, maxD (.int x) (l.map PyData.int)) else none) = _
  rw [h1, h2]
  simp [notNone, maxD_ints, maxB]
end K40
namespace K40
open PySem hiding exec execs settle finish
open PySem.W DL
theorem law_is_chain_ok (n k : Nat) (rs : List Rule) (h : RulesOk k rs) (ch : List (List Int)) (hne : ch ≠ []) (hl : ch.length ≤ 100) (hc : ∀ c ∈ ch, c.length = k ∧ partsIn 60 c = true) :
    runF T (n + 3) n__law_is_chain [.list (rls rs), .list (ch.map bg)] = some (.ret false (.bool (chainB rs ch)) [none, none]) := by
  rw [run_def at__law_is_chain rfl]
  have hk1 := h.k1
  have hk3 := h.k3
  have hn4 := h.n4
  have hL : LIM = 1000000 := rfl
  have X := fun (c : List Int) (e : c.length = k) => law_exchanges_ok n k rs c h.kinds e (by omega) (by omega)
  generalize runF T (n + 2) = Φ at X ⊢
  have loop := fLoop_ret (turn := turnOf (.nm 2) (execs ⟨⟨Φ, T.md⟩, T.sub⟩ [.ifS (.cmp .notin (.sub (.var 1) (.var 2)) (.comp .seq [.call n__law_exchanges [.var 0, .sub (.var 1) (.bin .sub (.var 2) (.con (.int 1)))]] (.nm 3) [3] (.nop) (.sub (.var 3) (.con (.int 2))))) [.ret (.con (.bool false))] []]))
    (xs := (List.range (ch.length - 1)).map fun (i : Nat) => PyData.int (1 + (i : Int))) (ρ := [.fz (.list (rls rs)), .fz (.list (ch.map bg)), .no, .no, .no])
    (fun i ρ => ∃ s2 s3, freeS s2 = true ∧ idlS s3 = true ∧ ρ = [.fz (.list (rls rs)), .fz (.list (ch.map bg)), s2, s3, .no] ∧ ∀ j, j < i → decide (ch.getD (j + 1) [] ∈ nxt rs (ch.getD j [])) = true)
    (fun i fr d ρ => fr = false ∧ d = .bool false ∧ (∃ s2 s3, ρ = [.fz (.list (rls rs)), .fz (.list (ch.map bg)), s2, s3, .no]) ∧ i < ch.length - 1 ∧ decide (ch.getD (i + 1) [] ∈ nxt rs (ch.getD i [])) = false)
    ⟨.no, .no, rfl, rfl, rfl, by simp⟩ (fun i hi ρ ⟨s2, s3, g2, g3, e, hj⟩ => ?_)
  · have hlL : ch.length ≤ LIM := by omega
    rw [List.length_map, List.length_range] at loop
    have hmx : ∀ c ∈ ch, c ≠ [] ∧ maxB c ≤ 60 := fun c hcm => by
      obtain ⟨g1, g2⟩ := hc c hcm
      have hn : c ≠ [] := fun z => by
        rw [z] at g1
        simp at g1
        omega
      refine ⟨hn, (maxB_le hn).mpr fun x hx => ?_⟩
      unfold partsIn at g2
      rw [List.all_eq_true] at g2
      have := g2 x hx
      simp at this
      exact this.2
    have hcm : ∀ s2 s3, cRun .seq (.nm 4) [4] (condT .nop (ev ⟨Φ, T.md⟩ .nop)) (ev ⟨Φ, T.md⟩ (.bi .max [.var 4])).P [.fz (.list (ch.map bg))] [.fz (.list (rls rs)), .fz (.list (ch.map bg)), s2, s3, .no] =
        .ok (.fresh (.list ((ch.map maxB).map PyData.int))) [.fz (.list (rls rs)), .fz (.list (ch.map bg)), s2, s3, .no] := fun s2 s3 => by
      rw [cRun_seq (xs := ch.map bg) (fun d => match biD .max [d] with | some (_, v) => some v | none => none) (by rfl) (by rw [List.length_map]; omega) (by rfl) (by rfl) fun y hy => ?_]
      · have go : ∀ l : List (List Int), (∀ c ∈ l, c ≠ []) → (l.map bg).filterMap (fun d => match biD .max [d] with | some (_, v) => some v | none => none) = (l.map maxB).map PyData.int := by
          intro l
          induction l with
          | nil => exact fun _ => rfl
          | cons c l ih =>
            intro hh
            rw [List.map_cons, List.filterMap_cons, bi_max_bg (hh c List.mem_cons_self), ih fun x hx => hh x (List.mem_cons_of_mem _ hx)]
            rfl
        rw [go ch fun c hcm => (hmx c hcm).1]
        rfl
      · obtain ⟨c, hcm, rfl⟩ := List.mem_map.mp hy
        have mx := bi_max_bg (hmx c hcm).1
        simp [cTurn_eq, wipeR, setS_free, mx]
    obtain ⟨c0, cr, hch⟩ : ∃ c0 cr, ch = c0 :: cr := by
      cases ch with
      | nil => exact absurd rfl hne
      | cons a b => exact ⟨a, b, rfl⟩
    have hmax : ∃ m, biD .max [.list ((ch.map maxB).map PyData.int)] = some (false, .int m) ∧ m ≤ 60 := by
      refine ⟨maxB (ch.map maxB), ?_, ?_⟩
      · rw [hch, List.map_cons]
        exact max_list
      · refine (maxB_le (by rw [hch]; simp)).mpr fun x hx => ?_
        obtain ⟨c, hcm, rfl⟩ := List.mem_map.mp hx
        exact (hmx c hcm).2
    obtain ⟨mm, hm1, hm2⟩ := hmax
    rcases loop with ⟨ρ', l1, s2, s3, g2, g3, e, hj⟩ | ⟨i, fr, d, ρ', hi, l1, rfl, rfl, ⟨s2, s3, e⟩, hi2, hf⟩
    · subst e
      have hb : chainB rs ch = true := by
        unfold chainB
        rw [List.all_eq_true]
        exact fun j hjm => hj j (List.mem_range.mp hjm)
      rw [hb]
      simp only [List.map_map] at hcm hm1
      simp [fd__law_is_chain, startR, exs_sq, fRun_rng2 hlL, l1, hcm, hm1, hm2]
    · subst e
      have hb : chainB rs ch = false := by
        unfold chainB
        rw [Bool.eq_false_iff, ne_eq, List.all_eq_true]
        intro hall
        rw [hall i (List.mem_range.mpr hi2)] at hf
        cases hf
      rw [hb]
      simp [fd__law_is_chain, startR, exs_sq, fRun_rng2 hlL, l1]
  · subst e
    rw [List.length_map, List.length_range] at hi
    have hi1 : i < ch.length := by omega
    have hi2 : i + 1 < ch.length := by omega
    obtain ⟨ck, cp⟩ := hc ch[i] (List.getElem_mem hi1)
    have x := X ch[i] ck
    have a1 : L2.atI (ch.map bg) (i : Int) = some (bg ch[i]) := at_bags hi1
    have a2 : L2.atI (ch.map bg) (1 + (i : Int)) = some (bg ch[i + 1]) := by
      have := at_bags hi2
      rw [show (1 : Int) + (i : Int) = ((i + 1 : Nat) : Int) by omega]
      exact this
    have e3 : (1 : Int) + (i : Int) - 1 = (i : Int) := by omega
    have gd1 : ch.getD i [] = ch[i] := by simp [List.getD_eq_getElem?_getD, hi1]
    have gd2 : ch.getD (i + 1) [] = ch[i + 1] := by simp [List.getD_eq_getElem?_getD, hi2]
    have hE := exAcc_len rs ch[i] rs.length
    have hll : (excs rs ch[i]).length ≤ 8 := by
      unfold excs
      omega
    have hcs : cRun .seq (.nm 3) [3] (condT .nop (ev ⟨Φ, T.md⟩ .nop)) (ev ⟨Φ, T.md⟩ (.sub (.var 3) (.con (.int 2)))).P [.fz (.list ((excs rs ch[i]).map exD))] [.fz (.list (rls rs)), .fz (.list (ch.map bg)), .fz (.int (1 + (i : Int))), s3, .no] =
        .ok (.fresh (.list ((nxt rs ch[i]).map bg))) [.fz (.list (rls rs)), .fz (.list (ch.map bg)), .fz (.int (1 + (i : Int))), s3, .no] := by
      have hid : idle [.fz (.list (rls rs)), .fz (.list (ch.map bg)), .fz (.int (1 + (i : Int))), s3, .no] [3] = true := idle_iff fun v hv => by
        rw [List.mem_singleton.mp hv]
        exact congrArg some g3
      rw [cRun_seq (xs := (excs rs ch[i]).map exD) (fun d => subD d (.int 2)) (by rfl) (by rw [List.length_map]; omega) hid (by rfl) fun y hy => ?_]
      · have go : ∀ l : List (Nat × Nat × List Int), (l.map exD).filterMap (fun d => subD d (.int 2)) = (l.map (·.2.2)).map bg := by
          intro l
          induction l with
          | nil => rfl
          | cons e l ih =>
            rw [List.map_cons, List.filterMap_cons, exD_2, ih]
            rfl
        rw [go]
        rfl
      · obtain ⟨e, he, rfl⟩ := List.mem_map.mp hy
        have e2 := exD_2 e
        simp [cTurn_eq, wipeR, setS_free, e2]
    have hni := notin_bags ch[i + 1] (nxt rs ch[i])
    simp only [List.getElem_map, List.getElem_range]
    by_cases hq : ch[i + 1] ∈ nxt rs ch[i]
    · refine .inl ⟨[.fz (.list (rls rs)), .fz (.list (ch.map bg)), .fz (.int (1 + (i : Int))), s3, .no], ?_, .fz (.int (1 + (i : Int))), s3, rfl, g3, rfl, fun j hjl => ?_⟩
      · simp [turnOf_d, setS_free, g2, exs_sq, e3, a1, a2, callF_d, okSlots_d, x, flats_exD, hcs, hni, hq]
      · by_cases hji : j < i
        · exact hj j hji
        · have : j = i := by omega
          subst this
          rw [gd1, gd2]
          exact decide_eq_true hq
    · refine .inr ⟨false, .bool false, [.fz (.list (rls rs)), .fz (.list (ch.map bg)), .fz (.int (1 + (i : Int))), s3, .no], ?_, rfl, rfl, ⟨_, _, rfl⟩, hi, ?_⟩
      · simp [turnOf_d, setS_free, g2, exs_sq, e3, a1, a2, callF_d, okSlots_d, x, flats_exD, hcs, hni, hq]
      · rw [gd1, gd2]
        exact decide_eq_false hq
end K40
end

section
set_option Elab.async false
set_option linter.all false
set_option maxRecDepth 100000
set_option autoImplicit false
namespace DL
open PySem hiding exec execs settle finish
open PySem.W
theorem dLt_bg (a b : List Int) : dataLt (bg a) (bg b) = decide (a < b) := by
  unfold bg
  rw [dataLt_tuple]
  exact dataLt_ints a b
theorem alike_bgs : ∀ a b : List Int, alikeAll (a.map PyData.int) (b.map PyData.int) = true
  | [], b => by cases b <;> simp [alikeAll]
  | _ :: _, [] => by simp [alikeAll]
  | x :: a, y :: b => by
    simp [alikeAll, alike, alike_bgs a b]
theorem alike_bg (a b : List Int) : alike (bg a) (bg b) = true := by
  unfold bg alike
  exact alike_bgs a b
def minL (x : List Int) (l : List (List Int)) : List Int := l.foldl (fun a y => if y < a then y else a) x
theorem minD_bgs (x : List Int) (l : List (List Int)) : minD (bg x) (l.map bg) = bg (minL x l) := by
  unfold minD minL
  induction l generalizing x with
  | nil => rfl
  | cons y l ih =>
    rw [List.map_cons, List.foldl_cons, List.foldl_cons, dLt_bg]
    by_cases h : y < x <;> simp [h, ih]
theorem bi_min_bags (x : List Int) (l : List (List Int)) : biD .min [.list ((x :: l).map bg)] = some (false, bg (minL x l)) := by
  have h1 : alikeAllB ((x :: l).map bg) = true := by
    unfold alikeAllB
    rw [List.all_eq_true]
    intro p hp
    rw [List.all_eq_true]
    intro q hq
    obtain ⟨i, _, rfl⟩ := List.mem_map.mp hp
    obtain ⟨j, _, rfl⟩ := List.mem_map.mp hq
    exact alike_bg i j
  have h2 : okD (.list ((x :: l).map bg)) = true := (okD_seq fun y hy => by
    obtain ⟨e, _, rfl⟩ := List.mem_map.mp hy
    have := depth_bg e
    exact ⟨plain_bg e, by omega⟩).1
  rw [List.map_cons] at h1 h2
  show one1 (fun d => (seqD d).bind (pickD minD)) [.list ((x :: l).map bg)] = _
  unfold one1
  simp only [seqD_list, Option.bind_some, List.map_cons]
  show (if (alikeAllB (bg x :: l.map bg) && okD (PyData.list (bg x :: l.map bg)) && notNone (bg x)) = true then some (false, minD (bg x) (l.map bg)) else none) = _
  rw [h1, h2, minD_bgs]
  rfl
end DL
end

section
set_option Elab.async false
set_option linter.all false
set_option maxRecDepth 100000
set_option autoImplicit false
namespace DL
open PySem hiding exec execs settle finish
open PySem.W
/-! ### dicts with bags as keys -/
def dicB {α : Type} (f : α → D) (l : List (List Int × α)) : D := .dict ((.none, .none) :: l.map fun p => (bg p.1, f p.2))
def look {α : Type} (l : List (List Int × α)) (b : List Int) : Option α := (l.find? fun p => decide (p.1 = b)).map (·.2)
theorem keyT_bg (b : List Int) : keyT (bg b) = true := by
  unfold bg keyT
  rw [List.all_eq_true]
  intro x hx
  obtain ⟨i, _, rfl⟩ := List.mem_map.mp hx
  rfl
theorem dlook_bg {α : Type} (f : α → D) (b : List Int) : ∀ l : List (List Int × α), dlook (l.map fun p => (bg p.1, f p.2)) (bg b) = (look l b).map f
  | [] => rfl
  | p :: l => by
    have ih := dlook_bg f b l
    unfold dlook look at *
    rw [List.map_cons, List.find?_cons, List.find?_cons, eqv_bg]
    by_cases h : p.1 = b
    · simp [h]
    · simpa [h] using ih
theorem look_bg {α : Type} (f : α → D) (l : List (List Int × α)) (b : List Int) : lookD (dicB f l) (bg b) = some ((look l b).map f) := by
  show (if keyT (bg b) then some (dlook (l.map fun p => (bg p.1, f p.2)) (bg b)) else none) = _
  rw [keyT_bg, if_pos rfl, dlook_bg]
def put {α : Type} (l : List (List Int × α)) (b : List Int) (a : α) : List (List Int × α) := if (l.any fun p => decide (p.1 = b)) = true then l.map (fun p => if p.1 = b then (p.1, a) else p) else l ++ [(b, a)]
theorem put_bg {α : Type} (f : α → D) (l : List (List Int × α)) (b : List Int) (a : α) (h : l.length < LIM) : putD (dicB f l) (bg b) (f a) = some (dicB f (put l b a)) := by
  show (if keyT (bg b) && decide ((l.map fun p => (bg p.1, f p.2)).length < LIM) then some (PyData.dict ((.none, .none) :: dput (l.map fun p => (bg p.1, f p.2)) (bg b) (f a))) else none) = _
  rw [keyT_bg, if_pos (by simpa using h)]
  unfold dicB put dput
  have e : ((l.map fun p => (bg p.1, f p.2)).any fun p => PyData.eqv p.1 (bg b)) = l.any fun p => decide (p.1 = b) := by
    rw [List.any_map]
    congr 1
    funext p
    exact eqv_bg p.1 b
  rw [e]
  split
  · simp only [List.map_map]
    congr 3
    apply List.map_congr_left
    intro p _
    simp only [Function.comp, eqv_bg]
    by_cases h : p.1 = b <;> simp [h]
  · simp
end DL
end

section
set_option Elab.async false
set_option linter.all false
set_option maxRecDepth 100000
set_option autoImplicit false
namespace DL
open PySem hiding exec execs settle finish
open PySem.W
theorem putB_get {b l r : List Int} {k : Nat} (h : k < b.length) : (putB b l r).getD k 0 = b.getD k 0 - l.getD k 0 + r.getD k 0 := by
  unfold putB
  rw [List.getD_eq_getElem?_getD, List.getElem?_map, List.getElem?_range h]
  rfl
theorem hasB_put {b l r : List Int} (h : hasB b l = true) : hasB (putB b l r) r = true := by
  unfold hasB at *
  rw [List.all_eq_true] at *
  intro k hk
  rw [putB_len] at hk
  have h1 := h k hk
  simp only [decide_eq_true_eq] at *
  rw [putB_get (List.mem_range.mp hk)]
  omega
theorem putB_back {b l r : List Int} : putB (putB b l r) r l = b := by
  apply List.ext_getElem
  · rw [putB_len, putB_len]
  · intro k h1 h2
    have e : (putB (putB b l r) r l).getD k 0 = b.getD k 0 := by
      rw [putB_get (by rw [putB_len]; exact h2), putB_get h2]
      omega
    simpa [List.getD_eq_getElem?_getD, h1, h2] using e
theorem mem_excs {rs : List Rule} {b : List Int} {r : Rule} (hr : r ∈ rs) : (hasB b r.1 = true → putB b r.1 r.2 ∈ nxt rs b) ∧ (hasB b r.2 = true → putB b r.2 r.1 ∈ nxt rs b) := by
  obtain ⟨p, hp, e⟩ := List.mem_iff_getElem.mp hr
  have hg : rs.getD p ([], []) = r := by simp [List.getD_eq_getElem?_getD, hp, e]
  have mem : ∀ x ∈ exc1 p r b, x ∈ excs rs b := fun x hx => by
    unfold excs exAcc
    exact List.mem_flatMap.mpr ⟨p, List.mem_range.mpr hp, by rw [hg]; exact hx⟩
  constructor
  · intro h
    exact List.mem_map.mpr ⟨(p, 0, putB b r.1 r.2), mem _ (by simp [exc1, h]), rfl⟩
  · intro h
    exact List.mem_map.mpr ⟨(p, 1, putB b r.2 r.1), mem _ (by simp [exc1, h]), rfl⟩
/-- an exchange goes back -/
theorem nxt_symm {rs : List Rule} {b c : List Int} (h : c ∈ nxt rs b) : b ∈ nxt rs c := by
  unfold nxt at h
  obtain ⟨e, he, rfl⟩ := List.mem_map.mp h
  obtain ⟨r, hr, ⟨h1, h2⟩ | ⟨h1, h2⟩⟩ := excs_mem he
  · rw [h2]
    have := (mem_excs (b := putB b r.1 r.2) hr).2 (hasB_put h1)
    rwa [putB_back] at this
  · rw [h2]
    have := (mem_excs (b := putB b r.2 r.1) hr).1 (hasB_put h1)
    rwa [putB_back] at this
end DL
end

section
set_option Elab.async false
set_option linter.all false
set_option maxRecDepth 100000
set_option autoImplicit false
namespace DL
/-! ### chains in a graph -/
section
variable (nb : List Int → List (List Int))
/-- a chain of n steps -/
inductive Pth : Nat → List Int → List Int → Prop
  | nil (v : List Int) : Pth 0 v v
  | cons {n : Nat} {v c w : List Int} : c ∈ nb v → Pth n c w → Pth (n + 1) v w
inductive Ch : Nat → List Int → List Int → List (List Int) → Prop
  | nil (v : List Int) : Ch 0 v v [v]
  | cons {n : Nat} {v c w : List Int} {q : List (List Int)} : c ∈ nb v → Ch n c w q → Ch (n + 1) v w (v :: q)
variable {nb}
theorem Ch.pth {n : Nat} {v w : List Int} {q : List (List Int)} (h : Ch nb n v w q) : Pth nb n v w := by
  induction h with
  | nil v => exact .nil v
  | cons h _ ih => exact .cons h ih
theorem Ch.head {n : Nat} {v w : List Int} {q : List (List Int)} (h : Ch nb n v w q) : ∃ r, q = v :: r := by
  cases h with
  | nil => exact ⟨[], rfl⟩
  | cons _ _ => exact ⟨_, rfl⟩
theorem Ch.len {n : Nat} {v w : List Int} {q : List (List Int)} (h : Ch nb n v w q) : q.length = n + 1 := by
  induction h with
  | nil v => rfl
  | cons _ _ ih => rw [List.length_cons, ih]
theorem Pth.snoc {n : Nat} {v u w : List Int} (h : Pth nb n v u) (hw : w ∈ nb u) : Pth nb (n + 1) v w := by
  induction h with
  | nil v => exact .cons hw (.nil w)
  | cons hc _ ih => exact .cons hc (ih hw)
end
end DL
end

section
set_option Elab.async false
set_option linter.all false
set_option maxRecDepth 100000
set_option autoImplicit false
namespace DL
theorem minL_mem : ∀ (l : List (List Int)) (x : List Int), minL x l ∈ x :: l
  | [], x => by simp [minL]
  | y :: l, x => by
    have ih := minL_mem l (if y < x then y else x)
    unfold minL at *
    rw [List.foldl_cons]
    split at ih
    · rename_i h
      rw [if_pos h]
      exact List.mem_cons_of_mem _ ih
    · rename_i h
      rw [if_neg h]
      rcases List.mem_cons.mp ih with e | e
      · rw [e]
        exact List.mem_cons_self
      · exact List.mem_cons_of_mem _ (List.mem_cons_of_mem _ e)
theorem minL_le : ∀ (l : List (List Int)) (x : List Int), ∀ y ∈ x :: l, ¬ y < minL x l
  | [], x, y, hy => by
    rw [List.mem_singleton.mp hy]
    exact List.lt_irrefl x
  | z :: l, x, y, hy => by
    have ih := minL_le l (if z < x then z else x)
    have e : minL x (z :: l) = minL (if z < x then z else x) l := rfl
    rw [e]
    by_cases h : z < x
    · rw [if_pos h] at ih ⊢
      rcases List.mem_cons.mp hy with e | hy
      · subst e
        intro q
        exact ih z List.mem_cons_self (List.lt_trans h q)
      · exact ih y hy
    · rw [if_neg h] at ih ⊢
      rcases List.mem_cons.mp hy with e | hy
      · subst e
        exact ih y List.mem_cons_self
      · rcases List.mem_cons.mp hy with e | hy
        · subst e
          intro q
          have hx := ih x List.mem_cons_self
          rcases Classical.em (x = y) with e2 | e2
          · subst e2
            exact hx q
          · have : x < y := by
              rcases Classical.em (x < y) with h3 | h3
              · exact h3
              · exact absurd (List.le_antisymm (List.not_lt.mp h) (List.not_lt.mp h3)) e2
            exact hx (List.lt_trans this q)
        · exact ih y (List.mem_cons_of_mem _ hy)
end DL
end

section
set_option Elab.async false
set_option linter.all false
set_option maxRecDepth 100000
set_option autoImplicit false
namespace DL
section
variable {nb : List Int → List (List Int)} {goal : List Int}
def Dst (nb : List Int → List (List Int)) (goal v : List Int) (n : Nat) : Prop := Pth nb n v goal ∧ ∀ m, Pth nb m v goal → n ≤ m
def Least (nb : List Int → List (List Int)) (n : Nat) (v w : List Int) (q : List (List Int)) : Prop := Ch nb n v w q ∧ ∀ q', Ch nb n v w q' → ¬ q' < q
theorem least_cons {n : Nat} {v m : List Int} {q : List (List Int)} (hv : Dst nb goal v (n + 1)) (hm : m ∈ nb v) (hmin : ∀ c ∈ nb v, Dst nb goal c n → ¬ c < m) (h : Least nb n m goal q) : Least nb (n + 1) v goal (v :: q) := by
  refine ⟨.cons hm h.1, fun q' hq' => ?_⟩
  cases hq' with
  | cons hc hq1 =>
    rename_i c q1
    have dc : Dst nb goal c n := ⟨hq1.pth, fun k hk => by
      have := hv.2 (k + 1) (.cons hc hk)
      omega⟩
    intro hlt
    rw [List.cons_lt_cons_iff] at hlt
    rcases hlt with hlt | ⟨_, hlt⟩
    · exact List.lt_irrefl v hlt
    · obtain ⟨r1, e1⟩ := hq1.head
      obtain ⟨r, e2⟩ := h.1.head
      subst e1 e2
      rw [List.cons_lt_cons_iff] at hlt
      rcases hlt with hlt | ⟨e, hlt⟩
      · exact hmin c hc dc hlt
      · subst e
        exact h.2 _ hq1 (List.cons_lt_cons_iff.mpr (.inr ⟨rfl, hlt⟩))
theorem least_nil : Least nb 0 goal goal [goal] := ⟨.nil goal, fun q' h => by
  cases h
  exact List.lt_irrefl _⟩
theorem least_one {n : Nat} {v w : List Int} {q q' : List (List Int)} (h : Least nb n v w q) (h' : Least nb n v w q') : q = q' := List.le_antisymm (List.not_lt.mp (h.2 q' h'.1)) (List.not_lt.mp (h'.2 q h.1))
end
end DL
end

section
set_option Elab.async false
set_option linter.all false
set_option maxRecDepth 100000
set_option autoImplicit false
namespace DL
section
variable {nb : List Int → List (List Int)}
theorem Ch.snoc {n : Nat} {v u w : List Int} {q : List (List Int)} (h : Ch nb n v u q) (hw : w ∈ nb u) : Ch nb (n + 1) v w (q ++ [w]) := by
  induction h with
  | nil v => exact .cons hw (.nil w)
  | cons hc _ ih => exact .cons hc (ih hw)
theorem Ch.unsnoc : ∀ {n : Nat} {v w : List Int} {q : List (List Int)}, Ch nb (n + 1) v w q → ∃ u q0, Ch nb n v u q0 ∧ w ∈ nb u ∧ q = q0 ++ [w]
  | 0, v, w, q, h => by
    cases h with
    | cons hc h2 =>
      cases h2
      exact ⟨v, [v], .nil v, hc, rfl⟩
  | n + 1, v, w, q, h => by
    cases h with
    | cons hc h2 =>
      obtain ⟨u, q0, h3, h4, h5⟩ := Ch.unsnoc h2
      exact ⟨u, v :: q0, .cons hc h3, h4, by rw [h5]; rfl⟩
end
end DL
namespace DL
section
variable {nb : List Int → List (List Int)}
theorem lt_snoc (w : List Int) : ∀ {a b : List (List Int)}, a.length = b.length → a ++ [w] < b ++ [w] → a < b
  | [], [], _, h => absurd h (List.lt_irrefl _)
  | [], _ :: _, e, _ => nomatch e
  | _ :: _, [], e, _ => nomatch e
  | x :: a, y :: b, e, h => by
    rw [List.cons_append, List.cons_append, List.cons_lt_cons_iff] at h
    rw [List.cons_lt_cons_iff]
    rcases h with h | ⟨h1, h2⟩
    · exact .inl h
    · exact .inr ⟨h1, lt_snoc w (Nat.succ.inj e) h2⟩
def Dsf (nb : List Int → List (List Int)) (v u : List Int) (n : Nat) : Prop := Pth nb n v u ∧ ∀ m, Pth nb m v u → n ≤ m
theorem least_snoc {n : Nat} {v w : List Int} {W : List (List Int)} (hw : Dsf nb v w (n + 1)) (hW : Ch nb (n + 1) v w W) (hex : ∀ u, Dsf nb v u n → ∃ q, Least nb n v u q) (hmin : ∀ u q, w ∈ nb u → Dsf nb v u n → Least nb n v u q → ¬ (q ++ [w]) < W) : Least nb (n + 1) v w W := by
  refine ⟨hW, fun q2 h2 hlt => ?_⟩
  obtain ⟨u, q0, h3, h4, h5⟩ := Ch.unsnoc h2
  have du : Dsf nb v u n := ⟨h3.pth, fun m hm => by
    have := hw.2 (m + 1) (hm.snoc h4)
    omega⟩
  obtain ⟨q, hq⟩ := hex u du
  refine hmin u q h4 du hq ?_
  rw [h5] at hlt
  have hle : ¬ (q0 ++ [w] < q ++ [w]) := fun z => hq.2 q0 h3 (lt_snoc w (by rw [h3.len, hq.1.len]) z)
  rcases Classical.em (q ++ [w] = q0 ++ [w]) with e | e
  · rw [e]
    exact hlt
  · have : q ++ [w] < q0 ++ [w] := by
      rcases Classical.em (q ++ [w] < q0 ++ [w]) with h | h
      · exact h
      · exact absurd (List.le_antisymm (List.not_lt.mp hle) (List.not_lt.mp h)) e
    exact List.lt_trans this hlt
end
end DL
end

section
set_option Elab.async false
set_option linter.all false
set_option maxRecDepth 100000
set_option autoImplicit false
namespace DL
/-! ### distances by a queue -/
theorem look_mem {α : Type} {l : List (List Int × α)} (hn : (l.map (·.1)).Nodup) {b : List Int} {a : α} : look l b = some a ↔ (b, a) ∈ l := by
  induction l with
  | nil => simp [look]
  | cons p l ih =>
    rw [List.map_cons, List.nodup_cons] at hn
    have ih := ih hn.2
    unfold look at *
    rw [List.find?_cons]
    by_cases h : p.1 = b
    · have e : decide (p.1 = b) = true := decide_eq_true h
      rw [e]
      simp only [Option.map_some, Option.some.injEq, List.mem_cons]
      constructor
      · intro q
        left
        rw [← h, ← q]
      · rintro (q | q)
        · rw [← q]
        · exact absurd (List.mem_map.mpr ⟨_, q, h.symm⟩) hn.1
    · have e : decide (p.1 = b) = false := decide_eq_false h
      rw [e]
      simp only [List.mem_cons]
      rw [ih]
      constructor
      · exact .inr
      · rintro (q | q)
        · exact absurd (by rw [← q]) h
        · exact q
theorem look_none {α : Type} {l : List (List Int × α)} {b : List Int} : look l b = none ↔ ∀ a, (b, a) ∉ l := by
  unfold look
  rw [Option.map_eq_none_iff, List.find?_eq_none]
  constructor
  · intro h a q
    exact h _ q (by simp)
  · rintro h ⟨c, a⟩ q
    simp only [decide_eq_true_eq]
    intro e
    subst e
    exact h a q
section
variable (nx : List Int → List (List Int)) (ok : List Int → Bool) (goal : List Int)
def nbs (v : List Int) : List (List Int) := (nx v).filter ok
def bfs1 (d : Nat) (L : List (List Int × Nat)) (w : List Int) : List (List Int × Nat) := if (look L w).isNone && ok w then L ++ [(w, d + 1)] else L
structure Bfs (L : List (List Int × Nat)) (a : Nat) : Prop where
  nodup : (L.map (·.1)).Nodup
  head : L[0]? = some (goal, 0)
  okk : ∀ p ∈ L, ok p.1 = true
  mono : ∀ i j (h : i ≤ j) (hj : j < L.length), L[i].2 ≤ L[j].2
  near : ∀ j (h : a < L.length) (hj : j < L.length), L[j].2 ≤ L[a].2 + 1
  path : ∀ p ∈ L, Pth (nbs nx ok) p.2 p.1 goal
  done : ∀ i (h : i < L.length), i < a → ∀ w ∈ nbs nx ok L[i].1, ∃ p ∈ L, p.1 = w ∧ p.2 ≤ L[i].2 + 1
variable {nx ok goal}
theorem bfs_start (h : ok goal = true) : Bfs nx ok goal [(goal, 0)] 0 := by
  refine ⟨by simp, rfl, by simp [h], ?_, ?_, ?_, ?_⟩
  · intro i j h hj
    simp only [List.length_singleton] at hj
    have : i = 0 := by omega
    have : j = 0 := by omega
    subst i j
    exact Nat.le_refl _
  · intro j h hj
    simp only [List.length_singleton] at hj
    have : j = 0 := by omega
    subst j
    exact Nat.le_succ _
  · intro p hp
    rw [List.mem_singleton.mp hp]
    exact .nil goal
  · intro i h hi
    exact absurd hi (by omega)
theorem bfs_one {L : List (List Int × Nat)} {a : Nat} (sym : ∀ v w, w ∈ nx v → v ∈ nx w) (I : Bfs nx ok goal L a) (ha : a < L.length) {w : List Int} (hw : w ∈ nx L[a].1) :
    Bfs nx ok goal (bfs1 ok L[a].2 L w) a ∧ (∃ t, bfs1 ok L[a].2 L w = L ++ t ∧ ∀ p ∈ t, p.1 = w) ∧ (ok w = true → ∃ p ∈ bfs1 ok L[a].2 L w, p.1 = w) := by
  unfold bfs1
  by_cases hc : ((look L w).isNone && ok w) = true
  · rw [if_pos hc]
    rw [Bool.and_eq_true, Option.isNone_iff_eq_none] at hc
    have hno := look_none.mp hc.1
    refine ⟨⟨?_, ?_, ?_, ?_, ?_, ?_, ?_⟩, ⟨[(w, L[a].2 + 1)], rfl, ?_⟩, fun _ => ⟨_, List.mem_append_right _ (List.mem_singleton.mpr rfl), rfl⟩⟩
    · rw [List.map_append, List.nodup_append]
      refine ⟨I.nodup, by simp, fun x hx y hy => ?_⟩
      simp only [List.map_cons, List.map_nil, List.mem_singleton] at hy
      obtain ⟨p, hp, rfl⟩ := List.mem_map.mp hx
      intro e
      rw [hy] at e
      exact hno p.2 (by rw [← e]; exact hp)
    · rw [List.getElem?_append_left (by omega)]
      exact I.head
    · intro p hp
      rcases List.mem_append.mp hp with hp | hp
      · exact I.okk p hp
      · rw [List.mem_singleton.mp hp]
        exact hc.2
    · intro i j h hj
      rw [List.length_append, List.length_singleton] at hj
      by_cases hj2 : j < L.length
      · rw [List.getElem_append_left hj2, List.getElem_append_left (by omega)]
        exact I.mono i j h hj2
      · have ej : j = L.length := by omega
        subst ej
        rw [List.getElem_append_right (Nat.le_refl _)]
        simp only [Nat.sub_self, List.getElem_singleton]
        by_cases hi : i < L.length
        · rw [List.getElem_append_left hi]
          exact I.near i ha hi
        · have ei : i = L.length := by omega
          subst ei
          rw [List.getElem_append_right (Nat.le_refl _)]
          simp
    · intro j h hj
      rw [List.length_append, List.length_singleton] at hj
      rw [List.getElem_append_left ha]
      by_cases hj2 : j < L.length
      · rw [List.getElem_append_left hj2]
        exact I.near j ha hj2
      · have ej : j = L.length := by omega
        subst ej
        rw [List.getElem_append_right (Nat.le_refl _)]
        simp
    · intro p hp
      rcases List.mem_append.mp hp with hp | hp
      · exact I.path p hp
      · rw [List.mem_singleton.mp hp]
        exact .cons (List.mem_filter.mpr ⟨sym _ _ hw, I.okk _ (List.getElem_mem ha)⟩) (I.path _ (List.getElem_mem ha))
    · intro i h hi u hu
      have hi2 : i < L.length := by omega
      rw [List.getElem_append_left hi2] at hu ⊢
      obtain ⟨p, hp, h1, h2⟩ := I.done i hi2 hi u hu
      exact ⟨p, List.mem_append_left _ hp, h1, h2⟩
    · intro p hp
      rw [List.mem_singleton.mp hp]
  · rw [if_neg hc]
    refine ⟨I, ⟨[], by simp, by simp⟩, fun ho => ?_⟩
    cases e : look L w with
    | none =>
      rw [e, ho] at hc
      exact absurd rfl hc
    | some d => exact ⟨_, (look_mem I.nodup).mp e, rfl⟩
theorem bfs_all (sym : ∀ v w, w ∈ nx v → v ∈ nx w) {L0 : List (List Int × Nat)} {a : Nat} (I0 : Bfs nx ok goal L0 a) (ha : a < L0.length) :
    ∀ (ws : List (List Int)) (L : List (List Int × Nat)), (∀ w ∈ ws, w ∈ nx L0[a].1) → Bfs nx ok goal L a → (∃ t, L = L0 ++ t) →
      Bfs nx ok goal (ws.foldl (bfs1 ok L0[a].2) L) a ∧ (∃ t, ws.foldl (bfs1 ok L0[a].2) L = L ++ t ∧ ∀ p ∈ t, p.1 ∈ ws) ∧ ∀ w ∈ ws, ok w = true → ∃ p ∈ ws.foldl (bfs1 ok L0[a].2) L, p.1 = w
  | [], L, _, I, _ => ⟨I, ⟨[], by simp, by simp⟩, fun _ h => absurd h List.not_mem_nil⟩
  | w :: ws, L, hws, I, ⟨t0, e0⟩ => by
    have ha2 : a < L.length := by
      rw [e0, List.length_append]
      omega
    have e1 : L[a] = L0[a] := by
      subst e0
      exact List.getElem_append_left ha
    have one := bfs_one sym I ha2 (w := w) (by rw [e1]; exact hws w List.mem_cons_self)
    rw [e1] at one
    obtain ⟨J, ⟨t1, e2, m1⟩, k1⟩ := one
    obtain ⟨J2, ⟨t2, e3, m2⟩, k2⟩ := bfs_all sym I0 ha ws (bfs1 ok L0[a].2 L w) (fun x hx => hws x (List.mem_cons_of_mem _ hx)) J ⟨t0 ++ t1, by rw [e2, e0, List.append_assoc]⟩
    rw [List.foldl_cons]
    refine ⟨J2, ⟨t1 ++ t2, by rw [e3, e2, List.append_assoc], fun p hp => ?_⟩, fun x hx ho => ?_⟩
    · rcases List.mem_append.mp hp with hp | hp
      · rw [m1 p hp]
        exact List.mem_cons_self
      · exact List.mem_cons_of_mem _ (m2 p hp)
    · rcases List.mem_cons.mp hx with e | hx
      · subst e
        obtain ⟨p, hp, e⟩ := k1 ho
        exact ⟨p, by rw [e3]; exact List.mem_append_left _ hp, e⟩
      · exact k2 x hx ho
theorem bfs_turn (sym : ∀ v w, w ∈ nx v → v ∈ nx w) {L : List (List Int × Nat)} {a : Nat} (I : Bfs nx ok goal L a) (ha : a < L.length) : Bfs nx ok goal ((nx L[a].1).foldl (bfs1 ok L[a].2) L) (a + 1) := by
  obtain ⟨J, ⟨t, e, _⟩, k⟩ := bfs_all sym I ha (nx L[a].1) L (fun _ h => h) I ⟨[], by simp⟩
  generalize (nx L[a].1).foldl (bfs1 ok L[a].2) L = L2 at *
  have hb : a < L2.length := by
    rw [e, List.length_append]
    omega
  have e1 : L2[a] = L[a] := by
    subst e
    exact List.getElem_append_left ha
  refine ⟨J.nodup, J.head, J.okk, J.mono, fun j h hj => ?_, J.path, fun i h hi w hw => ?_⟩
  · have h1 := J.near j hb hj
    have h2 := J.mono a (a + 1) (Nat.le_succ _) h
    omega
  · by_cases hia : i < a
    · exact J.done i h hia w hw
    · have : i = a := by omega
      subst this
      rw [e1] at hw
      obtain ⟨h1, h2⟩ := List.mem_filter.mp hw
      obtain ⟨p, hp, h3⟩ := k w h1 h2
      refine ⟨p, hp, h3, ?_⟩
      obtain ⟨q, hq, e3⟩ := List.mem_iff_getElem.mp hp
      have := J.near q hb hq
      rw [e3] at this
      exact this
theorem bfs_end (sym : ∀ v w, w ∈ nx v → v ∈ nx w) {L : List (List Int × Nat)} {a : Nat} (I : Bfs nx ok goal L a) (ha : L.length ≤ a) {n : Nat} {v : List Int} (hp : Pth (nbs nx ok) n v goal) : ok v = true → ∃ p ∈ L, p.1 = v ∧ p.2 ≤ n := by
  generalize hg : goal = g at hp
  induction hp with
  | nil v =>
    subst hg
    intro _
    have := I.head
    exact ⟨_, List.mem_of_getElem? this, rfl, Nat.le_refl _⟩
  | cons hc hp ih =>
    rename_i n v c w
    intro hv
    obtain ⟨hc1, hc2⟩ := List.mem_filter.mp hc
    obtain ⟨p, hp, e1, e2⟩ := ih hg hc2
    obtain ⟨i, hi, e3⟩ := List.mem_iff_getElem.mp hp
    have hm : v ∈ nbs nx ok L[i].1 := by
      rw [e3, e1]
      exact List.mem_filter.mpr ⟨sym _ _ hc1, hv⟩
    obtain ⟨q, hq, e4, e5⟩ := I.done i hi (by omega) v hm
    refine ⟨q, hq, e4, ?_⟩
    rw [e3] at e5
    omega
theorem bfs_dst (sym : ∀ v w, w ∈ nx v → v ∈ nx w) {L : List (List Int × Nat)} {a : Nat} (I : Bfs nx ok goal L a) (ha : L.length ≤ a) {v : List Int} {n : Nat} (hv : ok v = true) : look L v = some n ↔ Dst (nbs nx ok) goal v n := by
  rw [look_mem I.nodup]
  constructor
  · intro h
    refine ⟨I.path _ h, fun m hm => ?_⟩
    obtain ⟨p, hp, e1, e2⟩ := bfs_end sym I ha hm hv
    have := (look_mem I.nodup).mpr h
    have h2 := (look_mem I.nodup (a := p.2) (b := v)).mpr (by rw [← e1]; exact hp)
    rw [this] at h2
    cases h2
    exact e2
  · intro h
    obtain ⟨p, hp, e1, e2⟩ := bfs_end sym I ha h.1 hv
    have h1 := I.path p hp
    rw [e1] at h1
    have := h.2 p.2 h1
    have e : p = (v, n) := Prod.ext e1 (by omega)
    rw [← e]
    exact hp
end
end DL
end

section
set_option Elab.async false
set_option linter.all false
set_option maxRecDepth 100000
set_option autoImplicit false
namespace DL
/-! ### levels of chains -/
theorem look_cons {α : Type} (p : List Int × α) (l : List (List Int × α)) (x : List Int) : look (p :: l) x = if p.1 = x then some p.2 else look l x := by
  unfold look
  rw [List.find?_cons]
  by_cases h : p.1 = x <;> simp [h]
theorem look_append {α : Type} (l r : List (List Int × α)) (x : List Int) : look (l ++ r) x = (look l x).or (look r x) := by
  induction l with
  | nil => simp [look]
  | cons p l ih =>
    rw [List.cons_append, look_cons, look_cons, ih]
    split <;> simp
theorem look_put {α : Type} (l : List (List Int × α)) (b x : List Int) (a : α) : look (put l b a) x = if x = b then some a else look l x := by
  unfold put
  by_cases h : (l.any fun p => decide (p.1 = b)) = true
  · rw [if_pos h]
    induction l with
    | nil => simp at h
    | cons p l ih =>
      rw [List.map_cons, look_cons, look_cons]
      by_cases hp : p.1 = b
      · simp only [hp, if_true]
        by_cases hx : x = b
        · simp [hx]
        · have hx' : ¬ b = x := fun z => hx z.symm
          simp only [hx, hx', if_false]
          by_cases ha : (l.any fun p => decide (p.1 = b)) = true
          · rw [ih ha, if_neg hx]
          · have : l.map (fun p => if p.1 = b then (p.1, a) else p) = l := by
              rw [List.map_eq_iff]
              intro i
              cases e : l[i]? with
              | none => rfl
              | some q =>
                simp only [Option.map_some, Option.some.injEq]
                rw [if_neg]
                intro z
                exact ha (List.any_eq_true.mpr ⟨q, List.mem_of_getElem? e, decide_eq_true z⟩)
            rw [this]
      · simp only [hp, if_false]
        by_cases hx : p.1 = x
        · have hx' : ¬ x = b := fun z => hp (by rw [hx, z])
          simp [hx, hx']
        · simp only [hx, if_false]
          exact ih (by simpa [hp] using h)
  · rw [if_neg h, look_append]
    by_cases hx : x = b
    · subst hx
      have : look l x = none := look_none.mpr fun a q => h (List.any_eq_true.mpr ⟨_, q, decide_eq_true rfl⟩)
      rw [this, if_pos rfl]
      simp [look_cons]
    · rw [if_neg hx, look_cons, if_neg fun z => hx z.symm]
      simp [look]
theorem put_keys {α : Type} {l : List (List Int × α)} {b : List Int} {a : α} : (l.map (·.1)).Nodup → ((put l b a).map (·.1)).Nodup := by
  unfold put
  by_cases h : (l.any fun p => decide (p.1 = b)) = true
  · rw [if_pos h]
    intro hn
    have e : (l.map fun p => if p.1 = b then (p.1, a) else p).map (·.1) = l.map (·.1) := by
      rw [List.map_map]
      apply List.map_congr_left
      intro p _
      simp only [Function.comp]
      split <;> rfl
    rw [e]
    exact hn
  · rw [if_neg h]
    intro hn
    rw [List.map_append, List.nodup_append]
    refine ⟨hn, by simp, fun x hx y hy e => ?_⟩
    simp only [List.map_cons, List.map_nil, List.mem_singleton] at hy
    obtain ⟨p, hp, e2⟩ := List.mem_map.mp hx
    exact h (List.any_eq_true.mpr ⟨p, hp, decide_eq_true (by rw [e2, e, hy])⟩)
theorem look_key {α : Type} {l : List (List Int × α)} {b : List Int} : b ∈ l.map (·.1) ↔ ∃ a, look l b = some a := by
  rw [List.mem_map]
  constructor
  · rintro ⟨p, hp, rfl⟩
    cases e : look l p.1 with
    | none => exact absurd hp (look_none.mp e p.2)
    | some a => exact ⟨a, rfl⟩
  · rintro ⟨a, h⟩
    unfold look at h
    obtain ⟨p, hp, rfl⟩ := Option.map_eq_some_iff.mp h
    exact ⟨p, List.mem_of_find?_eq_some hp, by simpa using List.find?_some hp⟩
abbrev Chn := List (List Int)
section
variable {nb : List Int → List (List Int)}
theorem Pth.unsnoc : ∀ {n : Nat} {v w : List Int}, Pth nb (n + 1) v w → ∃ u, Pth nb n v u ∧ w ∈ nb u
  | 0, v, w, h => by
    cases h with
    | cons hc h2 =>
      cases h2
      exact ⟨v, .nil v, hc⟩
  | n + 1, v, w, h => by
    cases h with
    | cons hc h2 =>
      obtain ⟨u, h3, h4⟩ := Pth.unsnoc h2
      exact ⟨u, .cons hc h3, h4⟩
theorem dsf_of : ∀ {n : Nat} {v w : List Int}, Pth nb n v w → ∃ m, m ≤ n ∧ Dsf nb v w m := by
  intro n
  induction n using Nat.strongRecOn with
  | _ n ih =>
    intro v w h
    by_cases hx : ∃ m, m < n ∧ Pth nb m v w
    · obtain ⟨m, h1, h2⟩ := hx
      obtain ⟨k, h3, h4⟩ := ih m h1 h2
      exact ⟨k, by omega, h4⟩
    · exact ⟨n, Nat.le_refl _, h, fun m hm => Nat.le_of_not_lt fun z => hx ⟨m, z, hm⟩⟩
theorem dsf_one {v w : List Int} {m n : Nat} (h : Dsf nb v w m) (h' : Dsf nb v w n) : m = n := Nat.le_antisymm (h.2 _ h'.1) (h'.2 _ h.1)
/-- ahead of a far one there is one a step nearer -/
theorem dsf_pre {v w : List Int} {n : Nat} (h : Dsf nb v w (n + 1)) : ∃ u, Dsf nb v u n ∧ w ∈ nb u := by
  obtain ⟨u, h1, h2⟩ := h.1.unsnoc
  exact ⟨u, ⟨h1, fun m hm => by
    have := h.2 _ (hm.snoc h2)
    omega⟩, h2⟩
theorem dsf_down {v : List Int} : ∀ {k n : Nat} {w : List Int}, Dsf nb v w (n + k) → ∃ u, Dsf nb v u n
  | 0, n, w, h => ⟨w, h⟩
  | k + 1, n, w, h => by
    obtain ⟨u, h1, _⟩ := dsf_pre (n := n + k) h
    exact dsf_down h1
end
section
variable (nx : List Int → List (List Int)) (ok : List Int → Bool) (start : List Int)
def lev1 (F : List (List Int × Chn)) (N : List (List Int × Chn)) (e : List Int × List Int) : List (List Int × Chn) :=
  if ok e.2 && (look F e.2).isNone then
    (let c := (look F e.1).getD [] ++ [e.2]
    if (look N e.2).isNone || decide (c < (look N e.2).getD []) then put N e.2 c else N)
  else N
structure New (F N : List (List Int × Chn)) (P : List (List Int × List Int)) : Prop where
  nodup : (N.map (·.1)).Nodup
  sound : ∀ w c, look N w = some c → ok w = true ∧ look F w = none ∧ ∃ h f, (h, w) ∈ P ∧ look F h = some f ∧ c = f ++ [w]
  all : ∀ h w f, (h, w) ∈ P → ok w = true → look F w = none → look F h = some f → ∃ c, look N w = some c ∧ ¬ (f ++ [w] < c)
structure Lev (F : List (List Int × Chn)) (lev : List (List Int)) (d : Nat) : Prop where
  nodup : (F.map (·.1)).Nodup
  keys : ∀ v n, n ≤ d → Dsf (nbs nx ok) start v n → ∃ c, look F v = some c ∧ Least (nbs nx ok) n start v c
  only : ∀ v c, look F v = some c → ok v = true ∧ ∃ n, n ≤ d ∧ Dsf (nbs nx ok) start v n ∧ Least (nbs nx ok) n start v c
  lev : ∀ v, v ∈ lev ↔ Dsf (nbs nx ok) start v d
variable {nx ok start}
theorem new_start (F : List (List Int × Chn)) : New ok F [] [] := by
  refine ⟨by simp, ?_, ?_⟩
  · intro w c h
    simp [look] at h
  · intro h w f q
    simp at q
theorem new_one {F N : List (List Int × Chn)} {P : List (List Int × List Int)} (I : New ok F N P) {e : List Int × List Int} (he : ∃ f, look F e.1 = some f) : New ok F (lev1 ok F N e) (P ++ [e]) := by
  obtain ⟨h, w⟩ := e
  obtain ⟨f, hf⟩ := he
  have old : ∀ h' w' (f' : Chn), (h', w') ∈ P ++ [(h, w)] → (h', w') ∈ P ∨ (h' = h ∧ w' = w) := fun h' w' f' q => by
    rcases List.mem_append.mp q with q | q
    · exact .inl q
    · have := List.mem_singleton.mp q
      cases this
      exact .inr ⟨rfl, rfl⟩
  unfold lev1
  by_cases c1 : (ok w && (look F w).isNone) = true
  · simp only [c1, if_true]
    rw [Bool.and_eq_true, Option.isNone_iff_eq_none] at c1
    simp only at hf
    rw [hf]
    simp only [Option.getD_some]
    by_cases c2 : ((look N w).isNone || decide (f ++ [w] < (look N w).getD [])) = true
    · rw [if_pos c2]
      refine ⟨put_keys I.nodup, fun x c hx => ?_, fun h' w' f' q o1 o2 o3 => ?_⟩
      · rw [look_put] at hx
        by_cases hxw : x = w
        · rw [if_pos hxw] at hx
          cases hx
          subst hxw
          exact ⟨c1.1, c1.2, h, f, List.mem_append_right _ (List.mem_singleton.mpr rfl), hf, rfl⟩
        · rw [if_neg hxw] at hx
          obtain ⟨a1, a2, h', f', a3, a4, a5⟩ := I.sound x c hx
          exact ⟨a1, a2, h', f', List.mem_append_left _ a3, a4, a5⟩
      · rw [look_put]
        by_cases hxw : w' = w
        · rw [if_pos hxw]
          refine ⟨_, rfl, ?_⟩
          rcases old h' w' f' q with q | ⟨q1, q2⟩
          · obtain ⟨c, b1, b2⟩ := I.all h' w' f' q o1 o2 o3
            rw [hxw] at b1 b2 ⊢
            rw [b1] at c2
            simp only [Option.isNone_some, Bool.false_or, Option.getD_some, decide_eq_true_eq] at c2
            exact fun z => b2 (List.lt_trans z c2)
          · subst q1 q2
            rw [hf] at o3
            cases o3
            exact List.lt_irrefl _
        · rw [if_neg hxw]
          rcases old h' w' f' q with q | ⟨q1, q2⟩
          · exact I.all h' w' f' q o1 o2 o3
          · exact absurd q2 hxw
    · rw [if_neg c2]
      refine ⟨I.nodup, fun x c hx => ?_, fun h' w' f' q o1 o2 o3 => ?_⟩
      · obtain ⟨a1, a2, h', f', a3, a4, a5⟩ := I.sound x c hx
        exact ⟨a1, a2, h', f', List.mem_append_left _ a3, a4, a5⟩
      · rcases old h' w' f' q with q | ⟨q1, q2⟩
        · exact I.all h' w' f' q o1 o2 o3
        · subst q1 q2
          rw [hf] at o3
          cases o3
          cases e : look N w' with
          | none =>
            rw [e] at c2
            exact absurd rfl c2
          | some c =>
            rw [e] at c2
            simp only [Option.isNone_some, Bool.false_or, Option.getD_some, decide_eq_true_eq] at c2
            exact ⟨c, rfl, c2⟩
  · simp only [c1]
    refine ⟨I.nodup, fun x c hx => ?_, fun h' w' f' q o1 o2 o3 => ?_⟩
    · obtain ⟨a1, a2, h', f', a3, a4, a5⟩ := I.sound x c hx
      exact ⟨a1, a2, h', f', List.mem_append_left _ a3, a4, a5⟩
    · rcases old h' w' f' q with q | ⟨q1, q2⟩
      · exact I.all h' w' f' q o1 o2 o3
      · subst q2
        rw [o1, o2] at c1
        exact absurd rfl c1
def pairs (nx : List Int → List (List Int)) (lev : List (List Int)) : List (List Int × List Int) := lev.flatMap fun h => (nx h).map fun w => (h, w)
theorem new_all {F : List (List Int × Chn)} : ∀ (Q P : List (List Int × List Int)) (N : List (List Int × Chn)), New ok F N P → (∀ e ∈ Q, ∃ f, look F e.1 = some f) → New ok F (Q.foldl (lev1 ok F) N) (P ++ Q)
  | [], P, N, I, _ => by simpa using I
  | e :: Q, P, N, I, h => by
    rw [List.foldl_cons]
    have := new_all Q (P ++ [e]) (lev1 ok F N e) (new_one I (h e List.mem_cons_self)) fun x hx => h x (List.mem_cons_of_mem _ hx)
    rwa [List.append_assoc] at this
theorem lev_next {F N : List (List Int × Chn)} {lev : List (List Int)} {d : Nat} (I : Lev nx ok start F lev d) (J : New ok F N (pairs nx lev)) :
    (∀ v c, look N v = some c → look F v = none ∧ Dsf (nbs nx ok) start v (d + 1) ∧ Least (nbs nx ok) (d + 1) start v c) ∧ (∀ v, Dsf (nbs nx ok) start v (d + 1) → ∃ c, look N v = some c) := by
  have pr : ∀ h w, (h, w) ∈ pairs nx lev ↔ h ∈ lev ∧ w ∈ nx h := fun h w => by
    unfold pairs
    rw [List.mem_flatMap]
    constructor
    · rintro ⟨x, h1, h2⟩
      obtain ⟨y, h3, h4⟩ := List.mem_map.mp h2
      cases h4
      exact ⟨h1, h3⟩
    · rintro ⟨h1, h2⟩
      exact ⟨h, h1, List.mem_map.mpr ⟨w, h2, rfl⟩⟩
  constructor
  · intro v c hc
    obtain ⟨o1, o2, h, f, o3, o4, o5⟩ := J.sound v c hc
    obtain ⟨l1, l2⟩ := (pr h v).mp o3
    have dh := (I.lev h).mp l1
    have hv : v ∈ nbs nx ok h := List.mem_filter.mpr ⟨l2, o1⟩
    have dv : Dsf (nbs nx ok) start v (d + 1) := by
      refine ⟨dh.1.snoc hv, fun m hm => Nat.le_of_not_lt fun z => ?_⟩
      obtain ⟨n, hn, dn⟩ := dsf_of hm
      obtain ⟨c', e, _⟩ := I.keys v n (by omega) dn
      rw [o2] at e
      cases e
    refine ⟨o2, dv, ?_⟩
    obtain ⟨_, n, _, dn, ln⟩ := I.only h f o4
    have := dsf_one dn dh
    subst this
    subst o5
    refine least_snoc dv (ln.1.snoc hv) (fun u du => ?_) fun u q hu du lq => ?_
    · obtain ⟨q, _, lq⟩ := I.keys u n (Nat.le_refl _) du
      exact ⟨q, lq⟩
    · obtain ⟨q', e, lq'⟩ := I.keys u n (Nat.le_refl _) du
      have := least_one lq lq'
      subst this
      obtain ⟨c', h1, h2⟩ := J.all u v q ((pr u v).mpr ⟨(I.lev u).mpr du, (List.mem_filter.mp hu).1⟩) o1 o2 e
      rw [hc] at h1
      cases h1
      exact h2
  · intro v dv
    obtain ⟨u, du, hu⟩ := dsf_pre dv
    obtain ⟨h1, h2⟩ := List.mem_filter.mp hu
    obtain ⟨f, hf, _⟩ := I.keys u d (Nat.le_refl _) du
    have hn : look F v = none := by
      cases e : look F v with
      | none => rfl
      | some c =>
        obtain ⟨_, n, hn, dn, _⟩ := I.only v c e
        have := dsf_one dn dv
        omega
    obtain ⟨c, h3, _⟩ := J.all u v f ((pr u v).mpr ⟨(I.lev u).mpr du, h1⟩) h2 hn hf
    exact ⟨c, h3⟩
theorem put_all {α : Type} : ∀ (N F : List (List Int × α)) (x : List Int), (N.map (·.1)).Nodup → look (N.foldl (fun F p => put F p.1 p.2) F) x = (look N x).or (look F x)
  | [], F, x, _ => by simp [look]
  | p :: N, F, x, h => by
    rw [List.map_cons, List.nodup_cons] at h
    rw [List.foldl_cons, put_all N _ x h.2, look_put, look_cons]
    by_cases e : p.1 = x
    · have : look N x = none := look_none.mpr fun a q => h.1 (List.mem_map.mpr ⟨_, q, e.symm⟩)
      rw [this, if_pos e, if_pos e.symm]
      simp
    · rw [if_neg e, if_neg fun z => e z.symm]
theorem put_all_nodup {α : Type} : ∀ (N F : List (List Int × α)), (F.map (·.1)).Nodup → ((N.foldl (fun F p => put F p.1 p.2) F).map (·.1)).Nodup
  | [], F, h => h
  | p :: N, F, h => by
    rw [List.foldl_cons]
    exact put_all_nodup N _ (put_keys h)
theorem lev_turn {F N : List (List Int × Chn)} {lev lev' : List (List Int)} {d : Nat} (I : Lev nx ok start F lev d) (J : New ok F N (pairs nx lev)) (hl : ∀ v, v ∈ lev' ↔ v ∈ N.map (·.1)) : Lev nx ok start (N.foldl (fun F p => put F p.1 p.2) F) lev' (d + 1) := by
  obtain ⟨K1, K2⟩ := lev_next I J
  refine ⟨put_all_nodup N F I.nodup, fun v n hn dv => ?_, fun v c hc => ?_, fun v => ?_⟩
  · rw [put_all N F v J.nodup]
    by_cases e : n = d + 1
    · subst e
      obtain ⟨c, h⟩ := K2 v dv
      rw [h]
      exact ⟨c, by simp, (K1 v c h).2.2⟩
    · obtain ⟨c, h1, h2⟩ := I.keys v n (by omega) dv
      have : look N v = none := by
        cases e : look N v with
        | none => rfl
        | some c' =>
          have := (K1 v c' e).1
          rw [h1] at this
          cases this
      rw [this, h1]
      exact ⟨c, by simp, h2⟩
  · rw [put_all N F v J.nodup] at hc
    cases e : look N v with
    | none =>
      rw [e] at hc
      simp only [Option.none_or] at hc
      obtain ⟨h0, n, h1, h2, h3⟩ := I.only v c hc
      exact ⟨h0, n, by omega, h2, h3⟩
    | some c' =>
      rw [e] at hc
      simp only [Option.some_or, Option.some.injEq] at hc
      subst hc
      obtain ⟨h1, h2, h3⟩ := K1 v c' e
      exact ⟨(J.sound v c' e).1, d + 1, Nat.le_refl _, h2, h3⟩
  · rw [hl v, look_key]
    constructor
    · rintro ⟨c, h⟩
      exact (K1 v c h).2.1
    · exact K2 v
theorem lev_start (h : ok start = true) : Lev nx ok start [(start, [start])] [start] 0 := by
  have d0 : Dsf (nbs nx ok) start start 0 := ⟨.nil start, fun _ _ => Nat.zero_le _⟩
  refine ⟨by simp, fun v n hn dv => ?_, fun v c hc => ?_, fun v => ?_⟩
  · have : n = 0 := by omega
    subst this
    cases dv.1
    exact ⟨[start], by simp [look_cons], least_nil⟩
  · rw [look_cons] at hc
    by_cases e : start = v
    · subst e
      simp only [if_true, Option.some.injEq] at hc
      subst hc
      exact ⟨h, 0, Nat.le_refl _, d0, least_nil⟩
    · simp [e, look] at hc
  · rw [List.mem_singleton]
    constructor
    · intro e
      rw [e]
      exact d0
    · intro d
      cases d.1
      rfl
/-- what is not met when the level is empty is not reached -/
theorem lev_end {F : List (List Int × Chn)} {d : Nat} (I : Lev nx ok start F [] d) {v : List Int} (h : look F v = none) (n : Nat) : ¬ Pth (nbs nx ok) n start v := by
  intro p
  obtain ⟨m, _, dm⟩ := dsf_of p
  by_cases hm : m ≤ d
  · obtain ⟨c, e, _⟩ := I.keys v m hm dm
    rw [h] at e
    cases e
  · obtain ⟨k, rfl⟩ : ∃ k, m = d + k := ⟨m - d, by omega⟩
    obtain ⟨u, du⟩ := dsf_down dm
    exact absurd ((I.lev u).mpr du) List.not_mem_nil
end
end DL
end

section
set_option Elab.async false
set_option linter.all false
set_option maxRecDepth 100000
set_option autoImplicit false
namespace DL
open PySem hiding exec execs settle finish
open PySem.W
/-! ### loops by a measure; folds -/
theorem wRun_wf {t : Rho → R Bool} {body : Rho → R Fl} (I : Nat → Rho → Prop) (Q : Rho → Prop) (hs : ∀ n ρ, I n ρ → (t ρ = .ok false ρ ∧ Q ρ) ∨ ∃ m ρ1 ρ2, m < n ∧ t ρ = .ok true ρ1 ∧ body ρ1 = .ok .next ρ2 ∧ I m ρ2) :
    ∀ n ρ, I n ρ → ∃ ρ', wRun (wStep t body) ρ = .ok .next ρ' ∧ Q ρ' := by
  intro n
  induction n using Nat.strongRecOn with
  | _ n ih =>
    intro ρ h
    rcases hs n ρ h with ⟨h1, h2⟩ | ⟨m, ρ1, ρ2, hm, h1, h2, h3⟩
    · exact ⟨ρ, wRun_done (wStep_off h1), h2⟩
    · obtain ⟨ρ', h4, h5⟩ := ih m hm ρ2 h3
      exact ⟨ρ', by rw [wRun_on (wStep_on h1 h2)]; exact h4, h5⟩
theorem fLoop_fold {α β : Type} {turn : D → Rho → R Fl} (enc : α → Rho → Prop) (f : α → β → α) (g : β → D) : ∀ (xs : List β) (a : α) (ρ : Rho), (∀ a b ρ, b ∈ xs → enc a ρ → ∃ ρ', turn (g b) ρ = .ok .next ρ' ∧ enc (f a b) ρ') → enc a ρ → ∃ ρ', fLoop turn (xs.map g) ρ = .ok .next ρ' ∧ enc (xs.foldl f a) ρ'
  | [], a, ρ, _, h => ⟨ρ, rfl, h⟩
  | x :: xs, a, ρ, hs, h => by
    obtain ⟨ρ1, h1, h2⟩ := hs a x ρ List.mem_cons_self h
    obtain ⟨ρ2, h3, h4⟩ := fLoop_fold enc f g xs (f a x) ρ1 (fun a b ρ hb => hs a b ρ (List.mem_cons_of_mem _ hb)) h2
    refine ⟨ρ2, ?_, h4⟩
    rw [List.map_cons]
    unfold fLoop
    rw [h1]
    exact h3
theorem bi_sum_bg (b : List Int) : biD .sum [bg b] = some (false, .int b.sum) := bi_sum_tup b
/-! ### bags with a sum -/
def box (m : Nat) : Nat → List (List Int)
  | 0 => [[]]
  | k + 1 => (List.range (m + 1)).flatMap fun (i : Nat) => (box m k).map fun b => (i : Int) :: b
theorem sum_map_const {α : Type} (c : Nat) : ∀ l : List α, (l.map fun _ => c).sum = l.length * c
  | [] => by simp
  | x :: l => by
    rw [List.map_cons, List.sum_cons, sum_map_const c l, List.length_cons, Nat.add_mul]
    omega
theorem box_len (m : Nat) : ∀ k, (box m k).length = (m + 1) ^ k
  | 0 => rfl
  | k + 1 => by
    unfold box
    rw [List.length_flatMap]
    simp only [List.length_map, box_len m k]
    rw [sum_map_const, List.length_range, Nat.pow_succ, Nat.mul_comm]
theorem sum_nonneg : ∀ {b : List Int}, nonneg b → 0 ≤ b.sum
  | [], _ => by simp
  | x :: b, h => by
    have := sum_nonneg fun y hy => h y (List.mem_cons_of_mem x hy)
    have := h x List.mem_cons_self
    rw [List.sum_cons]
    omega
theorem box_mem (m : Nat) : ∀ (k : Nat) (b : List Int), b.length = k → nonneg b → b.sum ≤ (m : Int) → b ∈ box m k
  | 0, b, h, _, _ => by
    rw [List.length_eq_zero_iff.mp h]
    simp [box]
  | k + 1, [], h, _, _ => nomatch h
  | k + 1, x :: b, h, hn, hs => by
    have h1 := hn x List.mem_cons_self
    have hb : nonneg b := fun y hy => hn y (List.mem_cons_of_mem x hy)
    have h2 := sum_nonneg hb
    rw [List.sum_cons] at hs
    unfold box
    refine List.mem_flatMap.mpr ⟨x.toNat, List.mem_range.mpr (by omega), List.mem_map.mpr ⟨b, box_mem m k b (Nat.succ.inj h) hb (by omega), ?_⟩⟩
    congr 1
    omega
theorem box_count {m k : Nat} (hm : m ≤ 30) (hk : k ≤ 3) {L : List (List Int)} (hn : L.Nodup) (h : ∀ b ∈ L, b.length = k ∧ nonneg b ∧ b.sum ≤ (m : Int)) : L.length ≤ 29791 := by
  have h1 := List.Nodup.length_le_of_subset hn (l₂ := box m k) fun b hb => box_mem m k b (h b hb).1 (h b hb).2.1 (h b hb).2.2
  rw [box_len] at h1
  have h2 : (m + 1) ^ k ≤ 31 ^ k := Nat.pow_le_pow_left (by omega) k
  have h3 : 31 ^ k ≤ 31 ^ 3 := Nat.pow_le_pow_right (by omega) hk
  omega
end DL
end

section
set_option Elab.async false
set_option linter.all false
set_option maxRecDepth 100000
set_option autoImplicit false
namespace K40
open PySem hiding exec execs settle finish
open PySem.W DL
def okm (m : Nat) (w : List Int) : Bool := decide (w.sum ≤ (m : Int))
abbrev NB (rs : List Rule) (m : Nat) : List Int → List (List Int) := nbs (nxt rs) (okm m)
def natD (n : Nat) : D := .int n
/-- all is a bag of k kinds; distances are small -/
def Dm (k : Nat) (L : List (List Int × Nat)) : Prop := ∀ p ∈ L, (p.1.length = k ∧ nonneg p.1) ∧ p.2 < L.length
def lineD (L : List (List Int × Nat)) : List D := L.map fun p => bg p.1
theorem lineD_len (L : List (List Int × Nat)) : (lineD L).length = L.length := by simp [lineD]
theorem lineD_app (L : List (List Int × Nat)) (p : List Int × Nat) : lineD (L ++ [p]) = lineD L ++ [bg p.1] := by simp [lineD]
theorem lineD_at {L : List (List Int × Nat)} {i : Nat} (h : i < L.length) : L2.atI (lineD L) (i : Int) = some (bg L[i].1) := by
  rw [atI_nat (by simpa [lineD] using h)]
  simp [lineD]
def scBody : List S := [.ifS (.and (.din true (.var 9) (.var 4)) (.cmp .le (.bi .sum [.var 9]) (.var 3))) [.dset (.var 4) (.var 9) (.bin .add (.dsub (.var 4) (.sub (.var 5) (.var 6))) (.con (.int 1))), .expr (.app (.var 5) (.var 9))] []]
def scFor : S := .forS .seq [.call n_all_exchanges [.var 0, .sub (.var 5) (.var 6)]] (.tp [7, 8, 9]) scBody
section
variable {k : Nat} {rs : List Rule} (h : RulesOk k rs) {Φ : Nat → List D → Option FR}
  (X : ∀ c : List Int, c.length = k → Φ n_all_exchanges [.list (rls rs), bg c] = some (.ret true (.list ((excs rs c).map exD)) [none, none]))
  (m : Nat) (hm : m ≤ 30) (b g : List Int)
def rA (rs : List Rule) (m : Nat) (b g : List Int) (L : List (List Int × Nat)) (a : Nat) (s7 s8 s9 : Sl) : Rho :=
  [.fz (.list (rls rs)), .fz (bg b), .fz (bg g), .fz (.int m), .ow (dicB natD L), .ow (.list (lineD L)), .fz (.int a), s7, s8, s9, .no, .no, .no]
include h hm in
theorem dm_len {L : List (List Int × Nat)} {a : Nat} (I : Bfs (nxt rs) (okm m) g L a) (dm : Dm k L) : L.length ≤ 29791 := by
  have := box_count hm h.k3 I.nodup fun c hc => by
    obtain ⟨p, hp, rfl⟩ := List.mem_map.mp hc
    have := I.okk p hp
    unfold okm at this
    exact ⟨(dm p hp).1.1, (dm p hp).1.2, by simpa using this⟩
  simpa using this
include h X hm in
theorem sc_in {L : List (List Int × Nat)} {a : Nat} (I : Bfs (nxt rs) (okm m) g L a) (ha : a < L.length) (dm : Dm k L) (s7 s8 s9 : Sl) (f7 : freeS s7 = true) (f8 : freeS s8 = true) (f9 : idlS s9 = true) :
    ∃ t7 t8 t9, freeS t7 = true ∧ freeS t8 = true ∧ idlS t9 = true ∧ Dm k ((nxt rs L[a].1).foldl (bfs1 (okm m) L[a].2) L) ∧
      exec ⟨⟨Φ, T.md⟩, T.sub⟩ scFor (rA rs m b g L a s7 s8 s9) = .ok .next (rA rs m b g ((nxt rs L[a].1).foldl (bfs1 (okm m) L[a].2) L) a t7 t8 t9) := by
  have hB := fun LL => dm_len h m hm g (L := LL) (a := a)
  have sym : ∀ v w, w ∈ nxt rs v → v ∈ nxt rs w := fun _ _ => nxt_symm
  have hL : LIM = 1000000 := rfl
  have hx := X L[a].1 (dm _ (List.getElem_mem ha)).1.1
  have e0 : L2.atI (lineD L) (a : Int) = some (bg L[a].1) := lineD_at ha
  have step := fLoop_fold (turn := turnOf (.tp [7, 8, 9]) (execs ⟨⟨Φ, T.md⟩, T.sub⟩ scBody)) (fun (LL : List (List Int × Nat)) ρ => (Bfs (nxt rs) (okm m) g LL a ∧ (∃ t, LL = L ++ t) ∧ Dm k LL) ∧ ∃ s7 s8 s9, freeS s7 = true ∧ freeS s8 = true ∧ idlS s9 = true ∧ ρ = rA rs m b g LL a s7 s8 s9)
    (fun LL (e : Nat × Nat × List Int) => bfs1 (okm m) L[a].2 LL e.2.2) exD (excs rs L[a].1) L (rA rs m b g L a s7 s8 s9)
    (fun LL e ρ he ⟨⟨I2, ⟨t, et⟩, dm2⟩, s7, s8, s9, f7, f8, f9, er⟩ => ?_) ⟨⟨I, ⟨[], by simp⟩, dm⟩, s7, s8, s9, f7, f8, f9, rfl⟩
  · obtain ⟨ρ', l1, ⟨I3, _, dm3⟩, s7', s8', s9', f7', f8', f9', er⟩ := step
    have ef : (nxt rs L[a].1).foldl (bfs1 (okm m) L[a].2) L = (excs rs L[a].1).foldl (fun LL (e : Nat × Nat × List Int) => bfs1 (okm m) L[a].2 LL e.2.2) L := by
      unfold nxt
      rw [List.foldl_map]
    rw [ef]
    refine ⟨s7', s8', s9', f7', f8', f9', dm3, ?_⟩
    subst er
    generalize (excs rs L[a].1).foldl (fun LL (e : Nat × Nat × List Int) => bfs1 (okm m) L[a].2 LL e.2.2) L = L3 at l1
    unfold scFor
    unfold rA at *
    simp [callF_d, okSlots_d, e0, hx, flats_exD, fRun_seq (seqD_list _), l1]
  · subst er
    have ha2 : a < LL.length := by
      rw [et, List.length_append]
      omega
    have e1 : LL[a] = L[a] := by
      subst et
      exact List.getElem_append_left ha
    have hw : e.2.2 ∈ nxt rs L[a].1 := List.mem_map.mpr ⟨e, he, rfl⟩
    have one := bfs_one sym I2 ha2 (w := e.2.2) (by rw [e1]; exact hw)
    rw [e1] at one
    obtain ⟨J, ⟨t1, e2, m1⟩, _⟩ := one
    have nk := nxt_ok h (dm _ (List.getElem_mem ha)).1.1 hw
    have dL : L[a].2 < LL.length := by
      rw [← e1]
      exact (dm2 _ (List.getElem_mem ha2)).2
    have dm3 : Dm k (bfs1 (okm m) L[a].2 LL e.2.2) := by
      unfold bfs1
      split
      · intro p hp
        rw [List.length_append, List.length_singleton]
        rcases List.mem_append.mp hp with hp | hp
        · have := dm2 p hp
          exact ⟨this.1, by omega⟩
        · rw [List.mem_singleton.mp hp]
          exact ⟨nk, by omega⟩
      · exact dm2
    have lk : look LL L[a].1 = some L[a].2 := (look_mem I2.nodup).mpr (by rw [← e1]; exact List.getElem_mem ha2)
    have b2 := hB LL I2 dm2
    have e3 : L2.atI (lineD LL) (a : Int) = some (bg L[a].1) := by
      rw [lineD_at ha2, e1]
    obtain ⟨p, w, c⟩ := e
    simp only at *
    have ls := look_bg natD LL c
    have l0 := look_bg natD LL L[a].1
    rw [lk] at l0
    unfold bfs1 at *
    by_cases hc : ((look LL c).isNone && okm m c) = true
    · rw [if_pos hc] at J dm3 ⊢
      refine ⟨rA rs m b g (LL ++ [(c, L[a].2 + 1)]) a (.fz (.int p)) (.fz (.int w)) (.fz (bg c)), ?_, ⟨J, ⟨t ++ [(c, L[a].2 + 1)], by rw [et, List.append_assoc]⟩, dm3⟩, _, _, _, rfl, rfl, rfl, rfl⟩
      rw [Bool.and_eq_true, Option.isNone_iff_eq_none] at hc
      have hc2 : c.sum ≤ (m : Int) := by simpa [okm] using hc.2
      have pt : putD (dicB natD LL) (bg c) (.int ((L[a].2 : Int) + 1)) = some (dicB natD (LL ++ [(c, L[a].2 + 1)])) := by
        have := put_bg natD LL c (L[a].2 + 1) (by rw [hL]; omega)
        unfold put at this
        rw [if_neg] at this
        · exact this
        · intro z
          obtain ⟨q, hq, z⟩ := List.any_eq_true.mp z
          have := look_none.mp hc.1 q.2
          rw [← of_decide_eq_true z] at this
          exact this hq
      rw [hc.1] at ls
      have hl : LL.length < 1000000 := by omega
      unfold rA scBody
      generalize dicB natD LL = dd at ls l0 pt ⊢
      generalize dicB natD (LL ++ [(c, L[a].2 + 1)]) = dd2 at pt ⊢
      simp [turnOf_d, exD, setS_free, f7, f8, idl_free f9, exs_sq, ls, bi_sum_bg, hc2, ex_dset, e3, l0, natD, pt, hL, hl, lineD_len, lineD_app]
    · rw [if_neg hc] at J dm3 ⊢
      refine ⟨rA rs m b g LL a (.fz (.int p)) (.fz (.int w)) (.fz (bg c)), ?_, ⟨J, ⟨t, et⟩, dm3⟩, _, _, _, rfl, rfl, rfl, rfl⟩
      unfold rA scBody
      generalize dicB natD LL = dd at ls l0 ⊢
      cases q : look LL c with
      | some n =>
        rw [q] at ls
        simp [turnOf_d, exD, setS_free, f7, f8, idl_free f9, exs_sq, ls]
      | none =>
        rw [q] at ls hc
        have hc2 : ¬ c.sum ≤ (m : Int) := by
          intro z
          exact hc (by simp [okm, z])
        simp [turnOf_d, exD, setS_free, f7, f8, idl_free f9, exs_sq, ls, bi_sum_bg, hc2]
end
end K40
end

section
set_option Elab.async false
set_option linter.all false
set_option maxRecDepth 100000
set_option autoImplicit false
namespace K40
open PySem hiding exec execs settle finish
open PySem.W DL
theorem at_last {α : Type} (xs : List α) (x : α) : L2.atI (xs ++ [x]) (-1) = some x := by
  unfold L2.atI L2.ixN
  rw [if_neg (by omega), if_pos (by simp; omega)]
  simp only [List.length_append, List.length_singleton, Option.bind_some]
  have : (-1 + ((xs.length + 1 : Nat) : Int)).toNat = xs.length := by omega
  rw [this]
  simp
theorem bfs_ne {nx : List Int → List (List Int)} {ok : List Int → Bool} {g : List Int} {L : List (List Int × Nat)} {a : Nat} (I : Bfs nx ok g L a) : 0 < L.length := by
  have := I.head
  cases L with
  | nil => cases this
  | cons _ _ => simp
section
variable {k : Nat} {rs : List Rule} (h : RulesOk k rs) {Φ : Nat → List D → Option FR}
  (X : ∀ c : List Int, c.length = k → Φ n_all_exchanges [.list (rls rs), bg c] = some (.ret true (.list ((excs rs c).map exD)) [none, none]))
  (m : Nat) (hm : m ≤ 30) (b g : List Int)
include h X hm in
theorem sc_while (lg : g.length = k) (ng : nonneg g) (og : okm m g = true) : ∃ L a s7 s8 s9, Bfs (nxt rs) (okm m) g L a ∧ L.length ≤ a ∧ Dm k L ∧ idlS s9 = true ∧
    exec ⟨⟨Φ, T.md⟩, T.sub⟩ (.whileS (.cmp .lt (.var 6) (.bi .len [.var 5])) [scFor, .asg (.nm 6) (.bin .add (.var 6) (.con (.int 1)))]) (rA rs m b g [(g, 0)] 0 .no .no .no) = .ok .next (rA rs m b g L a s7 s8 s9) := by
  have sym : ∀ v w, w ∈ nxt rs v → v ∈ nxt rs w := fun _ _ => nxt_symm
  have go := wRun_wf (t := (ev ⟨Φ, T.md⟩ (.cmp .lt (.var 6) (.bi .len [.var 5]))).T) (body := execs ⟨⟨Φ, T.md⟩, T.sub⟩ [scFor, .asg (.nm 6) (.bin .add (.var 6) (.con (.int 1)))])
    (fun n ρ => ∃ L a s7 s8 s9, Bfs (nxt rs) (okm m) g L a ∧ Dm k L ∧ n = 29791 - a ∧ freeS s7 = true ∧ freeS s8 = true ∧ idlS s9 = true ∧ ρ = rA rs m b g L a s7 s8 s9)
    (fun ρ => ∃ L a s7 s8 s9, Bfs (nxt rs) (okm m) g L a ∧ L.length ≤ a ∧ Dm k L ∧ idlS s9 = true ∧ ρ = rA rs m b g L a s7 s8 s9)
    (fun n ρ ⟨L, a, s7, s8, s9, I, dm, hn, f7, f8, f9, er⟩ => ?_) 29791 (rA rs m b g [(g, 0)] 0 .no .no .no) ⟨[(g, 0)], 0, .no, .no, .no, bfs_start og, ?_, rfl, rfl, rfl, rfl, rfl⟩
  · obtain ⟨ρ', h1, L, a, s7, s8, s9, I, hl, dm, f9, er⟩ := go
    subst er
    exact ⟨L, a, s7, s8, s9, I, hl, dm, f9, by rw [ex_while]; exact h1⟩
  · subst er
    have hB := dm_len h m hm g I dm
    by_cases ha : a < L.length
    · right
      obtain ⟨s7', s8', s9', f7', f8', f9', dm', q⟩ := sc_in h X m hm b g I ha dm s7 s8 s9 f7 f8 f9
      refine ⟨29791 - (a + 1), rA rs m b g L a s7 s8 s9, _, by omega, ?_, ?_, _, a + 1, s7', s8', s9', bfs_turn sym I ha, dm', rfl, f7', f8', f9', rfl⟩
      · unfold rA
        simp [ha, lineD_len]
      · rw [exs_next _ q]
        unfold rA
        simp [exs_sq, setS_free]
    · left
      refine ⟨?_, L, a, s7, s8, s9, I, by omega, dm, f9, rfl⟩
      unfold rA
      simp [lineD_len]
      omega
  · intro p hp
    rw [List.mem_singleton.mp hp]
    exact ⟨⟨lg, ng⟩, by simp⟩
def rB (rs : List Rule) (m : Nat) (b g : List Int) (L : List (List Int × Nat)) (a : Nat) (s7 s8 s9 : Sl) (fd : List (List Int)) (s11 s12 : Sl) : Rho :=
  [.fz (.list (rls rs)), .fz (bg b), .fz (bg g), .fz (.int m), .ow (dicB natD L), .ow (.list (lineD L)), .fz (.int a), s7, s8, s9, .ow (.list (fd.map bg)), s11, s12]
def scWhile : S := .whileS (.cmp .ne (.sub (.var 10) (.neg (.con (.int 1)))) (.var 2)) [.asg (.nm 11) (.comp .seq [.call n_all_exchanges [.var 0, .sub (.var 10) (.neg (.con (.int 1)))]] (.nm 12) [12] (.nop) (.sub (.var 12) (.con (.int 2)))), .expr (.app (.var 10) (.bi .min [.comp .seq [.var 11] (.nm 9) [9] (.cmp .eq (.dget1 (.var 4) (.var 9)) (.bin .sub (.dsub (.var 4) (.sub (.var 10) (.neg (.con (.int 1))))) (.con (.int 1)))) (.var 9)]))]
theorem cmp_get (L : List (List Int × Nat)) (w : List Int) (n : Nat) : cmpD .eq (((look L w).map natD).getD .none) (.int n) = some (decide (look L w = some n)) := by
  cases e : look L w with
  | none => simp [cmpD, okD, PyData.plain, PyData.depth, DEP, PyData.eqv]
  | some j =>
    show cmpD .eq (.int (j : Int)) (.int (n : Int)) = _
    simp only [cmp_eq_int, Option.some.injEq]
    exact decide_eq_decide.mpr Int.ofNat_inj
def nearD (L : List (List Int × Nat)) (n : Nat) (d : D) : Bool := ((lookD (dicB natD L) d).bind fun o => cmpD .eq (o.getD .none) (.int n)).getD false
theorem nearD_bg (L : List (List Int × Nat)) (n : Nat) (w : List Int) : nearD L n (bg w) = decide (look L w = some n) := by
  unfold nearD
  rw [look_bg]
  simp only [Option.bind_some]
  rw [cmp_get]
  rfl
theorem filterMap_if {α : Type} (f : α → D) (p : α → Bool) (q : D → Option D) : ∀ l : List α, (∀ x ∈ l, q (f x) = if p x then some (f x) else none) → (l.map f).filterMap q = (l.filter p).map f
  | [], _ => rfl
  | x :: l, h => by
    have ih := filterMap_if f p q l fun y hy => h y (List.mem_cons_of_mem _ hy)
    rw [List.map_cons, List.filterMap_cons, h x List.mem_cons_self, List.filter_cons, ih]
    cases p x <;> rfl
include h X in
theorem sc_greedy {L : List (List Int × Nat)} {a N : Nat} (I : Bfs (nxt rs) (okm m) g L a) (hl : L.length ≤ a) (dm : Dm k L) (hB : L.length ≤ 29791) (s7 s8 s9 : Sl) (f9 : idlS s9 = true) (hN : look L b = some N) :
    ∃ q t9 s11 s12, Least (NB rs m) N b g q ∧ exec ⟨⟨Φ, T.md⟩, T.sub⟩ scWhile (rB rs m b g L a s7 s8 s9 [b] .no .no) = .ok .next (rB rs m b g L a s7 s8 t9 q s11 s12) := by
  have sym : ∀ v w, w ∈ nxt rs v → v ∈ nxt rs w := fun _ _ => nxt_symm
  have hL : LIM = 1000000 := rfl
  have bN : N < L.length := (dm _ ((look_mem I.nodup).mp hN)).2
  unfold scWhile
  rw [ex_while]
  have go := wRun_wf (t := (ev ⟨Φ, T.md⟩ (.cmp .ne (.sub (.var 10) (.neg (.con (.int 1)))) (.var 2))).T) (body := execs ⟨⟨Φ, T.md⟩, T.sub⟩ [.asg (.nm 11) (.comp .seq [.call n_all_exchanges [.var 0, .sub (.var 10) (.neg (.con (.int 1)))]] (.nm 12) [12] (.nop) (.sub (.var 12) (.con (.int 2)))), .expr (.app (.var 10) (.bi .min [.comp .seq [.var 11] (.nm 9) [9] (.cmp .eq (.dget1 (.var 4) (.var 9)) (.bin .sub (.dsub (.var 4) (.sub (.var 10) (.neg (.con (.int 1))))) (.con (.int 1)))) (.var 9)]))])
    (fun n ρ => ∃ pre v s9 s11 s12, look L v = some n ∧ pre.length + n = N ∧ (∀ r, Least (NB rs m) n v g r → Least (NB rs m) N b g (pre ++ r)) ∧ idlS s9 = true ∧ freeS s11 = true ∧ idlS s12 = true ∧ ρ = rB rs m b g L a s7 s8 s9 (pre ++ [v]) s11 s12)
    (fun ρ => ∃ q s9 s11 s12, Least (NB rs m) N b g q ∧ ρ = rB rs m b g L a s7 s8 s9 q s11 s12)
    (fun n ρ ⟨pre, v, s9, s11, s12, hv, hpn, hr, f9, f11, f12, er⟩ => ?_) N (rB rs m b g L a s7 s8 s9 [b] .no .no) ⟨[], b, s9, .no, .no, hN, by simp, fun r hr => hr, f9, rfl, rfl, rfl⟩
  · obtain ⟨ρ', h1, q, s9, s11, s12, lq, er⟩ := go
    subst er
    exact ⟨q, s9, s11, s12, lq, h1⟩
  · subst er
    have al : L2.atI ((pre ++ [v]).map bg) (-1) = some (bg v) := by
      rw [List.map_append]
      exact at_last _ _
    have ov : okm m v = true := I.okk _ ((look_mem I.nodup).mp hv)
    have dv := (bfs_dst sym I hl ov).mp hv
    have kv := (dm _ ((look_mem I.nodup).mp hv)).1.1
    by_cases e : v = g
    · left
      subst e
      have n0 : n = 0 := by
        have := dv.2 0 (.nil v)
        omega
      subst n0
      refine ⟨?_, pre ++ [v], s9, s11, s12, hr [v] least_nil, rfl⟩
      unfold rB
      generalize hpv : (pre ++ [v]).map bg = pv at al ⊢
      simp [al, cmp_ne_bg]
    · right
      obtain ⟨n', rfl⟩ : ∃ n', n = n' + 1 := by
        cases n with
        | zero =>
          cases dv.1
          exact absurd rfl e
        | succ n' => exact ⟨n', rfl⟩
      obtain ⟨w0, hw0, pw0⟩ : ∃ w, w ∈ NB rs m v ∧ Pth (NB rs m) n' w g := by
        cases dv.1 with
        | cons hc hp => exact ⟨_, hc, hp⟩
      have cd : ∀ w, w ∈ (nxt rs v).filter (fun w => decide (look L w = some n')) ↔ w ∈ NB rs m v ∧ Dst (NB rs m) g w n' := fun w => by
        rw [List.mem_filter]
        constructor
        · rintro ⟨h1, h2⟩
          have h2 := of_decide_eq_true h2
          have o := I.okk _ ((look_mem I.nodup).mp h2)
          exact ⟨List.mem_filter.mpr ⟨h1, o⟩, (bfs_dst sym I hl o).mp h2⟩
        · rintro ⟨h1, h2⟩
          obtain ⟨h3, h4⟩ := List.mem_filter.mp h1
          exact ⟨h3, decide_eq_true ((bfs_dst sym I hl h4).mpr h2)⟩
      have m0 : w0 ∈ (nxt rs v).filter (fun w => decide (look L w = some n')) := (cd w0).mpr ⟨hw0, pw0, fun j hj => by
        have := dv.2 (j + 1) (.cons hw0 hj)
        omega⟩
      obtain ⟨x, l, hxl⟩ : ∃ x l, (nxt rs v).filter (fun w => decide (look L w = some n')) = x :: l := by
        cases hc : (nxt rs v).filter (fun w => decide (look L w = some n')) with
        | nil =>
          rw [hc] at m0
          cases m0
        | cons x l => exact ⟨x, l, rfl⟩
      have mm := minL_mem l x
      have ml := minL_le l x
      rw [← hxl] at mm ml
      generalize hmu : minL x l = u at mm ml
      obtain ⟨u1, u2⟩ := (cd u).mp mm
      have lu : look L u = some n' := of_decide_eq_true (List.mem_filter.mp mm).2
      have hx := X v kv
      have nl : (nxt rs v).length ≤ 8 := by
        have := exAcc_len rs v rs.length
        have := h.n4
        unfold nxt excs
        rw [List.length_map]
        omega
      refine ⟨n', rB rs m b g L a s7 s8 s9 (pre ++ [v]) s11 s12, rB rs m b g L a s7 s8 s9 (pre ++ [v] ++ [u]) (.ow (.list ((nxt rs v).map bg))) s12, by omega, ?_, ?_, pre ++ [v], u, s9, _, s12, lu, by simp; omega, fun r hr' => ?_, f9, rfl, f12, rfl⟩
      · unfold rB
        generalize hpv : (pre ++ [v]).map bg = pv at al ⊢
        simp [al, cmp_ne_bg, e]
      · have c1 : cRun .seq (.nm 12) [12] (condT .nop (ev ⟨Φ, T.md⟩ .nop)) (ev ⟨Φ, T.md⟩ (.sub (.var 12) (.con (.int 2)))).P [.fz (.list ((excs rs v).map exD))] (rB rs m b g L a s7 s8 s9 (pre ++ [v]) s11 s12) =
            .ok (.fresh (.list ((nxt rs v).map bg))) (rB rs m b g L a s7 s8 s9 (pre ++ [v]) s11 s12) := by
          rw [cRun_seq (xs := (excs rs v).map exD) (fun d => subD d (.int 2)) (by rfl) (by rw [List.length_map, ← List.length_map (f := fun e : Nat × Nat × List Int => e.2.2)]; exact Nat.le_trans nl (by omega)) (idle_iff fun i hi => ?_) (by rfl) fun x hx => ?_]
          · rw [filterMap_map]
            have : (excs rs v).filterMap (fun e => subD (exD e) (.int 2)) = (nxt rs v).map bg := by
              unfold nxt
              rw [List.map_map, ← List.filterMap_eq_map]
              rfl
            rw [this]
            unfold rB
            simp [wipeR, giveBack]
          · rw [List.mem_singleton.mp hi]
            exact congrArg some f12
          · obtain ⟨e, he, rfl⟩ := List.mem_map.mp hx
            have e2 := exD_2 e
            unfold rB
            simp [cTurn_eq, wipeR, setS_free, e2]
        have c2 : cRun .seq (.nm 9) [9] (condT (.cmp .eq (.dget1 (.var 4) (.var 9)) (.bin .sub (.dsub (.var 4) (.sub (.var 10) (.neg (.con (.int 1))))) (.con (.int 1)))) (ev ⟨Φ, T.md⟩ (.cmp .eq (.dget1 (.var 4) (.var 9)) (.bin .sub (.dsub (.var 4) (.sub (.var 10) (.neg (.con (.int 1))))) (.con (.int 1)))))) (ev ⟨Φ, T.md⟩ (.var 9)).P [.slot 11] (rB rs m b g L a s7 s8 s9 (pre ++ [v]) (.ow (.list ((nxt rs v).map bg))) s12) =
            .ok (.fresh (.list ((x :: l).map bg))) (rB rs m b g L a s7 s8 s9 (pre ++ [v]) (.ow (.list ((nxt rs v).map bg))) s12) := by
          rw [cRun_pure (xs := (nxt rs v).map bg) (o := .slot 11) (fun d => if nearD L n' d then some d else none) rfl rfl rfl (idle_iff fun i hi => ?_) rfl (by rw [List.length_map]; omega) fun y hy => ?_]
          · rw [filterMap_if bg (fun w => decide (look L w = some n')) _ _ fun w _ => by rw [nearD_bg], hxl]
            rfl
          · rw [List.mem_singleton.mp hi]
            exact congrArg some f9
          · obtain ⟨w, hw, rfl⟩ := List.mem_map.mp hy
            have l1 := look_bg natD L w
            have l2 := look_bg natD L v
            rw [hv] at l2
            have cg := cmp_get L w n'
            have e1 : ((n' + 1 : Nat) : Int) - 1 = (n' : Int) := by omega
            rw [nearD_bg]
            unfold rB
            have l0 : dictD (dicB natD L) = some ((.none, .none) :: L.map fun p => (bg p.1, natD p.2)) := rfl
            generalize dicB natD L = dd at l0 l1 l2 ⊢
            generalize bg w = qw at l1 ⊢
            generalize bg v = qv at l2 al ⊢
            generalize (pre ++ [v]).map bg = pv at al ⊢
            generalize hN1 : ((n' + 1 : Nat) : Int) = N1 at e1 l2
            have l3 : lookD dd qv = some (some (.int N1)) := by
              rw [l2, ← hN1]
              rfl
            generalize (look L w).map natD = od at l1 cg
            by_cases hc : look L w = some n'
            · simp [cTurn_eq, lendS, wipeR, setS_free, l0, l1, l3, al, e1, cg, hc]
            · simp [cTurn_eq, lendS, wipeR, setS_free, l0, l1, l3, al, e1, cg, hc]
        have q1 : exec ⟨⟨Φ, T.md⟩, T.sub⟩ (.asg (.nm 11) (.comp .seq [.call n_all_exchanges [.var 0, .sub (.var 10) (.neg (.con (.int 1)))]] (.nm 12) [12] (.nop) (.sub (.var 12) (.con (.int 2))))) (rB rs m b g L a s7 s8 s9 (pre ++ [v]) s11 s12) = .ok .next (rB rs m b g L a s7 s8 s9 (pre ++ [v]) (.ow (.list ((nxt rs v).map bg))) s12) := by
          unfold rB at c1 ⊢
          generalize hpv : (pre ++ [v]).map bg = pv at al c1 ⊢
          simp [al, callF_d, okSlots_d, hx, flats_exD, c1, setS_free, f11]
        rw [exs_next _ q1]
        have bm := bi_min_bags x l
        rw [hmu] at bm
        have hpl : pre.length + 1 < 1000000 := by omega
        unfold rB at c2 ⊢
        have eq2 : (pre ++ [v] ++ [u]).map bg = (pre ++ [v]).map bg ++ [bg u] := by simp
        rw [eq2]
        have hlen : ((pre ++ [v]).map bg).length < 1000000 := by simpa using hpl
        generalize hpv : (pre ++ [v]).map bg = pv at al c2 hlen ⊢
        generalize hxs : (x :: l).map bg = xs at c2 bm
        simp [exs_sq, c2, bm, hL, hlen]
      · rw [List.append_assoc]
        exact hr _ (least_cons dv u1 (fun c hc dc => ml c ((cd c).mpr ⟨hc, dc⟩)) hr')
end
end K40
end

section
set_option Elab.async false
set_option linter.all false
set_option maxRecDepth 100000
set_option autoImplicit false
namespace K40
open PySem hiding exec execs settle finish
open PySem.W DL
theorem exs_app {x : Env0} {tt : List S} {ρ1 : Rho} : ∀ {ss : List S} {ρ : Rho}, execs x ss ρ = .ok .next ρ1 → execs x (ss ++ tt) ρ = execs x tt ρ1
  | [], ρ, h => by
    rw [exs_nil] at h
    cases h
    rfl
  | s :: ss, ρ, h => by
    rw [List.cons_append]
    rw [exs_cons] at h ⊢
    cases e : exec x s ρ with
    | bad =>
      rw [e] at h
      cases h
    | exc c ρ2 =>
      rw [e] at h
      cases h
    | ok f ρ2 =>
      rw [e] at h
      cases f with
      | next => exact exs_app h
      | _ => cases h
/-- what is asked of shortest_chain -/
def Ans (rs : List Rule) (m : Nat) (b g : List Int) (d : D) : Prop :=
  (okm m b = true ∧ okm m g = true ∧ ∃ N q, Least (NB rs m) N b g q ∧ (∀ j, Pth (NB rs m) j b g → N ≤ j) ∧ d = .list (q.map bg)) ∨ (d = .none ∧ (okm m b = true → okm m g = true → ∀ n, ¬ Pth (NB rs m) n b g))
theorem ans_one {rs : List Rule} {m : Nat} {b g : List Int} {d d' : D} (h : Ans rs m b g d) (h' : Ans rs m b g d') : d = d' := by
  rcases h with ⟨o1, o2, N, q, l, mn, e⟩ | ⟨e, no⟩ <;> rcases h' with ⟨_, _, N', q', l', mn', e'⟩ | ⟨e', no'⟩
  · have : N = N' := Nat.le_antisymm (mn _ l'.1.pth) (mn' _ l.1.pth)
    subst this
    rw [e, e', least_one l l']
  · exact absurd l.1.pth (no' o1 o2 N)
  · rename_i o1 o2
    exact absurd l'.1.pth (no o1 o2 N')
  · rw [e, e']
theorem shortest_ok (n k : Nat) (rs : List Rule) (h : RulesOk k rs) (b g : List Int) (hb : b.length = k) (pb : partsIn 60 b = true) (hg : g.length = k) (pg : partsIn 60 g = true) (m : Nat) (hm : m ≤ 30) :
    ∃ fr d, runF T (n + 5) n_shortest_chain [.list (rls rs), bg b, bg g, .int m] = some (.ret fr d [none, none, none, none]) ∧ Ans rs m b g d ∧ ∀ q : List (List Int), d = .list (q.map bg) → q.length ≤ 30000 := by
  rw [run_def at_shortest_chain rfl]
  have hk3 := h.k3
  have hn4 := h.n4
  have C1 := check_bag_ok n k rs b h hb pb
  have C2 := check_bag_ok n k rs g h hg pg
  have C3 := check_sum_ok (n + 2) m (by omega) (by omega)
  have X := fun (c : List Int) (e : c.length = k) => all_exchanges_ok (n + 2) k rs c h.kinds e (by omega) (by omega)
  generalize runF T (n + 4) = Φ at C1 C2 C3 X ⊢
  let ρ0 : Rho := [.fz (.list (rls rs)), .fz (bg b), .fz (bg g), .fz (.int m), .no, .no, .no, .no, .no, .no, .no, .no, .no]
  have p1 : exec ⟨⟨Φ, T.md⟩, T.sub⟩ (.expr (.call n_check_bag [.var 0, .var 1])) ρ0 = .ok .next ρ0 := by
    simp [ρ0, callF_d, okSlots_d, C1]
  have p2 : exec ⟨⟨Φ, T.md⟩, T.sub⟩ (.expr (.call n_check_bag [.var 0, .var 2])) ρ0 = .ok .next ρ0 := by
    simp [ρ0, callF_d, okSlots_d, C2]
  have p3 : exec ⟨⟨Φ, T.md⟩, T.sub⟩ (.expr (.call n_check_sum [.var 3])) ρ0 = .ok .next ρ0 := by
    simp [ρ0, callF_d, okSlots_d, C3]
  have st : startR fd_shortest_chain [.list (rls rs), bg b, bg g, .int m] = ρ0 := rfl
  rw [st]
  unfold fd_shortest_chain
  dsimp only
  rw [exs_next _ p1, exs_next _ p2, exs_next _ p3]
  by_cases hs : okm m b = true ∧ okm m g = true
  · have hs1 : ¬ (m : Int) < b.sum := by
      have := of_decide_eq_true hs.1
      omega
    have hs2 : ¬ (m : Int) < g.sum := by
      have := of_decide_eq_true hs.2
      omega
    have p4 : exec ⟨⟨Φ, T.md⟩, T.sub⟩ (.ifS (.or (.cmp .gt (.bi .sum [.var 1]) (.var 3)) (.cmp .gt (.bi .sum [.var 2]) (.var 3))) [.ret (.con .none)] []) ρ0 = .ok .next ρ0 := by
      simp [ρ0, bi_sum_bg, hs1, hs2]
    have p5 : execs ⟨⟨Φ, T.md⟩, T.sub⟩ [.asg (.nm 4) (.dsp1 true (.var 2) (.con (.int 0))), .asg (.nm 5) (.lst [.var 2]), .asg (.nm 6) (.con (.int 0))] ρ0 = .ok .next (rA rs m b g [(g, 0)] 0 .no .no .no) := by
      have hL : LIM = 1000000 := rfl
      have kt := keyT_bg g
      have e1 : dicB natD [(g, 0)] = .dict [(.none, .none), (bg g, .int 0)] := rfl
      have e2 : lineD [(g, 0)] = [bg g] := rfl
      unfold rA
      rw [e1, e2]
      simp [ρ0, exs_sq, setS_free, kt, hL]
    obtain ⟨L, a, s7, s8, s9, I, hl, dm, f9, p6⟩ := sc_while h X m hm b g hg (parts_nonneg pg) hs.2
    have hB := dm_len h m hm g I dm
    have lk := look_bg natD L b
    rw [exs_next _ p4]
    have p5' := fun tt => exs_app (tt := tt) p5
    simp only [List.cons_append, List.nil_append] at p5'
    unfold scFor scBody at p6
    rw [p5', exs_next _ p6]
    cases hN : look L b with
    | none =>
      refine ⟨false, .none, ?_, .inr ⟨rfl, fun _ _ j hp => ?_⟩, fun q e => by cases e⟩
      · rw [hN] at lk
        unfold rA
        generalize dicB natD L = dd at lk ⊢
        simp [exs_sq, lk]
      · obtain ⟨N, _, dN⟩ := dsf_of hp
        rw [(bfs_dst (fun _ _ => nxt_symm) I hl hs.1).mpr dN] at hN
        cases hN
    | some N =>
      have dN := (bfs_dst (fun _ _ => nxt_symm) I hl hs.1).mp hN
      obtain ⟨q, t9, s11, s12, lq, p7⟩ := sc_greedy h X m b g I hl dm hB s7 s8 s9 f9 hN
      refine ⟨true, .list (q.map bg), ?_, .inl ⟨hs.1, hs.2, N, q, lq, dN.2, rfl⟩, fun q' e => ?_⟩
      rotate_left
      · have hNl : N < L.length := (dm _ ((look_mem I.nodup).mp hN)).2
        have e2 : (q.map bg).length = (q'.map bg).length := congrArg List.length (PyData.list.inj e)
        have e3 := lq.1.len
        simp only [List.length_map] at e2
        omega
      have p8 : execs ⟨⟨Φ, T.md⟩, T.sub⟩ [.ifS (.din true (.var 1) (.var 4)) [.ret (.con .none)] [], .asg (.nm 10) (.lst [.var 1])] (rA rs m b g L a s7 s8 s9) = .ok .next (rB rs m b g L a s7 s8 s9 [b] .no .no) := by
        have hL : LIM = 1000000 := rfl
        rw [hN] at lk
        unfold rA rB
        generalize dicB natD L = dd at lk ⊢
        simp [exs_sq, lk, setS_free, hL]
      have p8' := fun tt => exs_app (tt := tt) p8
      simp only [List.cons_append, List.nil_append] at p8'
      rw [p8']
      show finish _ (execs _ (scWhile :: _) _) = _
      rw [exs_next _ p7]
      unfold rB
      simp [exs_sq]
  · refine ⟨false, .none, ?_, .inr ⟨rfl, fun o1 o2 => absurd ⟨o1, o2⟩ hs⟩, fun q e => by cases e⟩
    have hs' : (m : Int) < b.sum ∨ (m : Int) < g.sum := by
      unfold okm at hs
      simp only [decide_eq_true_eq] at hs
      omega
    by_cases h1 : (m : Int) < b.sum
    · simp [ρ0, exs_sq, bi_sum_bg, h1]
    · have h2 : (m : Int) < g.sum := by omega
      simp [ρ0, exs_sq, bi_sum_bg, h1, h2]
end K40
end

section
set_option Elab.async false
set_option linter.all false
set_option maxRecDepth 100000
set_option autoImplicit false
namespace DL
open PySem hiding exec execs settle finish
open PySem.W PyProof.Rows
theorem lt_bgs : ∀ a b : Chn, rowLt (a.map bg) (b.map bg) = decide (a < b)
  | [], [] => by
    have e : rowLt [] [] = false := lex_irrefl _
    simp [e]
  | [], y :: ys => by
    have e : rowLt [] (bg y :: ys.map bg) = true := by
      unfold rowLt
      rw [toks_all_cons]
      simp only [keyToksAll]
      rw [lex_diff (O := itemOrd) (by simp)]
      rfl
    simpa using e
  | x :: xs, [] => by
    have e : rowLt (bg x :: xs.map bg) [] = false := by
      unfold rowLt
      rw [toks_all_cons]
      simp only [keyToksAll]
      rw [lex_diff (O := itemOrd) (by simp)]
      rfl
    simpa using e
  | x :: xs, y :: ys => by
    rw [List.map_cons, List.map_cons]
    unfold rowLt
    rw [dataLt_cons (alike_bg x y), eqv_bg]
    have ih := lt_bgs xs ys
    unfold rowLt at ih
    rw [ih, dLt_bg]
    by_cases h : x = y
    · subst h
      simp [List.cons_lt_cons_iff, List.lt_irrefl]
    · simp [List.cons_lt_cons_iff, h]
def chD (c : Chn) : D := .list (c.map bg)
theorem okD_chD (c : Chn) : okD (chD c) = true := (okD_seq fun y hy => by
  obtain ⟨e, _, rfl⟩ := List.mem_map.mp hy
  have := depth_bg e
  exact ⟨plain_bg e, by omega⟩).1
theorem alike_bags : ∀ a b : Chn, alikeAll (a.map bg) (b.map bg) = true
  | [], b => by cases b <;> simp [alikeAll]
  | _ :: _, [] => by simp [alikeAll]
  | x :: a, y :: b => by
    simp [alikeAll, alike_bg, alike_bags a b]
theorem cmp_lt_ch (a b : Chn) : cmpD .lt (chD a) (chD b) = some (decide (a < b)) := by
  show ltD (chD a) (chD b) = _
  unfold ltD
  have e1 : alike (chD a) (chD b) = true := by
    unfold chD
    simp only [alike, alike_bags]
  have e2 : notNone (chD a) = true := rfl
  have e3 : dataLt (chD a) (chD b) = decide (a < b) := by
    unfold chD
    rw [dataLt_list]
    exact lt_bgs a b
  rw [e1, e2, okD_chD, okD_chD, e3]
  rfl
theorem chD_add (c : Chn) (w : List Int) (h : c.length + 1 ≤ LIM) : binD .add (chD c) (.list [bg w]) = some (true, chD (c ++ [w])) := by
  unfold chD
  rw [bin_add_list, if_pos (by simpa using h), List.map_append]
  rfl
end DL
namespace K40
open PySem hiding exec execs settle finish
open PySem.W DL
/-- keys are bags with a sum -/
def Kd {α : Type} (k m : Nat) (F : List (List Int × α)) : Prop := (F.map (·.1)).Nodup ∧ ∀ b ∈ F.map (·.1), b.length = k ∧ nonneg b ∧ b.sum ≤ (m : Int)
theorem kd_len {α : Type} {k m : Nat} (hm : m ≤ 30) (hk : k ≤ 3) {F : List (List Int × α)} (h : Kd k m F) : F.length ≤ 29791 := by
  have := box_count hm hk h.1 h.2
  simpa using this
theorem mem_put {α : Type} {l : List (List Int × α)} {b x : List Int} {a : α} (h : x ∈ (put l b a).map (·.1)) : x ∈ l.map (·.1) ∨ x = b := by
  obtain ⟨c, hc⟩ := look_key.mp h
  rw [look_put] at hc
  by_cases e : x = b
  · exact .inr e
  · rw [if_neg e] at hc
    exact .inl (look_key.mpr ⟨c, hc⟩)
theorem kd_put {α : Type} {k m : Nat} {F : List (List Int × α)} (h : Kd k m F) {w : List Int} {a : α} (h1 : w.length = k) (h2 : nonneg w) (h3 : w.sum ≤ (m : Int)) : Kd k m (put F w a) := by
  refine ⟨put_keys h.1, fun b hb => ?_⟩
  rcases mem_put hb with hb | hb
  · exact h.2 b hb
  · rw [hb]
    exact ⟨h1, h2, h3⟩
def lsIf : S := .ifS (.and (.cmp .le (.bi .sum [.var 8]) (.var 3)) (.din true (.var 8) (.var 4))) [.asg (.nm 11) (.bin .add (.dsub (.var 4) (.var 7)) (.lst [.var 8])), .ifS (.or (.din true (.var 8) (.var 6)) (.cmp .lt (.var 11) (.dsub (.var 6) (.var 8)))) [.dset (.var 6) (.var 8) (.var 11)] []] []
def lsFor1 : S := .forS .seq [.call n__law_exchanges [.var 0, .var 7]] (.tp [9, 10, 8]) [lsIf]
def lsFor : S := .forS .seq [.var 5] (.nm 7) [lsFor1]
section
variable {k : Nat} {rs : List Rule} (h : RulesOk k rs) {Φ : Nat → List D → Option FR}
  (X : ∀ c : List Int, c.length = k → Φ n__law_exchanges [.list (rls rs), bg c] = some (.ret true (.list ((excs rs c).map exD)) [none, none]))
  (m : Nat) (hm : m ≤ 30) (b g : List Int)
def rC (rs : List Rule) (m : Nat) (b g : List Int) (F : List (List Int × Chn)) (s5 s6 s7 s8 s9 s10 s11 : Sl) : Rho :=
  [.fz (.list (rls rs)), .fz (bg b), .fz (bg g), .fz (.int m), .ow (dicB chD F), s5, s6, s7, s8, s9, s10, s11]
include h hm in
theorem ls_turn {F N : List (List Int × Chn)} {P : List (List Int × List Int)} {here f : List Int × Nat} {hb : List Int} {c0 : Chn} (kh : hb.length = k) (hf : look F hb = some c0) (hc0 : c0.length ≤ 29791) (kn : Kd k m N) (e : Nat × Nat × List Int) (he : e ∈ excs rs hb) (s5 s8 s9 s10 s11 : Sl) (f8 : freeS s8 = true) (f9 : freeS s9 = true) (f10 : freeS s10 = true) (f11 : freeS s11 = true) :
    ∃ t8 t9 t10 t11, freeS t8 = true ∧ freeS t9 = true ∧ freeS t10 = true ∧ freeS t11 = true ∧ Kd k m (lev1 (okm m) F N (hb, e.2.2)) ∧
      turnOf (.tp [9, 10, 8]) (execs ⟨⟨Φ, T.md⟩, T.sub⟩ [lsIf]) (exD e) (rC rs m b g F s5 (.ow (dicB chD N)) (.fz (bg hb)) s8 s9 s10 s11) = .ok .next (rC rs m b g F s5 (.ow (dicB chD (lev1 (okm m) F N (hb, e.2.2)))) (.fz (bg hb)) t8 t9 t10 t11) := by
  have hL : LIM = 1000000 := rfl
  have hN := kd_len hm h.k3 kn
  have hw : e.2.2 ∈ nxt rs hb := List.mem_map.mpr ⟨e, he, rfl⟩
  have nk := nxt_ok h kh hw
  obtain ⟨p, w, c⟩ := e
  simp only at *
  have l1 := look_bg chD F c
  have l2 := look_bg chD F hb
  have l3 := look_bg chD N c
  rw [hf] at l2
  have ca := chD_add c0 c (by rw [hL]; omega)
  have pt := put_bg chD N c (c0 ++ [c]) (by rw [hL]; omega)
  have hv : lev1 (okm m) F N (hb, c) = if okm m c && (look F c).isNone then (if (look N c).isNone || decide (c0 ++ [c] < (look N c).getD []) then put N c (c0 ++ [c]) else N) else N := by
    unfold lev1
    simp only [hf, Option.getD_some]
  rw [hv]
  by_cases hs : c.sum ≤ (m : Int)
  · have ho : okm m c = true := decide_eq_true hs
    cases hF : look F c with
    | some x =>
      rw [hF] at l1
      refine ⟨.fz (bg c), .fz (.int p), .fz (.int w), s11, rfl, rfl, rfl, f11, by simpa [ho] using kn, ?_⟩
      simp only [ho, Option.isNone_some, Bool.and_false, Bool.false_eq_true, if_false]
      unfold rC lsIf
      generalize dicB chD F = dF at l1 l2 ⊢
      simp [turnOf_d, exD, setS_free, f8, f9, f10, exs_sq, bi_sum_bg, hs, l1]
    | none =>
      rw [hF] at l1
      cases hNc : look N c with
      | none =>
        rw [hNc] at l3
        refine ⟨.fz (bg c), .fz (.int p), .fz (.int w), .fz (chD (c0 ++ [c])), rfl, rfl, rfl, rfl, by simpa [ho] using kd_put kn nk.1 nk.2 hs, ?_⟩
        simp only [ho, Option.isNone_none, Bool.and_true, Bool.true_or, if_true]
        unfold rC lsIf
        generalize dicB chD F = dF at l1 l2 ⊢
        generalize dicB chD N = dN at l3 pt ⊢
        generalize dicB chD (put N c (c0 ++ [c])) = dN2 at pt ⊢
        simp [turnOf_d, exD, setS_free, f8, f9, f10, f11, exs_sq, bi_sum_bg, hs, l1, l2, l3, ho, ca, hL, ex_dset, pt]
      | some c1 =>
        rw [hNc] at l3
        have cl := cmp_lt_ch (c0 ++ [c]) c1
        by_cases hlt : c0 ++ [c] < c1
        · refine ⟨.fz (bg c), .fz (.int p), .fz (.int w), .fz (chD (c0 ++ [c])), rfl, rfl, rfl, rfl, by simpa [ho, hlt] using kd_put kn nk.1 nk.2 hs, ?_⟩
          simp only [ho, Option.isNone_none, Option.isNone_some, Bool.and_true, Bool.false_or, Option.getD_some, if_true, hlt, decide_true, decide_false, Bool.false_eq_true, if_false]
          unfold rC lsIf
          generalize dicB chD F = dF at l1 l2 ⊢
          generalize dicB chD N = dN at l3 pt ⊢
          generalize dicB chD (put N c (c0 ++ [c])) = dN2 at pt ⊢
          simp [turnOf_d, exD, setS_free, f8, f9, f10, f11, exs_sq, bi_sum_bg, hs, l1, l2, l3, ho, ca, hL, ex_dset, pt, cl, hlt]
        · refine ⟨.fz (bg c), .fz (.int p), .fz (.int w), .ow (chD (c0 ++ [c])), rfl, rfl, rfl, rfl, by simpa [ho, hlt] using kn, ?_⟩
          simp only [ho, Option.isNone_none, Option.isNone_some, Bool.and_true, Bool.false_or, Option.getD_some, if_true, hlt, decide_true, decide_false, Bool.false_eq_true, if_false]
          unfold rC lsIf
          generalize dicB chD F = dF at l1 l2 ⊢
          generalize dicB chD N = dN at l3 pt ⊢
          simp [turnOf_d, exD, setS_free, f8, f9, f10, f11, exs_sq, bi_sum_bg, hs, l1, l2, l3, ho, ca, hL, ex_dset, pt, cl, hlt]
  · have ho : okm m c = false := decide_eq_false hs
    refine ⟨.fz (bg c), .fz (.int p), .fz (.int w), s11, rfl, rfl, rfl, f11, by simpa [ho] using kn, ?_⟩
    unfold rC lsIf
    generalize dicB chD F = dF at l1 l2 ⊢
    simp [turnOf_d, exD, setS_free, f8, f9, f10, exs_sq, bi_sum_bg, hs, ho]
end
end K40
end

section
set_option Elab.async false
set_option linter.all false
set_option maxRecDepth 100000
set_option autoImplicit false
namespace K40
open PySem hiding exec execs settle finish
open PySem.W DL
theorem ex_for_ow {x : Env0} {k : ItK} {t : Tg} {body : List S} {ρ : Rho} {i : Nat} {d : D} (h : ρ[i]? = some (.ow d)) : exec x (.forS k [.var i] t body) ρ = fRun k t (execs x body) [.slot i] ρ := by
  rw [ex_for]
  simp [h]
theorem fRun_keys {t : Tg} {body : Rho → DL.R Fl} {ρ : Rho} {xs : List D} {o : Out} (e : itemsD .keys [o] ρ = some (xs, o)) (ho : isOw o ρ = true) : fRun .keys t body [o] ρ = onR (unlend o ρ) (noexc (fLoop (turnOf t body) xs (lendS o ρ))) := by
  unfold fRun
  simp only [e, ho]
  rfl
section
variable {k : Nat} {rs : List Rule} (h : RulesOk k rs) {Φ : Nat → List D → Option FR}
  (X : ∀ c : List Int, c.length = k → Φ n__law_exchanges [.list (rls rs), bg c] = some (.ret true (.list ((excs rs c).map exD)) [none, none]))
  (m : Nat) (hm : m ≤ 30) (b g : List Int)
def levH (rs : List Rule) (m : Nat) (F : List (List Int × Chn)) (N : List (List Int × Chn)) (hb : List Int) : List (List Int × Chn) := ((nxt rs hb).map fun w => (hb, w)).foldl (lev1 (okm m) F) N
include h X hm in
theorem ls_for1 {F N : List (List Int × Chn)} {hb : List Int} {c0 : Chn} (kh : hb.length = k) (hf : look F hb = some c0) (hc0 : c0.length ≤ 29791) (kn : Kd k m N) (s5 s8 s9 s10 s11 : Sl) (f8 : freeS s8 = true) (f9 : freeS s9 = true) (f10 : freeS s10 = true) (f11 : freeS s11 = true) :
    ∃ t8 t9 t10 t11, freeS t8 = true ∧ freeS t9 = true ∧ freeS t10 = true ∧ freeS t11 = true ∧ Kd k m (levH rs m F N hb) ∧
      exec ⟨⟨Φ, T.md⟩, T.sub⟩ lsFor1 (rC rs m b g F s5 (.ow (dicB chD N)) (.fz (bg hb)) s8 s9 s10 s11) = .ok .next (rC rs m b g F s5 (.ow (dicB chD (levH rs m F N hb))) (.fz (bg hb)) t8 t9 t10 t11) := by
  have hx := X hb kh
  have step := fLoop_fold (turn := turnOf (.tp [9, 10, 8]) (execs ⟨⟨Φ, T.md⟩, T.sub⟩ [lsIf])) (fun (N : List (List Int × Chn)) ρ => Kd k m N ∧ ∃ s8 s9 s10 s11, freeS s8 = true ∧ freeS s9 = true ∧ freeS s10 = true ∧ freeS s11 = true ∧ ρ = rC rs m b g F s5 (.ow (dicB chD N)) (.fz (bg hb)) s8 s9 s10 s11)
    (fun N (e : Nat × Nat × List Int) => lev1 (okm m) F N (hb, e.2.2)) exD (excs rs hb) N (rC rs m b g F s5 (.ow (dicB chD N)) (.fz (bg hb)) s8 s9 s10 s11)
    (fun N e ρ he ⟨kn, s8, s9, s10, s11, f8, f9, f10, f11, er⟩ => ?_) ⟨kn, s8, s9, s10, s11, f8, f9, f10, f11, rfl⟩
  · obtain ⟨ρ', l1, kn', t8, t9, t10, t11, f8', f9', f10', f11', er⟩ := step
    have ef : levH rs m F N hb = (excs rs hb).foldl (fun N (e : Nat × Nat × List Int) => lev1 (okm m) F N (hb, e.2.2)) N := by
      unfold levH nxt
      rw [List.map_map, List.foldl_map]
      rfl
    rw [ef]
    refine ⟨t8, t9, t10, t11, f8', f9', f10', f11', kn', ?_⟩
    subst er
    generalize (excs rs hb).foldl (fun N (e : Nat × Nat × List Int) => lev1 (okm m) F N (hb, e.2.2)) N = N3 at l1
    unfold lsFor1
    unfold rC at *
    simp [callF_d, okSlots_d, hx, flats_exD, fRun_seq (seqD_list _), l1]
  · subst er
    obtain ⟨t8, t9, t10, t11, f8', f9', f10', f11', kn', q⟩ := ls_turn (P := []) (here := ([], 0)) (f := ([], 0)) (Φ := Φ) h m hm b g kh hf hc0 kn e he s5 s8 s9 s10 s11 f8 f9 f10 f11
    exact ⟨_, q, kn', t8, t9, t10, t11, f8', f9', f10', f11', rfl⟩
include h X hm in
theorem ls_for {F : List (List Int × Chn)} {lev : List (List Int)} (hlev : ∀ v ∈ lev, v.length = k ∧ ∃ c, look F v = some c ∧ c.length ≤ 29791) (s7 s8 s9 s10 s11 : Sl) (f7 : freeS s7 = true) (f8 : freeS s8 = true) (f9 : freeS s9 = true) (f10 : freeS s10 = true) (f11 : freeS s11 = true) :
    ∃ t7 t8 t9 t10 t11, freeS t7 = true ∧ freeS t8 = true ∧ freeS t9 = true ∧ freeS t10 = true ∧ freeS t11 = true ∧ Kd k m ((pairs (nxt rs) lev).foldl (lev1 (okm m) F) []) ∧
      exec ⟨⟨Φ, T.md⟩, T.sub⟩ lsFor (rC rs m b g F (.ow (.list (lev.map bg))) (.ow (dicB chD ([] : List (List Int × Chn)))) s7 s8 s9 s10 s11) =
        .ok .next (rC rs m b g F (.ow (.list (lev.map bg))) (.ow (dicB chD ((pairs (nxt rs) lev).foldl (lev1 (okm m) F) []))) t7 t8 t9 t10 t11) := by
  have step := fLoop_fold (turn := turnOf (.nm 7) (execs ⟨⟨Φ, T.md⟩, T.sub⟩ [lsFor1])) (fun (N : List (List Int × Chn)) ρ => Kd k m N ∧ ∃ s7 s8 s9 s10 s11, freeS s7 = true ∧ freeS s8 = true ∧ freeS s9 = true ∧ freeS s10 = true ∧ freeS s11 = true ∧ ρ = rC rs m b g F (.lent (.list (lev.map bg))) (.ow (dicB chD N)) s7 s8 s9 s10 s11)
    (levH rs m F) bg lev [] (rC rs m b g F (.lent (.list (lev.map bg))) (.ow (dicB chD [])) s7 s8 s9 s10 s11)
    (fun N v ρ hv ⟨kn, s7, s8, s9, s10, s11, f7, f8, f9, f10, f11, er⟩ => ?_) ⟨⟨by simp, by simp⟩, s7, s8, s9, s10, s11, f7, f8, f9, f10, f11, rfl⟩
  · obtain ⟨ρ', l1, kn', t7, t8, t9, t10, t11, f7', f8', f9', f10', f11', er⟩ := step
    have ef : (pairs (nxt rs) lev).foldl (lev1 (okm m) F) [] = lev.foldl (levH rs m F) [] := by
      unfold pairs
      rw [List.foldl_flatMap]
      rfl
    rw [ef]
    refine ⟨t7, t8, t9, t10, t11, f7', f8', f9', f10', f11', kn', ?_⟩
    subst er
    generalize lev.foldl (levH rs m F) [] = N3 at l1
    unfold lsFor
    unfold rC at *
    rw [ex_for_ow (i := 5) rfl, fRun_of (xs := lev.map bg) (o := .slot 5) rfl rfl rfl]
    simp [lendS, l1, unlend]
  · subst er
    obtain ⟨kv, c, hc, hcl⟩ := hlev v hv
    obtain ⟨t8, t9, t10, t11, f8', f9', f10', f11', kn', q⟩ := ls_for1 h X m hm b g kv hc hcl kn (.lent (.list (lev.map bg))) s8 s9 s10 s11 f8 f9 f10 f11
    refine ⟨_, ?_, kn', .fz (bg v), t8, t9, t10, t11, rfl, f8', f9', f10', f11', rfl⟩
    rw [turnOf_d, bindT_nm, setS_free (by unfold rC; simpa using f7), bw_ok]
    show execs _ [lsFor1] (rC rs m b g F (.lent (.list (lev.map bg))) (.ow (dicB chD N)) (.fz (bg v)) s8 s9 s10 s11) = _
    rw [exs_one, q]
def lsKeys : S := .forS .keys [.var 6] (.nm 8) [.dset (.var 4) (.var 8) (.dsub (.var 6) (.var 8))]
include hm in
theorem ls_keys (hk : k ≤ 3) {F N : List (List Int × Chn)} (kf : Kd k m F) (kn : Kd k m N) (s5 s7 s8 s9 s10 s11 : Sl) (f8 : freeS s8 = true) :
    ∃ t8, freeS t8 = true ∧ Kd k m (N.foldl (fun F p => put F p.1 p.2) F) ∧ exec ⟨⟨Φ, T.md⟩, T.sub⟩ lsKeys (rC rs m b g F s5 (.ow (dicB chD N)) s7 s8 s9 s10 s11) = .ok .next (rC rs m b g (N.foldl (fun F p => put F p.1 p.2) F) s5 (.ow (dicB chD N)) s7 t8 s9 s10 s11) := by
  have hL : LIM = 1000000 := rfl
  have step := fLoop_fold (turn := turnOf (.nm 8) (execs ⟨⟨Φ, T.md⟩, T.sub⟩ [.dset (.var 4) (.var 8) (.dsub (.var 6) (.var 8))])) (fun (F : List (List Int × Chn)) ρ => Kd k m F ∧ ∃ s8, freeS s8 = true ∧ ρ = rC rs m b g F s5 (.lent (dicB chD N)) s7 s8 s9 s10 s11)
    (fun F (p : List Int × Chn) => put F p.1 p.2) (fun p => bg p.1) N F (rC rs m b g F s5 (.lent (dicB chD N)) s7 s8 s9 s10 s11)
    (fun F p ρ hp ⟨kf, s8, f8, er⟩ => ?_) ⟨kf, s8, f8, rfl⟩
  · obtain ⟨ρ', l1, kf', t8, f8', er⟩ := step
    refine ⟨t8, f8', kf', ?_⟩
    subst er
    generalize N.foldl (fun F p => put F p.1 p.2) F = F3 at l1
    unfold lsKeys
    unfold rC at *
    rw [ex_for_ow (i := 6) rfl]
    have hi : itemsD .keys [.slot 6] [Sl.fz (.list (rls rs)), .fz (bg b), .fz (bg g), .fz (.int m), .ow (dicB chD F), s5, .ow (dicB chD N), s7, s8, s9, s10, s11] = some (N.map fun p => bg p.1, .slot 6) := by
      show some ((N.map fun p => (bg p.1, chD p.2)).map (·.1), Out.slot 6) = _
      rw [List.map_map]
      rfl
    rw [fRun_keys hi rfl]
    simp [lendS, l1, unlend]
  · subst er
    have hF := kd_len hm hk kf
    have hw := kn.2 p.1 (List.mem_map.mpr ⟨p, hp, rfl⟩)
    have l1 := look_bg chD N p.1
    rw [(look_mem kn.1 (b := p.1) (a := p.2)).mpr hp] at l1
    have pt := put_bg chD F p.1 p.2 (by rw [hL]; omega)
    refine ⟨_, ?_, kd_put kf hw.1 hw.2.1 hw.2.2, .fz (bg p.1), rfl, rfl⟩
    unfold rC
    generalize dicB chD F = dF at pt ⊢
    generalize dicB chD N = dN at l1 ⊢
    generalize dicB chD (put F p.1 p.2) = dF2 at pt ⊢
    simp [turnOf_d, setS_free, f8, exs_sq, ex_dset, l1, pt]
end
end K40
end

section
set_option Elab.async false
set_option linter.all false
set_option maxRecDepth 100000
set_option autoImplicit false
namespace K40
open PySem hiding exec execs settle finish
open PySem.W DL
theorem sorted_bags (ks : List (List Int)) (hne : ∀ b ∈ ks, b ≠ []) (hl : ks.length ≤ LIM) : ∃ ls : List (List Int), biD .sorted [.list (ks.map bg)] = some (true, .list (ls.map bg)) ∧ ls.Perm ks := by
  refine ⟨ks.mergeSort fun a b => dataLe false id (bg a) (bg b), ?_, List.mergeSort_perm _ _⟩
  have h1 : alikeAllB (ks.map bg) = true := by
    unfold alikeAllB
    rw [List.all_eq_true]
    intro p hp
    rw [List.all_eq_true]
    intro q hq
    obtain ⟨i, _, rfl⟩ := List.mem_map.mp hp
    obtain ⟨j, _, rfl⟩ := List.mem_map.mp hq
    exact alike_bg i j
  have h2 : okD (.list (ks.map bg)) = true := okD_chD ks
  have h3 : sortableB (ks.map bg) = true := by
    unfold sortableB
    rw [Bool.or_eq_true]
    left
    rw [List.all_eq_true]
    intro p hp
    obtain ⟨b, hb, rfl⟩ := List.mem_map.mp hp
    cases b with
    | nil => exact absurd rfl (hne _ hb)
    | cons x b => rfl
  show one1 (fun d => (listD d).bind sortD) [.list (ks.map bg)] = _
  unfold one1
  simp only [listD_list, Option.bind_some]
  unfold sortD
  rw [h1, h2, h3]
  simp only [Bool.and_self, Bool.true_and, List.length_map, decide_eq_true hl, if_true]
  rw [List.map_mergeSort (s := dataLe false id)]
  intro a _ b _
  rfl
def lsWhile : S := .whileS (.and (.din true (.var 2) (.var 4)) (.cmp .gt (.bi .len [.var 5]) (.con (.int 0)))) [.asg (.nm 6) (.dnew true), lsFor, lsKeys, .asg (.nm 5) (.skeys (.var 6))]
section
variable {k : Nat} {rs : List Rule} (h : RulesOk k rs) {Φ : Nat → List D → Option FR}
  (X : ∀ c : List Int, c.length = k → Φ n__law_exchanges [.list (rls rs), bg c] = some (.ret true (.list ((excs rs c).map exD)) [none, none]))
  (m : Nat) (hm : m ≤ 30) (b g : List Int)
theorem put_grows {F N : List (List Int × Chn)} {ok : List Int → Bool} {P : List (List Int × List Int)} (nf : (F.map (·.1)).Nodup) (J : New ok F N P) : F.length + N.length ≤ (N.foldl (fun F p => put F p.1 p.2) F).length := by
  have h1 : (F.map (·.1) ++ N.map (·.1)).Nodup := by
    rw [List.nodup_append]
    refine ⟨nf, J.nodup, fun x hx y hy e => ?_⟩
    subst e
    obtain ⟨c, hc⟩ := look_key.mp hy
    obtain ⟨c', hc'⟩ := look_key.mp hx
    rw [(J.sound x c hc).2.1] at hc'
    cases hc'
  have h2 := List.Nodup.length_le_of_subset h1 (l₂ := (N.foldl (fun F p => put F p.1 p.2) F).map (·.1)) fun x hx => by
    rw [look_key, put_all N F x J.nodup]
    rcases List.mem_append.mp hx with hx | hx
    · obtain ⟨c, hc⟩ := look_key.mp hx
      cases e : look N x with
      | none => exact ⟨c, by rw [hc]; rfl⟩
      | some c' => exact ⟨c', rfl⟩
    · obtain ⟨c, hc⟩ := look_key.mp hx
      exact ⟨c, by rw [hc]; rfl⟩
  simpa using h2
include h X hm in
theorem ls_while (lb : b.length = k) (nb : nonneg b) (ob : okm m b = true) : ∃ F lev d s6 s7 s8 s9 s10 s11, Lev (nxt rs) (okm m) b F lev d ∧ ((∃ c, look F g = some c) ∨ lev = []) ∧
    exec ⟨⟨Φ, T.md⟩, T.sub⟩ lsWhile (rC rs m b g [(b, [b])] (.ow (.list [bg b])) .no .no .no .no .no .no) = .ok .next (rC rs m b g F (.ow (.list (lev.map bg))) s6 s7 s8 s9 s10 s11) := by
  have hL : LIM = 1000000 := rfl
  unfold lsWhile
  rw [ex_while]
  have go := wRun_wf (t := (ev ⟨Φ, T.md⟩ (.and (.din true (.var 2) (.var 4)) (.cmp .gt (.bi .len [.var 5]) (.con (.int 0))))).T) (body := execs ⟨⟨Φ, T.md⟩, T.sub⟩ [.asg (.nm 6) (.dnew true), lsFor, lsKeys, .asg (.nm 5) (.skeys (.var 6))])
    (fun n ρ => ∃ F lev d s6 s7 s8 s9 s10 s11, Lev (nxt rs) (okm m) b F lev d ∧ Kd k m F ∧ (lev = [] ∨ d < F.length) ∧ n = 2 * (29791 - F.length) + (if lev = [] then 0 else 1) ∧ freeS s6 = true ∧ freeS s7 = true ∧ freeS s8 = true ∧ freeS s9 = true ∧ freeS s10 = true ∧ freeS s11 = true ∧ ρ = rC rs m b g F (.ow (.list (lev.map bg))) s6 s7 s8 s9 s10 s11)
    (fun ρ => ∃ F lev d s6 s7 s8 s9 s10 s11, Lev (nxt rs) (okm m) b F lev d ∧ ((∃ c, look F g = some c) ∨ lev = []) ∧ ρ = rC rs m b g F (.ow (.list (lev.map bg))) s6 s7 s8 s9 s10 s11)
    (fun n ρ ⟨F, lev, d, s6, s7, s8, s9, s10, s11, I, kf, hd, hn, f6, f7, f8, f9, f10, f11, er⟩ => ?_) _ (rC rs m b g [(b, [b])] (.ow (.list [bg b])) .no .no .no .no .no .no) ⟨[(b, [b])], [b], 0, .no, .no, .no, .no, .no, .no, lev_start ob, ⟨by simp, ?_⟩, .inr (by simp), rfl, rfl, rfl, rfl, rfl, rfl, rfl, rfl⟩
  · obtain ⟨ρ', h1, F, lev, d, s6, s7, s8, s9, s10, s11, I, he, er⟩ := go
    subst er
    exact ⟨F, lev, d, s6, s7, s8, s9, s10, s11, I, he, h1⟩
  · subst er
    have l1 := look_bg chD F g
    by_cases hg : ∃ c, look F g = some c
    · left
      refine ⟨?_, F, lev, d, s6, s7, s8, s9, s10, s11, I, .inl hg, rfl⟩
      obtain ⟨c, hc⟩ := hg
      rw [hc] at l1
      unfold rC
      generalize dicB chD F = dF at l1 ⊢
      simp [l1]
    · have hno : look F g = none := by
        cases e : look F g with
        | none => rfl
        | some c => exact absurd ⟨c, e⟩ hg
      rw [hno] at l1
      by_cases hl : lev = []
      · left
        refine ⟨?_, F, lev, d, s6, s7, s8, s9, s10, s11, I, .inr hl, rfl⟩
        subst hl
        unfold rC
        generalize dicB chD F = dF at l1 ⊢
        simp [l1]
      · right
        have hd : d < F.length := by
          rcases hd with e | hd
          · exact absurd e hl
          · exact hd
        have hF := kd_len hm h.k3 kf
        have hlev : ∀ v ∈ lev, v.length = k ∧ ∃ c, look F v = some c ∧ c.length ≤ 29791 := fun v hv => by
          obtain ⟨c, e, lc⟩ := I.keys v d (Nat.le_refl _) ((I.lev v).mp hv)
          have := lc.1.len
          exact ⟨(kf.2 v (look_key.mpr ⟨c, e⟩)).1, c, e, by omega⟩
        obtain ⟨t7, t8, t9, t10, t11, f7', f8', f9', f10', f11', kn, q1⟩ := ls_for h X m hm b g (F := F) hlev s7 s8 s9 s10 s11 f7 f8 f9 f10 f11
        have J := new_all (ok := okm m) (F := F) (pairs (nxt rs) lev) [] [] (new_start F) fun e he => by
          unfold pairs at he
          obtain ⟨v, hv, h2⟩ := List.mem_flatMap.mp he
          obtain ⟨w, _, rfl⟩ := List.mem_map.mp h2
          obtain ⟨_, c, e, _⟩ := hlev v hv
          exact ⟨c, e⟩
        rw [List.nil_append] at J
        generalize hN : (pairs (nxt rs) lev).foldl (lev1 (okm m) F) [] = N at kn q1 J
        obtain ⟨u8, f8'', kf', q2⟩ := ls_keys (Φ := Φ) (rs := rs) m hm b g h.k3 kf kn (.ow (.list (lev.map bg))) t7 t8 t9 t10 t11 f8'
        have grow := put_grows kf.1 J
        have hF' := kd_len hm h.k3 kf'
        have hNl := kd_len hm h.k3 kn
        generalize hF2 : N.foldl (fun F p => put F p.1 p.2) F = F2 at kf' q2 grow hF'
        obtain ⟨ls, sd, pm⟩ := sorted_bags (N.map (·.1)) (fun v hv => by
          have := (kn.2 v hv).1
          have := h.k1
          intro z
          subst z
          simp at *
          omega) (by rw [List.length_map, hL]; omega)
        have I2 := lev_turn I J (lev' := ls) fun v => pm.mem_iff
        rw [hF2] at I2
        have hls : ls.length = N.length := by
          have := pm.length_eq
          simpa using this
        refine ⟨2 * (29791 - F2.length) + (if ls = [] then 0 else 1), rC rs m b g F (.ow (.list (lev.map bg))) s6 s7 s8 s9 s10 s11, rC rs m b g F2 (.ow (.list (ls.map bg))) (.ow (dicB chD N)) t7 u8 t9 t10 t11, ?_, ?_, ?_, F2, ls, d + 1, _, t7, u8, t9, t10, t11, I2, kf', ?_, rfl, rfl, f7', f8'', f9', f10', f11', rfl⟩
        · rw [hn, if_neg hl]
          by_cases z : ls = []
          · rw [if_pos z]
            omega
          · rw [if_neg z]
            have : 0 < ls.length := List.length_pos_iff.mpr z
            omega
        · have : 0 < lev.length := List.length_pos_iff.mpr hl
          unfold rC
          generalize dicB chD F = dF at l1 ⊢
          simp [l1, this]
        · have q0 : exec ⟨⟨Φ, T.md⟩, T.sub⟩ (.asg (.nm 6) (.dnew true)) (rC rs m b g F (.ow (.list (lev.map bg))) s6 s7 s8 s9 s10 s11) = .ok .next (rC rs m b g F (.ow (.list (lev.map bg))) (.ow (dicB chD ([] : List (List Int × Chn)))) s7 s8 s9 s10 s11) := by
            unfold rC dicB
            simp [setS_free, f6]
          rw [exs_next _ q0, exs_next _ q1, exs_next _ q2, exs_one]
          have kd : keysD (dicB chD N) = some ((N.map (·.1)).map bg) := by
            show some ((N.map fun p => (bg p.1, chD p.2)).map (·.1)) = _
            rw [List.map_map, List.map_map]
            rfl
          generalize (N.map (·.1)).map bg = kb at kd sd
          unfold rC
          generalize dicB chD N = dN at kd ⊢
          simp [kd, sd, setS_free]
        · by_cases z : ls = []
          · exact .inl z
          · right
            have : 0 < ls.length := List.length_pos_iff.mpr z
            omega
  · intro v hv
    simp only [List.map_cons, List.map_nil, List.mem_singleton] at hv
    subst hv
    exact ⟨lb, nb, of_decide_eq_true ob⟩
end
theorem law_shortest_ok (n k : Nat) (rs : List Rule) (h : RulesOk k rs) (b g : List Int) (hb : b.length = k) (nb : nonneg b) (m : Nat) (hm : m ≤ 30) :
    ∃ fr d, runF T (n + 3) n__law_shortest [.list (rls rs), bg b, bg g, .int m] = some (.ret fr d [none, none, none, none]) ∧ Ans rs m b g d := by
  rw [run_def at__law_shortest rfl]
  have hk3 := h.k3
  have hn4 := h.n4
  have hL : LIM = 1000000 := rfl
  have X := fun (c : List Int) (e : c.length = k) => law_exchanges_ok n k rs c h.kinds e (by omega) (by omega)
  generalize runF T (n + 2) = Φ at X ⊢
  let ρ0 : Rho := [.fz (.list (rls rs)), .fz (bg b), .fz (bg g), .fz (.int m), .no, .no, .no, .no, .no, .no, .no, .no]
  have st : startR fd__law_shortest [.list (rls rs), bg b, bg g, .int m] = ρ0 := rfl
  rw [st]
  unfold fd__law_shortest
  dsimp only
  by_cases hs : okm m b = true ∧ okm m g = true
  · have hs1 : ¬ (m : Int) < b.sum := by
      have := of_decide_eq_true hs.1
      omega
    have hs2 : ¬ (m : Int) < g.sum := by
      have := of_decide_eq_true hs.2
      omega
    have p4 : execs ⟨⟨Φ, T.md⟩, T.sub⟩ [.ifS (.or (.cmp .gt (.bi .sum [.var 1]) (.var 3)) (.cmp .gt (.bi .sum [.var 2]) (.var 3))) [.ret (.con .none)] [], .asg (.nm 4) (.dsp1 true (.var 1) (.lst [.var 1])), .asg (.nm 5) (.lst [.var 1])] ρ0 = .ok .next (rC rs m b g [(b, [b])] (.ow (.list [bg b])) .no .no .no .no .no .no) := by
      have kt := keyT_bg b
      have e1 : dicB chD [(b, [b])] = .dict [(.none, .none), (bg b, .list [bg b])] := rfl
      unfold rC
      rw [e1]
      simp [ρ0, exs_sq, setS_free, kt, hL, bi_sum_bg, hs1, hs2]
    obtain ⟨F, lev, d, s6, s7, s8, s9, s10, s11, I, hend, p5⟩ := ls_while h X m hm b g hb nb hs.1
    have p4' := fun tt => exs_app (tt := tt) p4
    simp only [List.cons_append, List.nil_append] at p4'
    unfold lsWhile lsFor lsFor1 lsIf lsKeys at p5
    rw [p4', exs_next _ p5]
    have l1 := look_bg chD F g
    have l0 : dictD (dicB chD F) = some ((.none, .none) :: F.map fun p => (bg p.1, chD p.2)) := rfl
    cases hF : look F g with
    | none =>
      rw [hF] at l1
      refine ⟨false, .none, ?_, .inr ⟨rfl, fun _ _ j hp => ?_⟩⟩
      · unfold rC
        generalize dicB chD F = dF at l1 l0 ⊢
        simp [exs_sq, l0, l1]
      · rcases hend with ⟨c, hc⟩ | hend
        · rw [hF] at hc
          cases hc
        · subst hend
          exact lev_end I hF j hp
    | some c =>
      rw [hF] at l1
      obtain ⟨_, N, _, dN, lN⟩ := I.only g c hF
      refine ⟨false, chD c, ?_, .inl ⟨hs.1, hs.2, N, c, lN, dN.2, rfl⟩⟩
      unfold rC
      generalize dicB chD F = dF at l1 l0 ⊢
      simp [exs_sq, l0, l1]
  · refine ⟨false, .none, ?_, .inr ⟨rfl, fun o1 o2 => absurd ⟨o1, o2⟩ hs⟩⟩
    have hs' : (m : Int) < b.sum ∨ (m : Int) < g.sum := by
      unfold okm at hs
      simp only [decide_eq_true_eq] at hs
      omega
    by_cases h1 : (m : Int) < b.sum
    · simp [ρ0, exs_sq, bi_sum_bg, h1]
    · have h2 : (m : Int) < g.sum := by omega
      simp [ρ0, exs_sq, bi_sum_bg, h1, h2]
end K40
end

section
set_option Elab.async false
set_option linter.all false
set_option maxRecDepth 100000
set_option autoImplicit false
namespace K40
open PySem hiding exec execs settle finish
open PySem.W DL
theorem bad_first (n : Nat) (d : D) (hp : d.plain = true) (h : ∀ xs, d = .list xs → ¬ (1 ≤ xs.length ∧ xs.length ≤ 4)) : runF T (n + 3) n_check_rules [d] = some (.exc 0 [none]) := by
  rw [run_def at_check_rules rfl]
  generalize runF T (n + 2) = Φ
  by_cases hl : ∃ xs, d = .list xs
  · obtain ⟨xs, rfl⟩ := hl
    have h := h xs rfl
    by_cases h1 : 1 ≤ (xs.length : Int)
    · have h2 : ¬ (xs.length : Int) ≤ 4 := by omega
      simp [fd_check_rules, startR, exs_sq, hp, PyData.isList, h1, h2]
    · simp [fd_check_rules, startR, exs_sq, hp, PyData.isList, h1]
  · have e : d.isList = false := by
      cases d <;> first | rfl | exact absurd ⟨_, rfl⟩ hl
    simp [fd_check_rules, startR, exs_sq, hp, e]
theorem tuple_bad (n : Nat) (x : D) (hp : x.plain = true) (h : ∀ xs, x = .tuple xs → xs.length ≠ 2) : runF T (n + 1) n_is_tuple [x, .int 2] = some (.ret false (.bool false) [none, none]) := by
  have V := is_tuple_ok n x 2 hp
  rw [V]
  cases x with
  | tuple xs =>
    have := h xs rfl
    have e : decide ((xs.length : Int) = 2) = false := by
      simp only [decide_eq_false_iff_not]
      omega
    simp only [e]
  | _ => rfl
theorem bad_second (n : Nat) (x : D) (hx : okD (.list [x]) = true) (h : ∀ xs, x = .tuple xs → xs.length ≠ 2) : runF T (n + 3) n_check_rules [.list [x]] = some (.exc 0 [none]) := by
  rw [run_def at_check_rules rfl]
  have hp := okD_plain hx
  have V := tuple_bad (n + 1) x (okD_items (.inl hx) x (by simp)).1 h
  generalize runF T (n + 2) = Φ at V ⊢
  have hL : LIM = 1000000 := rfl
  have hc : cRun .seq (.nm 4) [4] (condT (.not (.call n_is_tuple [.var 4, .con (.int 2)])) (ev ⟨Φ, T.md⟩ (.not (.call n_is_tuple [.var 4, .con (.int 2)])))) (ev ⟨Φ, T.md⟩ (.var 4)).P [.fz (.list [x])] [.fz (.list [x]), .no, .no, .no, .no] =
      .ok (.fresh (.list [x])) [.fz (.list [x]), .no, .no, .no, .no] := by
    rw [cRun_seq (xs := [x]) (fun d => some d) (by rfl) (by simp [hL]) (by rfl) (by rfl) fun y hy => ?_]
    · simp [wipeR, giveBack]
    · rw [List.mem_singleton.mp hy]
      simp [cTurn_eq, wipeR, setS_free, callF_d, okSlots_d, V]
  simp [fd_check_rules, startR, exs_sq, hp, PyData.isList, hc]
/-- one pair whose first bag has a length out of bounds, or whose bags are none -/
theorem bad_pair (n : Nat) (xs : List D) (r : D) (hx : okD (.list [.tuple [.tuple xs, r]]) = true) (hr : ∀ ys, r = .tuple ys → ys.length ≤ LIM) (h : ¬ (1 ≤ xs.length ∧ xs.length ≤ 3) ∨ (isBag (.tuple xs) xs.length 4 && isBag r xs.length 4 && !PyData.eqv (.tuple xs) r) = false) : runF T (n + 3) n_check_rules [.list [.tuple [.tuple xs, r]]] = some (.exc 0 [none]) := by
  rw [run_def at_check_rules rfl]
  have hp := okD_plain hx
  have hL : LIM = 1000000 := rfl
  have o1 := okD_items (.inl hx) (.tuple [.tuple xs, r]) (by simp)
  have o2 := okD_items (xs := [.tuple xs, r]) (.inr (okD_iff'.mpr ⟨o1.1, by omega⟩))
  have ol : okD (.tuple xs) = true := okD_iff'.mpr ⟨(o2 _ (by simp)).1, by have := (o2 (.tuple xs) (by simp)).2; omega⟩
  have orr : okD r = true := okD_iff'.mpr ⟨(o2 _ (by simp)).1, by have := (o2 r (by simp)).2; omega⟩
  have V := is_tuple_ok (n + 1) (.tuple [.tuple xs, r]) 2 o1.1
  have W1 := fun hl => is_bag_of_ok n (.tuple xs) xs.length 4 ol hl
  have W2 := is_bag_of_ok n r xs.length 4 orr hr
  generalize runF T (n + 2) = Φ at V W1 W2 ⊢
  have hc : cRun .seq (.nm 4) [4] (condT (.not (.call n_is_tuple [.var 4, .con (.int 2)])) (ev ⟨Φ, T.md⟩ (.not (.call n_is_tuple [.var 4, .con (.int 2)])))) (ev ⟨Φ, T.md⟩ (.var 4)).P [.fz (.list [.tuple [.tuple xs, r]])] [.fz (.list [.tuple [.tuple xs, r]]), .no, .no, .no, .no] =
      .ok (.fresh (.list [])) [.fz (.list [.tuple [.tuple xs, r]]), .no, .no, .no, .no] := by
    rw [cRun_seq (xs := [.tuple [.tuple xs, r]]) (fun d => none) (by rfl) (by simp [hL]) (by rfl) (by rfl) fun y hy => ?_]
    · simp [wipeR, giveBack]
    · rw [List.mem_singleton.mp hy]
      simp [cTurn_eq, wipeR, setS_free, callF_d, okSlots_d, V]
  have a0 : L2.atI [PyData.tuple [.tuple xs, r]] 0 = some (.tuple [.tuple xs, r]) := rfl
  have pl := okD_plain ol
  by_cases h1 : 1 ≤ (xs.length : Int)
  · by_cases h3 : (xs.length : Int) ≤ 3
    · have h : (isBag (.tuple xs) xs.length 4 && isBag r xs.length 4 && !PyData.eqv (.tuple xs) r) = false := by
        rcases h with h | h
        · omega
        · exact h
      have W1 := W1 fun ys e => by
        cases e
        omega
      have ce : cmpD .eq (.tuple xs) r = some (PyData.eqv (.tuple xs) r) := by simp [cmpD, ol, orr]
      generalize isBag (.tuple xs) xs.length 4 = k1 at W1 h
      generalize isBag r xs.length 4 = k2 at W2 h
      generalize PyData.eqv (.tuple xs) r = k3 at ce h
      cases k1 <;> cases k2 <;> cases k3 <;> first | exact absurd h (by decide) | simp [fd_check_rules, startR, exs_sq, hp, PyData.isList, hc, a0, atI_two0, h1, h3, PyData.isTuple, pl, setS_free, fRun_seq (seqD_list _), fLoop_lq, turnOf_d, callF_d, okSlots_d, W1, W2, ce]
    · simp [fd_check_rules, startR, exs_sq, hp, PyData.isList, hc, a0, atI_two0, h1, h3, PyData.isTuple, pl]
  · simp [fd_check_rules, startR, exs_sq, hp, PyData.isList, hc, a0, atI_two0, h1, PyData.isTuple, pl]
end K40
end

section
set_option Elab.async false
set_option linter.all false
set_option maxRecDepth 100000
set_option autoImplicit false
namespace K40
open PySem hiding exec execs settle finish
open PySem.W DL
theorem check_bag_exc (n : Nat) (d b : D) (hr : runF T (n + 3) n_check_rules [d] = some (.exc 0 [none])) : runF T (n + 4) n_check_bag [d, b] = some (.exc 0 [none, none]) := by
  rw [run_def at_check_bag rfl]
  generalize runF T (n + 3) = Φ at hr ⊢
  simp [fd_check_bag, startR, exs_sq, callF_d, okSlots_d, hr]
theorem check_bag_st (n k : Nat) (rs : List Rule) (h : RulesOk k rs) (d : D) (hd : okD d = true) (hl : ∀ xs, d = .tuple xs → xs.length ≤ LIM) (hb : isBag d k 60 = false) : runF T (n + 4) n_check_bag [.list (rls rs), d] = some (.exc 1 [none, none]) := by
  rw [run_def at_check_bag rfl]
  have h3 := h.k3
  have w := check_rules_ok n k rs h
  have v := is_bag_of_ok (n + 1) d k 60 hd hl
  rw [hb] at v
  generalize runF T (n + 3) = Φ at w v ⊢
  obtain ⟨r0, rs', rfl⟩ : ∃ r0 rs', rs = r0 :: rs' := by
    cases rs with
    | nil =>
      have := h.n1
      simp at this
    | cons r0 rs' => exact ⟨_, _, rfl⟩
  have k0 := (h.kinds r0 List.mem_cons_self).1
  have c1 : L2.atI (rls (r0 :: rs')) 0 = some (rl r0) := at_rls (rs := r0 :: rs') (i := 0) (by simp)
  have e1 : (rl r0) = .tuple [bg r0.1, bg r0.2] := rfl
  have e2 : (bg r0.1) = .tuple (r0.1.map PyData.int) := rfl
  simp [fd_check_bag, startR, exs_sq, callF_d, okSlots_d, w, c1, e1, atI_two0, e2, k0, v]
theorem exchanges_exc (n c : Nat) (d b : D) (hr : runF T (n + 4) n_check_bag [d, b] = some (.exc c [none, none])) : runF T (n + 5) n_exchanges [d, b] = some (.exc c [none, none]) := by
  rw [run_def at_exchanges rfl]
  generalize runF T (n + 4) = Φ at hr ⊢
  simp [fd_exchanges, startR, exs_sq, callF_d, okSlots_d, hr]
theorem is_chain_exc (n : Nat) (d b : D) (hr : runF T (n + 4) n_check_rules [d] = some (.exc 0 [none])) : runF T (n + 5) n_is_chain [d, b] = some (.exc 0 [none, none]) := by
  rw [run_def at_is_chain rfl]
  generalize runF T (n + 4) = Φ at hr ⊢
  simp [fd_is_chain, startR, exs_sq, callF_d, okSlots_d, hr]
theorem shortest_exc (n c : Nat) (d b g m : D) (hr : runF T (n + 4) n_check_bag [d, b] = some (.exc c [none, none])) : runF T (n + 5) n_shortest_chain [d, b, g, m] = some (.exc c [none, none, none, none]) := by
  rw [run_def at_shortest_chain rfl]
  generalize runF T (n + 4) = Φ at hr ⊢
  simp [fd_shortest_chain, startR, exs_sq, callF_d, okSlots_d, hr]
theorem shortest_exc2 (n c : Nat) (d b g m : D) (hr0 : runF T (n + 4) n_check_bag [d, b] = some (.ret false .none [none, none])) (hr : runF T (n + 4) n_check_bag [d, g] = some (.exc c [none, none])) : runF T (n + 5) n_shortest_chain [d, b, g, m] = some (.exc c [none, none, none, none]) := by
  rw [run_def at_shortest_chain rfl]
  generalize runF T (n + 4) = Φ at hr hr0 ⊢
  simp [fd_shortest_chain, startR, exs_sq, callF_d, okSlots_d, hr0, hr]
theorem shortest_exc3 (n c : Nat) (d b g m : D) (hr0 : runF T (n + 4) n_check_bag [d, b] = some (.ret false .none [none, none])) (hr1 : runF T (n + 4) n_check_bag [d, g] = some (.ret false .none [none, none])) (hr : runF T (n + 4) n_check_sum [m] = some (.exc c [none])) : runF T (n + 5) n_shortest_chain [d, b, g, m] = some (.exc c [none, none, none, none]) := by
  rw [run_def at_shortest_chain rfl]
  generalize runF T (n + 4) = Φ at hr hr0 hr1 ⊢
  simp [fd_shortest_chain, startR, exs_sq, callF_d, okSlots_d, hr0, hr1, hr]
theorem check_sum_exc (n : Nat) (d : D) (hd : d.plain = true) (hi : inB 0 30 d = false) : runF T (n + 2) n_check_sum [d] = some (.exc 2 [none]) := by
  rw [run_def at_check_sum rfl]
  have w := is_within_ok n d 0 30 hd
  rw [hi] at w
  generalize runF T (n + 1) = Φ at w ⊢
  simp [fd_check_sum, startR, exs_sq, callF_d, okSlots_d, w]
def sEx : D := .str (PySem.Str.ofString "exchanges")
def sIs : D := .str (PySem.Str.ofString "is")
def sCh : D := .str (PySem.Str.ofString "chain")
def sProg : D := .str (PySem.Str.ofString "program")
def sStand : D := .str (PySem.Str.ofString "standing")
def sArg : D := .str (PySem.Str.ofString "argument")
theorem q1 : cmpD .eq sEx sEx = some true := by decide +kernel
theorem q2 : cmpD .eq sIs sEx = some false := by decide +kernel
theorem q3 : cmpD .eq sIs sIs = some true := by decide +kernel
theorem q4 : cmpD .eq sCh sEx = some false := by decide +kernel
theorem q5 : cmpD .eq sCh sIs = some false := by decide +kernel
def nmE : Nat → D
  | 0 => sProg
  | 1 => sStand
  | _ => sArg
theorem T_sub : T.sub = subX := rfl
theorem picked (c : Nat) (hc : c < 3) (ρ : Rho) (x : Env0) : caught subX [2, 0, 1] [execs x [.ret (.con sArg)], execs x [.ret (.con sProg)], execs x [.ret (.con sStand)]] (.exc c ρ) = .ok (.ret false (nmE c)) ρ := by
  have h2 : ∀ d : D, execs x [.ret (.con d)] ρ = .ok (.ret false d) ρ := fun d => by
    rw [exs_one]
    simp [retO]
  match c, hc with
  | 0, _ =>
    show noexc (execs x [.ret (.con sProg)] ρ) = _
    rw [h2]
    rfl
  | 1, _ =>
    show noexc (execs x [.ret (.con sStand)] ρ) = _
    rw [h2]
    rfl
  | 2, _ =>
    show noexc (execs x [.ret (.con sArg)] ρ) = _
    rw [h2]
    rfl
theorem exb {x : Env0} (ss : List S) : exec x (.blk ss) = execs x ss := funext fun ρ => ex_blk x ρ ss
def tryB : List S := [.ifS (.cmp .eq (.var 0) (.con sEx)) [.expr (.call n_exchanges [.var 1, .var 2])] [.ifS (.cmp .eq (.var 0) (.con sIs)) [.expr (.call n_is_chain [.var 1, .lst [.var 2]])] [.expr (.call n_shortest_chain [.var 1, .var 2, .var 3, .var 4])]]]
theorem law_error_go (n c : Nat) (hc : c < 3) (ds : List D) (hl : ds.length = 5) (he : execs ⟨⟨runF T n, T.md⟩, T.sub⟩ tryB (startR fd__law_error ds) = .exc c (startR fd__law_error ds)) : runF T (n + 1) n__law_error ds = some (.ret false (nmE c) [none, none, none, none, none]) := by
  rw [run_def at__law_error hl]
  generalize runF T n = Φ at he ⊢
  have p := picked c hc (startR fd__law_error ds) ⟨⟨Φ, T.md⟩, T.sub⟩
  show finish _ (execs _ [.tryS tryB [2, 0, 1] [.blk [.ret (.con sArg)], .blk [.ret (.con sProg)], .blk [.ret (.con sStand)]], .ret (.con .none)] (startR fd__law_error ds)) = _
  rw [exs_sq, ex_try, he, T_sub]
  simp only [exh_cons, exh_nil, exb]
  rw [T_sub] at p
  rw [p, sq_ret]
  obtain ⟨a, b, c', d, e, rfl⟩ : ∃ a b c d e, ds = [a, b, c, d, e] := by
    match ds, hl with
    | [a, b, c, d, e], _ => exact ⟨a, b, c, d, e, rfl⟩
  rfl
theorem law_error_ex (n c : Nat) (hc : c < 3) (d one two three : D) (hr : runF T n n_exchanges [d, one] = some (.exc c [none, none])) : runF T (n + 1) n__law_error [sEx, d, one, two, three] = some (.ret false (nmE c) [none, none, none, none, none]) := by
  refine law_error_go n c hc _ rfl ?_
  generalize runF T n = Φ at hr ⊢
  simp [tryB, fd__law_error, startR, exs_sq, q1, callF_d, okSlots_d, hr]
theorem law_error_is (n c : Nat) (hc : c < 3) (d one two three : D) (hr : runF T n n_is_chain [d, .list [one]] = some (.exc c [none, none])) : runF T (n + 1) n__law_error [sIs, d, one, two, three] = some (.ret false (nmE c) [none, none, none, none, none]) := by
  refine law_error_go n c hc _ rfl ?_
  have hL : LIM = 1000000 := rfl
  generalize runF T n = Φ at hr ⊢
  simp [tryB, fd__law_error, startR, exs_sq, q2, q3, callF_d, okSlots_d, hL, hr]
theorem law_error_ch (n c : Nat) (hc : c < 3) (d one two three : D) (hr : runF T n n_shortest_chain [d, one, two, three] = some (.exc c [none, none, none, none])) : runF T (n + 1) n__law_error [sCh, d, one, two, three] = some (.ret false (nmE c) [none, none, none, none, none]) := by
  refine law_error_go n c hc _ rfl ?_
  generalize runF T n = Φ at hr ⊢
  simp [tryB, fd__law_error, startR, exs_sq, q4, q5, callF_d, okSlots_d, hr]
/-- what is not a chain -/
theorem is_chain_no (n k : Nat) (rs : List Rule) (h : RulesOk k rs) (v : D) (hv : v.plain = true) (hn : v.isList = false ∨ v = .list []) : runF T (n + 4) n_is_chain [.list (rls rs), v] = some (.ret false (.bool false) [none, none]) := by
  rw [run_def at_is_chain rfl]
  have R := check_rules_ok n k rs h
  generalize runF T (n + 3) = Φ at R ⊢
  rcases hn with hn | rfl
  · simp [fd_is_chain, startR, exs_sq, callF_d, okSlots_d, R, hv, hn]
  · simp [fd_is_chain, startR, exs_sq, callF_d, okSlots_d, R, PyData.plain, PyData.plainAll, PyData.isList]
theorem is_chain_st (n k : Nat) (rs : List Rule) (h : RulesOk k rs) (d : D) (hd : okD d = true) (hdd : d.depth ≤ 39) (hl : ∀ xs, d = .tuple xs → xs.length ≤ LIM) (hb : isBag d k 60 = false) : runF T (n + 4) n_is_chain [.list (rls rs), .list [d]] = some (.ret false (.bool false) [none, none]) := by
  rw [run_def at_is_chain rfl]
  have R := check_rules_ok n k rs h
  have v := is_bag_of_ok (n + 1) d k 60 hd hl
  rw [hb] at v
  generalize runF T (n + 3) = Φ at R v ⊢
  obtain ⟨r0, rs', rfl⟩ : ∃ r0 rs', rs = r0 :: rs' := by
    cases rs with
    | nil =>
      have := h.n1
      simp at this
    | cons r0 rs' => exact ⟨_, _, rfl⟩
  have k0 := (h.kinds r0 List.mem_cons_self).1
  have c1 : L2.atI (rls (r0 :: rs')) 0 = some (rl r0) := at_rls (rs := r0 :: rs') (i := 0) (by simp)
  have e1 : (rl r0) = .tuple [bg r0.1, bg r0.2] := rfl
  have e2 : (bg r0.1) = .tuple (r0.1.map PyData.int) := rfl
  have hL : LIM = 1000000 := rfl
  have pl : PyData.plain (.list [d]) = true := by
    have := okD_plain hd
    simp [PyData.plain, PyData.plainAll, this]
  generalize rls (r0 :: rs') = rd at *
  have hcomp : cRun .seq (.nm 3) [3] (condT (.not (.call n_is_bag_of [.var 3, .bi .len [.sub (.sub (.var 0) (.con (.int 0))) (.con (.int 0))], .con (.int 60)])) (ev ⟨Φ, T.md⟩ (.not (.call n_is_bag_of [.var 3, .bi .len [.sub (.sub (.var 0) (.con (.int 0))) (.con (.int 0))], .con (.int 60)])))) (ev ⟨Φ, T.md⟩ (.var 3)).P [.fz (.list [d])] [.fz (.list rd), .fz (.list [d]), .no, .no] =
      .ok (.fresh (.list [d])) [.fz (.list rd), .fz (.list [d]), .no, .no] := by
    rw [cRun_seq (xs := [d]) (fun d => some d) (by rfl) (by simp [hL]) (by rfl) (by rfl) fun x hx => ?_]
    · simp [wipeR, giveBack]
    · rw [List.mem_singleton.mp hx]
      simp [cTurn_eq, wipeR, setS_free, callF_d, okSlots_d, c1, e1, atI_two0, e2, k0, v]
  simp [fd_is_chain, startR, exs_sq, callF_d, okSlots_d, R, pl, PyData.isList, hcomp]
end K40
end

section
set_option Elab.async false
set_option linter.all false
set_option maxRecDepth 100000
set_option autoImplicit false
namespace K40
open PySem hiding exec execs settle finish
open PySem.W DL
/-- what the callees of law promise -/
structure FxL (Φ : Nat → List D → Option FR) (nums : List Int) : Prop where
  draw : ∀ a : Nat, ∃ v : Int, Φ n__law_draw [drw nums a] = some (.ret false (.int v) [some (drw nums (a + 1))]) ∧ 0 ≤ v ∧ v < 1000000
  rules : ∀ k many a : Nat, 1 ≤ k → k ≤ 3 → 1 ≤ many → many ≤ 4 → ∃ rs a', Φ n__law_rules [drw nums a, .int k, .int 4, .int many] = some (.ret true (.list (rls rs)) [some (drw nums a'), none, none, none]) ∧ RulesOk k rs
  exch : ∀ (k : Nat) (rs : List Rule) (b : List Int), RulesOk k rs → b.length = k → partsIn 60 b = true → Φ n_exchanges [.list (rls rs), bg b] = some (.ret true (.list ((excs rs b).map exD)) [none, none])
  lexch : ∀ (k : Nat) (rs : List Rule) (b : List Int), RulesOk k rs → b.length = k → Φ n__law_exchanges [.list (rls rs), bg b] = some (.ret true (.list ((excs rs b).map exD)) [none, none])
  eqE : ∀ (k : Nat) (rs : List Rule) (b : List Int), RulesOk k rs → b.length = k → Φ n__law_equal [.list ((excs rs b).map exD), .list ((excs rs b).map exD)] = some (.ret false (.bool true) [none, none])
  eqB : ∀ b : Bool, Φ n__law_equal [.bool b, .bool b] = some (.ret false (.bool true) [none, none])
  walked : ∀ (k : Nat) (rs : List Rule) (b : List Int) (steps a : Nat), RulesOk k rs → b.length = k → partsIn 60 b = true → steps ≤ 10 → ∃ ch a', Φ n__law_walked [drw nums a, .list (rls rs), bg b, .int steps] = some (.ret true (.list (ch.map bg)) [some (drw nums a'), none, none, none]) ∧ Walk k rs b ch ∧ ch.length ≤ steps + 1
  chain : ∀ (k : Nat) (rs : List Rule) (ch : List (List Int)), RulesOk k rs → ch ≠ [] → ch.length ≤ 100 → (∀ c ∈ ch, c.length = k ∧ partsIn 60 c = true) → Φ n_is_chain [.list (rls rs), .list (ch.map bg)] = some (.ret false (.bool (chainB rs ch)) [none, none])
  lchain : ∀ (k : Nat) (rs : List Rule) (ch : List (List Int)), RulesOk k rs → ch ≠ [] → ch.length ≤ 100 → (∀ c ∈ ch, c.length = k ∧ partsIn 60 c = true) → Φ n__law_is_chain [.list (rls rs), .list (ch.map bg)] = some (.ret false (.bool (chainB rs ch)) [none, none])
  short : ∀ (k : Nat) (rs : List Rule) (b g : List Int) (m : Nat), RulesOk k rs → b.length = k → partsIn 60 b = true → g.length = k → partsIn 60 g = true → m ≤ 30 → ∃ fr fr' d, Φ n_shortest_chain [.list (rls rs), bg b, bg g, .int m] = some (.ret fr d [none, none, none, none]) ∧ Φ n__law_shortest [.list (rls rs), bg b, bg g, .int m] = some (.ret fr' d [none, none, none, none]) ∧ Φ n__law_equal [d, d] = some (.ret false (.bool true) [none, none])
section
variable (scr : D) (nums : List Int)
def rL (a : Nat) (s2 s3 s4 s5 s6 s7 s8 s9 s10 s11 s17 : Sl) : Rho := [.fz scr, .ow (drw nums a), s2, s3, s4, s5, s6, s7, s8, s9, s10, s11, .no, .no, .no, .no, .no, s17]
variable {scr nums} {Φ : Nat → List D → Option FR} (F : FxL Φ nums)
include F
theorem dr_mod (a : Nat) (q : Int) (hq : 0 < q) : ∃ j : Nat, (j : Int) < q ∧ ∀ s2 s3 s4 s5 s6 s7 s8 s9 s10 s11 s17, (ev ⟨Φ, T.md⟩ (.bin .mod (.call n__law_draw [.var 1]) (.con (.int q)))).P (rL scr nums a s2 s3 s4 s5 s6 s7 s8 s9 s10 s11 s17) = .ok (.fz (.int (j : Int))) (rL scr nums (a + 1) s2 s3 s4 s5 s6 s7 s8 s9 s10 s11 s17) := by
  obtain ⟨v, w, v0, v1⟩ := F.draw a
  have f := fmod_in v hq
  obtain ⟨j, hj⟩ : ∃ j : Nat, v.fmod q = (j : Int) := ⟨(v.fmod q).toNat, by omega⟩
  have hq0 : q ≠ 0 := by omega
  refine ⟨j, by omega, fun s2 s3 s4 s5 s6 s7 s8 s9 s10 s11 s17 => ?_⟩
  unfold rL
  simp [callF_d, okSlots_d, w, hq0, hj]
/-- a list of two numbers, one of them drawn -/
theorem dr_two (a : Nat) (p q : Int) (hp : 0 < p) (hpq : p ≤ q) : ∃ j : Nat, (j : Int) < q ∧ ∀ s2 s3 s4 s5 s6 s7 s8 s9 s10 s11 s17, (ev ⟨Φ, T.md⟩ (.bin .mod (.call n__law_draw [.var 1]) (.sub (.lst [.con (.int p), .con (.int q)]) (.bin .mod (.call n__law_draw [.var 1]) (.con (.int 2)))))).P (rL scr nums a s2 s3 s4 s5 s6 s7 s8 s9 s10 s11 s17) = .ok (.fz (.int (j : Int))) (rL scr nums (a + 2) s2 s3 s4 s5 s6 s7 s8 s9 s10 s11 s17) := by
  obtain ⟨v, w, v0, v1⟩ := F.draw a
  obtain ⟨j1, h1, d1⟩ := dr_mod (scr := scr) F (a + 1) 2 (by omega)
  have hL : LIM = 1000000 := rfl
  have : j1 = 0 ∨ j1 = 1 := by omega
  rcases this with e | e
  · subst e
    have f := fmod_in v (b := p) (by omega)
    obtain ⟨j, hj⟩ : ∃ j : Nat, v.fmod p = (j : Int) := ⟨(v.fmod p).toNat, by omega⟩
    have hq0 : p ≠ 0 := by omega
    refine ⟨j, by omega, fun s2 s3 s4 s5 s6 s7 s8 s9 s10 s11 s17 => ?_⟩
    have d1 := d1 s2 s3 s4 s5 s6 s7 s8 s9 s10 s11 s17
    generalize he : E.bin .mod (.call n__law_draw [.var 1]) (.con (.int 2)) = el at d1 ⊢
    unfold rL at *
    simp [callF_d, okSlots_d, w, hL, d1, atI_two0, hq0, hj]
  · subst e
    have f := fmod_in v (b := q) (by omega)
    obtain ⟨j, hj⟩ : ∃ j : Nat, v.fmod q = (j : Int) := ⟨(v.fmod q).toNat, by omega⟩
    have hq0 : q ≠ 0 := by omega
    refine ⟨j, by omega, fun s2 s3 s4 s5 s6 s7 s8 s9 s10 s11 s17 => ?_⟩
    have d1 := d1 s2 s3 s4 s5 s6 s7 s8 s9 s10 s11 s17
    generalize he : E.bin .mod (.call n__law_draw [.var 1]) (.con (.int 2)) = el at d1 ⊢
    unfold rL at *
    simp [callF_d, okSlots_d, w, hL, d1, atI_two1, hq0, hj]
omit F in
/-- a bag of drawn numbers -/
theorem dr_bag (el : E) (m st : Nat) (hel : ∀ a, ∃ j : Nat, j ≤ m ∧ ∀ s2 s3 s4 s5 s6 s7 s8 s9 s10 s11 s17, (ev ⟨Φ, T.md⟩ el).P (rL scr nums a s2 s3 s4 s5 s6 s7 s8 s9 s10 s11 s17) = .ok (.fz (.int (j : Int))) (rL scr nums (a + st) s2 s3 s4 s5 s6 s7 s8 s9 s10 s11 s17)) (k a : Nat) (hk : k ≤ 3) (s2 s4 s5 s6 s7 s8 s9 s10 s11 s17 : Sl) (h7 : idlS s7 = true) :
    ∃ (b : List Int) (a' : Nat), b.length = k ∧ partsIn m b = true ∧ (ev ⟨Φ, T.md⟩ (.bi .tup [.comp .rng1 [.var 3] (.nm 7) [7] (.nop) el])).P (rL scr nums a s2 (.fz (.int k)) s4 s5 s6 s7 s8 s9 s10 s11 s17) = .ok (.fz (bg b)) (rL scr nums a' s2 (.fz (.int k)) s4 s5 s6 s7 s8 s9 s10 s11 s17) := by
  have loop := cLoop_ind (turn := cTurn (.nm 7) [7] (condT .nop (ev ⟨Φ, T.md⟩ .nop)) (ev ⟨Φ, T.md⟩ el).P) (xs := (List.range k).map fun (i : Nat) => PyData.int (i : Int))
    (ρ := rL scr nums a s2 (.fz (.int k)) s4 s5 s6 .no s8 s9 s10 s11 s17)
    (fun i acc ρ => ∃ (b : List Int) (a' : Nat), b.length = i ∧ partsIn m b = true ∧ acc = b.map .int ∧ ρ = rL scr nums a' s2 (.fz (.int k)) s4 s5 s6 .no s8 s9 s10 s11 s17) ⟨[], a, rfl, rfl, rfl, rfl⟩ (fun i hi acc ρ ⟨b, a', g1, g2, g3, e⟩ => ?_)
  · obtain ⟨acc, ρ', l1, b, a', g1, g2, g3, e⟩ := loop
    subst e g3
    rw [List.length_map, List.length_range] at g1
    refine ⟨b, a', g1, g2, ?_⟩
    have hid : idle (rL scr nums a s2 (.fz (.int k)) s4 s5 s6 s7 s8 s9 s10 s11 s17) [7] = true := idle_iff fun v hv => by
      rw [List.mem_singleton.mp hv]
      exact congrArg some h7
    have hc : cRun .rng1 (.nm 7) [7] (condT .nop (ev ⟨Φ, T.md⟩ .nop)) (ev ⟨Φ, T.md⟩ el).P [.fz (.int k)] (rL scr nums a s2 (.fz (.int k)) s4 s5 s6 s7 s8 s9 s10 s11 s17) = .ok (.fresh (.list (b.map .int))) (rL scr nums a' s2 (.fz (.int k)) s4 s5 s6 s7 s8 s9 s10 s11 s17) := by
      rw [cRun_of (items_rng1 _ (by unfold LIM; omega)) rfl rfl hid rfl (by rw [List.length_map, List.length_range]; unfold LIM; omega) l1]
      rfl
    have v3 : (ev ⟨Φ, T.md⟩ (.var 3)).P (rL scr nums a s2 (.fz (.int k)) s4 s5 s6 s7 s8 s9 s10 s11 s17) = .ok (.fz (.int k)) (rL scr nums a s2 (.fz (.int k)) s4 s5 s6 s7 s8 s9 s10 s11 s17) := by
      unfold rL
      simp
    simp only [ev_bi, evA_cons, evA_nil, ev_comp, v3, bw_ok, settle_fz, hc, bg]
    simp
  · subst e g3
    obtain ⟨j, j1, je⟩ := hel a'
    refine ⟨some (.int j), rL scr nums (a' + st) s2 (.fz (.int k)) s4 s5 s6 .no s8 s9 s10 s11 s17, ?_, b ++ [(j : Int)], a' + st, by simp [g1], ?_, by simp, rfl⟩
    · simp only [List.getElem_map, List.getElem_range]
      rw [cTurn_eq, bindT_nm, setS_free (by rfl), bw_ok, condT_nop, bw_ok, if_pos rfl]
      show bw ((ev ⟨Φ, T.md⟩ el).P (rL scr nums a' s2 (.fz (.int k)) s4 s5 s6 (.fz (.int i)) s8 s9 s10 s11 s17)) _ _ = _
      rw [je]
      rfl
    · unfold partsIn at g2 ⊢
      rw [List.all_append, g2]
      simp
      omega
end
end K40
end

section
set_option Elab.async false
set_option linter.all false
set_option maxRecDepth 100000
set_option autoImplicit false
namespace K40
open PySem hiding exec execs settle finish
open PySem.W DL
def t1 : S := .asg (.nm 3) (.bin .add (.con (.int 1)) (.bin .mod (.call n__law_draw [.var 1]) (.con (.int 3))))
def t2 : S := .asg (.nm 4) (.call n__law_rules [.var 1, .var 3, .con (.int 4), .bin .add (.con (.int 1)) (.bin .mod (.call n__law_draw [.var 1]) (.con (.int 4)))])
def t3 : S := .asg (.nm 5) (.bi .tup [.comp .rng1 [.var 3] (.nm 7) [7] (.nop) (.bin .mod (.call n__law_draw [.var 1]) (.sub (.lst [.con (.int 5), .con (.int 61)]) (.bin .mod (.call n__law_draw [.var 1]) (.con (.int 2)))))])
def t4 : S := .ifS (.not (.call n__law_equal [.call n_exchanges [.bi .lst [.var 4], .var 5], .call n__law_exchanges [.var 4, .var 5]])) [.ret (.con (.bool false))] []
def t5 : S := .asg (.nm 6) (.call n__law_walked [.var 1, .var 4, .var 5, .bin .mod (.call n__law_draw [.var 1]) (.con (.int 8))])
def t6 : S := .ifS (.not (.call n__law_equal [.call n_is_chain [.bi .lst [.var 4], .bi .lst [.var 6]], .con (.bool true)])) [.ret (.con (.bool false))] []
def t7 : S := .asg (.nm 7) (.bin .mod (.call n__law_draw [.var 1]) (.bi .len [.var 6]))
def t8 : S := .asg (.nm 8) (.bin .add (.bin .add (.slice (.var 6) (.nop) (.var 7)) (.lst [.bi .tup [.comp .seq [.sub (.var 6) (.var 7)] (.nm 17) [17] (.nop) (.bin .mod (.bin .add (.var 17) (.bin .mod (.call n__law_draw [.var 1]) (.con (.int 2)))) (.con (.int 61)))]])) (.slice (.var 6) (.bin .add (.var 7) (.con (.int 1))) (.nop)))
def t9 : S := .ifS (.not (.call n__law_equal [.call n_is_chain [.bi .lst [.var 4], .var 8], .call n__law_is_chain [.var 4, .var 8]])) [.ret (.con (.bool false))] []
def t10 : S := .asg (.nm 9) (.bin .mod (.call n__law_draw [.var 1]) (.sub (.lst [.con (.int 8), .con (.int 15)]) (.bin .mod (.call n__law_draw [.var 1]) (.con (.int 2)))))
def t11 : S := .asg (.nm 5) (.bi .tup [.comp .rng1 [.var 3] (.nm 7) [7] (.nop) (.bin .mod (.call n__law_draw [.var 1]) (.con (.int 5)))])
def t12 : S := .asg (.nm 10) (.call n__law_walked [.var 1, .var 4, .var 5, .bin .mod (.call n__law_draw [.var 1]) (.con (.int 6))])
def t13 : S := .asg (.nm 11) (.sub (.var 10) (.bin .sub (.bi .len [.var 10]) (.con (.int 1))))
def t14 : S := .ifS (.cmp .eq (.bin .mod (.call n__law_draw [.var 1]) (.con (.int 4))) (.con (.int 0))) [.asg (.nm 11) (.bi .tup [.comp .rng1 [.var 3] (.nm 7) [7] (.nop) (.bin .mod (.call n__law_draw [.var 1]) (.con (.int 5)))])] []
def t15 : S := .ifS (.not (.call n__law_equal [.call n_shortest_chain [.bi .lst [.var 4], .var 5, .var 11, .var 9], .call n__law_shortest [.var 4, .var 5, .var 11, .var 9]])) [.ret (.con (.bool false))] []
def tb : List S := [t1, t2, t3, t4, t5, t6, t7, t8, t9, t10, t11, t12, t13, t14, t15]
def l0 : S := .asg (.nm 1) (.lst [.call n__law_numbers [.var 0], .con (.int 0)])
def l2 : S := .asg (.nm 12) (.lst [.tup [.tup [.con (.int 1), .con (.int 0)], .tup [.con (.int 0), .con (.int 1)]]])
def l3 : S := .asg (.nm 13) (.lst [.con .none, .lst [], .lst [.tup [.tup [.con (.int 1)], .tup [.con (.int 0), .con (.int 1)]]], .lst [.tup [.tup [.con (.int 1), .con (.int 0)], .tup [.con (.int 1), .con (.int 0)]]], .lst [.tup [.tup [.con (.int 5), .con (.int 0)], .tup [.con (.int 0), .con (.int 1)]]], .lst [.tup [.tup [.con (.int 1), .con (.int 0)]]], .lst [.lst [.tup [.con (.int 1), .con (.int 0)], .tup [.con (.int 0), .con (.int 1)]]], .lst [.tup [.tup [.neg (.con (.int 1)), .con (.int 0)], .tup [.con (.int 0), .con (.int 1)]]], .bin .mul (.var 12) (.con (.int 5)), .lst [.tup [.tup [.con (.bool true), .con (.int 0)], .tup [.con (.int 0), .con (.int 1)]]], .lst [.tup [.tup [.con (.int 1), .con (.int 0), .con (.int 0), .con (.int 0)], .tup [.con (.int 0), .con (.int 0), .con (.int 0), .con (.int 1)]]], .lst [.tup [.tup [], .tup []]], .tup [.sub (.var 12) (.con (.int 0))]])
def l4 : S := .asg (.nm 14) (.sub (.var 13) (.bin .mod (.call n__law_draw [.var 1]) (.bi .len [.var 13])))
def l5 : S := .asg (.nm 15) (.sub (.lst [.con .none, .tup [.con (.int 1)], .tup [.con (.int 61), .con (.int 0)], .tup [.neg (.con (.int 1)), .con (.int 0)], .tup [.con (.bool true), .con (.int 0)], .lst [.con (.int 1), .con (.int 0)], .tup [.con (.int 1), .con (.int 0), .con (.int 0)], .tup [.con (.str (PySem.Str.ofString "1")), .con (.int 0)]]) (.bin .mod (.call n__law_draw [.var 1]) (.con (.int 8))))
def l6 : S := .forS .seq [.lst [.con (.str (PySem.Str.ofString "exchanges")), .con (.str (PySem.Str.ofString "is")), .con (.str (PySem.Str.ofString "chain"))]] (.nm 16) [.ifS (.cmp .ne (.call n__law_error [.var 16, .var 14, .tup [.con (.int 1), .con (.int 0)], .tup [.con (.int 0), .con (.int 1)], .con (.int 5)]) (.con (.str (PySem.Str.ofString "program")))) [.ret (.con (.bool false))] [], .ifS (.and (.cmp .ne (.var 16) (.con (.str (PySem.Str.ofString "is")))) (.cmp .ne (.call n__law_error [.var 16, .var 12, .var 15, .tup [.con (.int 0), .con (.int 1)], .con (.int 5)]) (.con (.str (PySem.Str.ofString "standing"))))) [.ret (.con (.bool false))] []]
def l7 : S := .ifS (.or (.not (.call n__law_equal [.call n_is_chain [.var 12, .lst [.var 15]], .con (.bool false)])) (.not (.call n__law_equal [.call n_is_chain [.var 12, .sub (.lst [.con .none, .lst [], .tup [.tup [.con (.int 1), .con (.int 0)]]]) (.bin .mod (.call n__law_draw [.var 1]) (.con (.int 3)))], .con (.bool false)]))) [.ret (.con (.bool false))] []
def l8 : S := .ifS (.cmp .ne (.call n__law_error [.con (.str (PySem.Str.ofString "chain")), .var 12, .tup [.con (.int 1), .con (.int 0)], .var 15, .con (.int 5)]) (.con (.str (PySem.Str.ofString "standing")))) [.ret (.con (.bool false))] []
def l9 : S := .ret (.cmp .eq (.call n__law_error [.con (.str (PySem.Str.ofString "chain")), .var 12, .tup [.con (.int 1), .con (.int 0)], .tup [.con (.int 0), .con (.int 1)], .sub (.lst [.neg (.con (.int 1)), .con (.int 31), .con (.bool true), .con .none]) (.bin .mod (.call n__law_draw [.var 1]) (.con (.int 4)))]) (.con (.str (PySem.Str.ofString "argument"))))
def l1 : S := .forS .rng1 [.con (.int 3)] (.nm 2) tb
theorem law_body : fd_law.body = [l0, l1, l2, l3, l4, l5, l6, l7, l8, l9] := rfl
end K40
end

section
set_option Elab.async false
set_option linter.all false
set_option maxRecDepth 100000
set_option autoImplicit false
namespace K40
open PySem hiding exec execs settle finish
open PySem.W DL
@[simp] theorem afterC_nil (fl : Bool) (ρ : Rho) : afterC fl [] ρ = some ρ := by cases fl <;> rfl
theorem walk_chain {k : Nat} {rs : List Rule} {b : List Int} {ch : List (List Int)} (w : Walk k rs b ch) : chainB rs ch = true := by
  unfold chainB
  rw [List.all_eq_true]
  intro i hi
  have hi := List.mem_range.mp hi
  have h1 : i + 1 < ch.length := by omega
  have := w.step i h1
  rw [List.getD_eq_getElem?_getD, List.getD_eq_getElem?_getD, List.getElem?_eq_getElem h1, List.getElem?_eq_getElem (Nat.lt_of_succ_lt h1)]
  simpa using this
theorem sl_to (xs : List D) (j : Nat) : sliceD (.list xs) none (some (j : Int)) = some (true, .list (xs.take j)) := by
  rw [slice_list, HT.sIx_nat, HT.sIx_none]
  simp only [List.drop_zero, Nat.sub_zero]
  congr 3
  rw [List.take_eq_take_iff]
  simp
theorem sl_from (xs : List D) (j : Nat) : sliceD (.list xs) (some (j : Int)) none = some (true, .list (xs.drop j)) := by
  rw [slice_list, HT.sIx_nat, HT.sIx_none]
  congr 2
  by_cases h : j ≤ xs.length
  · rw [Nat.min_eq_left h, List.take_of_length_le (by simp)]
  · rw [Nat.min_eq_right (by omega), List.drop_of_length_le (Nat.le_refl _), List.drop_of_length_le (by omega)]
    simp
section
variable {scr : D} {nums : List Int} {Φ : Nat → List D → Option FR} (F : FxL Φ nums)
include F
theorem ok1 (a : Nat) (s2 s3 s4 s5 s6 s7 s8 s9 s10 s11 s17 : Sl) (f3 : freeS s3 = true) : ∃ k : Nat, 1 ≤ k ∧ k ≤ 3 ∧ exec ⟨⟨Φ, T.md⟩, T.sub⟩ t1 (rL scr nums a s2 s3 s4 s5 s6 s7 s8 s9 s10 s11 s17) = .ok .next (rL scr nums (a + 1) s2 (.fz (.int k)) s4 s5 s6 s7 s8 s9 s10 s11 s17) := by
  obtain ⟨j, hj, d⟩ := dr_mod (scr := scr) F a 3 (by omega)
  refine ⟨j + 1, by omega, by omega, ?_⟩
  have d := d s2 s3 s4 s5 s6 s7 s8 s9 s10 s11 s17
  have e1 : (1 : Int) + (j : Int) = ((j + 1 : Nat) : Int) := by omega
  unfold t1
  generalize E.bin .mod (.call n__law_draw [.var 1]) (.con (.int 3)) = el at d ⊢
  generalize hk : j + 1 = k at e1 ⊢
  unfold rL at *
  simp [d, e1, setS_free, f3]
theorem ok2 (a k : Nat) (k1 : 1 ≤ k) (k3 : k ≤ 3) (s2 s4 s5 s6 s7 s8 s9 s10 s11 s17 : Sl) (f4 : freeS s4 = true) : ∃ rs a', RulesOk k rs ∧ exec ⟨⟨Φ, T.md⟩, T.sub⟩ t2 (rL scr nums a s2 (.fz (.int k)) s4 s5 s6 s7 s8 s9 s10 s11 s17) = .ok .next (rL scr nums a' s2 (.fz (.int k)) (.ow (.list (rls rs))) s5 s6 s7 s8 s9 s10 s11 s17) := by
  obtain ⟨j, hj, d⟩ := dr_mod (scr := scr) F a 4 (by omega)
  obtain ⟨rs, a', r, ro⟩ := F.rules k (j + 1) (a + 1) k1 k3 (by omega) (by omega)
  refine ⟨rs, a', ro, ?_⟩
  have d := d s2 (.fz (.int k)) s4 s5 s6 s7 s8 s9 s10 s11 s17
  have e1 : (1 : Int) + (j : Int) = ((j + 1 : Nat) : Int) := by omega
  unfold t2
  generalize E.bin .mod (.call n__law_draw [.var 1]) (.con (.int 4)) = el at d ⊢
  generalize hk : j + 1 = mm at e1 r ⊢
  unfold rL at *
  simp [d, e1, setS_free, f4, callF_d, okSlots_d, r]
theorem ok3 (a k : Nat) (k3 : k ≤ 3) (s2 s4 s5 s6 s7 s8 s9 s10 s11 s17 : Sl) (f5 : freeS s5 = true) (f7 : idlS s7 = true) : ∃ (b : List Int) (a' : Nat), b.length = k ∧ partsIn 60 b = true ∧ exec ⟨⟨Φ, T.md⟩, T.sub⟩ t3 (rL scr nums a s2 (.fz (.int k)) s4 s5 s6 s7 s8 s9 s10 s11 s17) = .ok .next (rL scr nums a' s2 (.fz (.int k)) s4 (.fz (bg b)) s6 s7 s8 s9 s10 s11 s17) := by
  obtain ⟨b, a', h1, h2, h3⟩ := dr_bag (scr := scr) (nums := nums) (Φ := Φ) (.bin .mod (.call n__law_draw [.var 1]) (.sub (.lst [.con (.int 5), .con (.int 61)]) (.bin .mod (.call n__law_draw [.var 1]) (.con (.int 2))))) 60 2 (fun a => by
    obtain ⟨j, hj, d⟩ := dr_two (scr := scr) F a 5 61 (by omega) (by omega)
    exact ⟨j, by omega, d⟩) k a k3 s2 s4 s5 s6 s7 s8 s9 s10 s11 s17 f7
  refine ⟨b, a', h1, h2, ?_⟩
  unfold t3
  rw [ex_asg, h3]
  unfold rL
  simp [setS_free, f5]
theorem ok4 (a k : Nat) {rs : List Rule} (h : RulesOk k rs) {b : List Int} (hb : b.length = k) (pb : partsIn 60 b = true) (s2 s3 s6 s7 s8 s9 s10 s11 s17 : Sl) : exec ⟨⟨Φ, T.md⟩, T.sub⟩ t4 (rL scr nums a s2 s3 (.ow (.list (rls rs))) (.fz (bg b)) s6 s7 s8 s9 s10 s11 s17) = .ok .next (rL scr nums a s2 s3 (.ow (.list (rls rs))) (.fz (bg b)) s6 s7 s8 s9 s10 s11 s17) := by
  have e1 := F.exch k rs b h hb pb
  have e2 := F.lexch k rs b h hb
  have e3 := F.eqE k rs b h hb
  unfold t4 rL
  simp [callF_d, okSlots_d, e1, e2, e3, flats_exD]
theorem ok5 (a k : Nat) {rs : List Rule} (h : RulesOk k rs) {b : List Int} (hb : b.length = k) (pb : partsIn 60 b = true) (s2 s3 s6 s7 s8 s9 s10 s11 s17 : Sl) (f6 : freeS s6 = true) : ∃ ch a', Walk k rs b ch ∧ ch.length ≤ 11 ∧ exec ⟨⟨Φ, T.md⟩, T.sub⟩ t5 (rL scr nums a s2 s3 (.ow (.list (rls rs))) (.fz (bg b)) s6 s7 s8 s9 s10 s11 s17) = .ok .next (rL scr nums a' s2 s3 (.fz (.list (rls rs))) (.fz (bg b)) (.ow (.list (ch.map bg))) s7 s8 s9 s10 s11 s17) := by
  obtain ⟨j, hj, d⟩ := dr_mod (scr := scr) F a 8 (by omega)
  obtain ⟨ch, a', w, wk, wl⟩ := F.walked k rs b j (a + 1) h hb pb (by omega)
  refine ⟨ch, a', wk, by omega, ?_⟩
  have d := d s2 s3 (.ow (.list (rls rs))) (.fz (bg b)) s6 s7 s8 s9 s10 s11 s17
  unfold t5
  generalize E.bin .mod (.call n__law_draw [.var 1]) (.con (.int 8)) = el at d ⊢
  unfold rL at *
  simp [d, setS_free, f6, callF_d, okSlots_d, w]
theorem walk_ne {k : Nat} {rs : List Rule} {b : List Int} {ch : List (List Int)} (w : Walk k rs b ch) : ch ≠ [] := fun e => by
  have := w.head
  rw [e] at this
  cases this
theorem ok6 (a k : Nat) {rs : List Rule} (h : RulesOk k rs) {b : List Int} {ch : List (List Int)} (wk : Walk k rs b ch) (wl : ch.length ≤ 11) (s2 s3 s5 s7 s8 s9 s10 s11 s17 : Sl) : exec ⟨⟨Φ, T.md⟩, T.sub⟩ t6 (rL scr nums a s2 s3 (.fz (.list (rls rs))) s5 (.ow (.list (ch.map bg))) s7 s8 s9 s10 s11 s17) = .ok .next (rL scr nums a s2 s3 (.fz (.list (rls rs))) s5 (.ow (.list (ch.map bg))) s7 s8 s9 s10 s11 s17) := by
  have e1 := F.chain k rs ch h (walk_ne F wk) (by omega) wk.ok
  rw [walk_chain wk] at e1
  have e2 := F.eqB true
  unfold t6 rL
  simp [callF_d, okSlots_d, e1, e2]
theorem ok7 (a : Nat) {ch : List (List Int)} (hne : ch ≠ []) (s2 s3 s4 s5 s7 s8 s9 s10 s11 s17 : Sl) (f7 : freeS s7 = true) : ∃ j : Nat, j < ch.length ∧ exec ⟨⟨Φ, T.md⟩, T.sub⟩ t7 (rL scr nums a s2 s3 s4 s5 (.ow (.list (ch.map bg))) s7 s8 s9 s10 s11 s17) = .ok .next (rL scr nums (a + 1) s2 s3 s4 s5 (.ow (.list (ch.map bg))) (.fz (.int j)) s8 s9 s10 s11 s17) := by
  obtain ⟨v, w, v0, v1⟩ := F.draw a
  have hp : 0 < ch.length := List.length_pos_iff.mpr hne
  have f := fmod_in v (b := (ch.length : Int)) (by omega)
  obtain ⟨j, hj⟩ : ∃ j : Nat, v.fmod ch.length = (j : Int) := ⟨(v.fmod ch.length).toNat, by omega⟩
  have hq0 : (ch.length : Int) ≠ 0 := by omega
  refine ⟨j, by omega, ?_⟩
  unfold t7 rL
  have hl : ((ch.map bg).length : Int) = ch.length := by simp
  generalize ch.map bg = xs at hl ⊢
  simp [callF_d, okSlots_d, w, hl, hq0, hj, setS_free, f7, hne]
end
end K40
end

section
set_option Elab.async false
set_option linter.all false
set_option maxRecDepth 100000
set_option autoImplicit false
namespace K40
open PySem hiding exec execs settle finish
open PySem.W DL
section
variable {scr : D} {nums : List Int} {Φ : Nat → List D → Option FR} (F : FxL Φ nums)
include F
theorem dr_near (a : Nat) (c : List Int) (s2 s3 s4 s5 s6 s7 s8 s9 s10 s11 s17 : Sl) (f17 : idlS s17 = true) (hl : c.length ≤ 3) : ∃ (b : List Int) (a' : Nat), b.length = c.length ∧ partsIn 60 b = true ∧
    cRun .seq (.nm 17) [17] (condT .nop (ev ⟨Φ, T.md⟩ .nop)) (ev ⟨Φ, T.md⟩ (.bin .mod (.bin .add (.var 17) (.bin .mod (.call n__law_draw [.var 1]) (.con (.int 2)))) (.con (.int 61)))).P [.fz (bg c)] (rL scr nums a s2 s3 s4 s5 s6 s7 s8 s9 s10 s11 s17) = .ok (.fresh (.list (b.map .int))) (rL scr nums a' s2 s3 s4 s5 s6 s7 s8 s9 s10 s11 s17) := by
  have loop := cLoop_ind (turn := cTurn (.nm 17) [17] (condT .nop (ev ⟨Φ, T.md⟩ .nop)) (ev ⟨Φ, T.md⟩ (.bin .mod (.bin .add (.var 17) (.bin .mod (.call n__law_draw [.var 1]) (.con (.int 2)))) (.con (.int 61)))).P) (xs := c.map PyData.int)
    (ρ := rL scr nums a s2 s3 s4 s5 s6 s7 s8 s9 s10 s11 .no)
    (fun i acc ρ => ∃ (b : List Int) (a' : Nat), b.length = i ∧ partsIn 60 b = true ∧ acc = b.map .int ∧ ρ = rL scr nums a' s2 s3 s4 s5 s6 s7 s8 s9 s10 s11 .no) ⟨[], a, rfl, rfl, rfl, rfl⟩ (fun i hi acc ρ ⟨b, a', g1, g2, g3, e⟩ => ?_)
  · obtain ⟨acc, ρ', l1, b, a', g1, g2, g3, e⟩ := loop
    subst e g3
    rw [List.length_map] at g1
    refine ⟨b, a', g1, g2, ?_⟩
    have hid : idle (rL scr nums a s2 s3 s4 s5 s6 s7 s8 s9 s10 s11 s17) [17] = true := idle_iff fun v hv => by
      rw [List.mem_singleton.mp hv]
      exact congrArg some f17
    rw [cRun_of (items_seq (d := bg c) (xs := c.map .int) _ rfl) rfl rfl hid rfl (by rw [List.length_map]; unfold LIM; omega) l1]
    rfl
  · subst e g3
    obtain ⟨j, j1, d⟩ := dr_mod (scr := scr) F a' 2 (by omega)
    rw [List.length_map] at hi
    have f := fmod_in (c[i] + (j : Int)) (b := 61) (by omega)
    have d := d s2 s3 s4 s5 s6 s7 s8 s9 s10 s11 (.fz (.int c[i]))
    refine ⟨some (.int ((c[i] + (j : Int)).fmod 61)), rL scr nums (a' + 1) s2 s3 s4 s5 s6 s7 s8 s9 s10 s11 .no, ?_, b ++ [(c[i] + (j : Int)).fmod 61], a' + 1, by simp [g1], ?_, by simp, rfl⟩
    · simp only [List.getElem_map]
      generalize E.bin .mod (.call n__law_draw [.var 1]) (.con (.int 2)) = el at d ⊢
      unfold rL at *
      simp [cTurn_eq, setS_free, d, wipeR]
    · unfold partsIn at g2 ⊢
      rw [List.all_append, g2]
      simp
      omega
theorem ok8 (a k : Nat) (k3 : k ≤ 3) {ch : List (List Int)} (hc : ∀ c ∈ ch, c.length = k ∧ partsIn 60 c = true) (hl : ch.length ≤ 11) (j : Nat) (hj : j < ch.length) (s2 s3 s4 s5 s8 s9 s10 s11 s17 : Sl) (f8 : freeS s8 = true) (f17 : idlS s17 = true) :
    ∃ (ot : List (List Int)) (a' : Nat), ot ≠ [] ∧ ot.length ≤ 11 ∧ (∀ c ∈ ot, c.length = k ∧ partsIn 60 c = true) ∧ exec ⟨⟨Φ, T.md⟩, T.sub⟩ t8 (rL scr nums a s2 s3 s4 s5 (.ow (.list (ch.map bg))) (.fz (.int j)) s8 s9 s10 s11 s17) = .ok .next (rL scr nums a' s2 s3 s4 s5 (.ow (.list (ch.map bg))) (.fz (.int j)) (.ow (.list (ot.map bg))) s9 s10 s11 s17) := by
  have kj := hc ch[j] (List.getElem_mem hj)
  obtain ⟨b, a', h1, h2, h3⟩ := dr_near (scr := scr) F a ch[j] s2 s3 s4 s5 (.ow (.list (ch.map bg))) (.fz (.int j)) s8 s9 s10 s11 s17 f17 (by omega)
  have hL : LIM = 1000000 := rfl
  refine ⟨ch.take j ++ [b] ++ ch.drop (j + 1), a', by simp, by simp; omega, fun c hm => ?_, ?_⟩
  · rcases List.mem_append.mp hm with hm | hm
    · rcases List.mem_append.mp hm with hm | hm
      · exact hc c (List.mem_of_mem_take hm)
      · rw [List.mem_singleton.mp hm]
        exact ⟨by omega, h2⟩
    · exact hc c (List.mem_of_mem_drop hm)
  · have e1 := sl_to (ch.map bg) j
    have e2 := sl_from (ch.map bg) (j + 1)
    have e3 : ((j : Int) + 1) = ((j + 1 : Nat) : Int) := by omega
    have e4 : L2.atI (ch.map bg) (j : Int) = some (bg ch[j]) := at_bags hj
    have e5 : (ch.take j ++ [b] ++ ch.drop (j + 1)).map bg = (ch.map bg).take j ++ [bg b] ++ (ch.map bg).drop (j + 1) := by simp
    have n1 : ((ch.map bg).take j).length ≤ 11 := by
      simp
      omega
    have n2 : ((ch.map bg).drop (j + 1)).length ≤ 11 := by
      simp
      omega
    rw [e5]
    unfold t8
    generalize ch.map bg = xs at *
    generalize xs.take j = x1 at *
    generalize xs.drop (j + 1) = x2 at *
    have n3 : x1.length + 1 ≤ 1000000 := by omega
    have n4 : x1.length + 1 + x2.length ≤ 1000000 := by omega
    have hcomp : (ev ⟨Φ, T.md⟩ (.comp .seq [.sub (.var 6) (.var 7)] (.nm 17) [17] (.nop) (.bin .mod (.bin .add (.var 17) (.bin .mod (.call n__law_draw [.var 1]) (.con (.int 2)))) (.con (.int 61))))).P (rL scr nums a s2 s3 s4 s5 (.ow (.list xs)) (.fz (.int j)) s8 s9 s10 s11 s17) = .ok (.fresh (.list (b.map .int))) (rL scr nums a' s2 s3 s4 s5 (.ow (.list xs)) (.fz (.int j)) s8 s9 s10 s11 s17) := by
      have v3 : (ev ⟨Φ, T.md⟩ (.sub (.var 6) (.var 7))).P (rL scr nums a s2 s3 s4 s5 (.ow (.list xs)) (.fz (.int j)) s8 s9 s10 s11 s17) = .ok (.fz (bg ch[j])) (rL scr nums a s2 s3 s4 s5 (.ow (.list xs)) (.fz (.int j)) s8 s9 s10 s11 s17) := by
        unfold rL
        simp [e4]
      rw [ev_comp, evA_cons, v3, bw_ok, evA_nil, bw_ok, settle_fz, bw_ok, h3]
    generalize E.comp .seq [.sub (.var 6) (.var 7)] (.nm 17) [17] (.nop) (.bin .mod (.bin .add (.var 17) (.bin .mod (.call n__law_draw [.var 1]) (.con (.int 2)))) (.con (.int 61))) = el at hcomp ⊢
    generalize hj1 : ((j + 1 : Nat) : Int) = j1 at e2 e3
    have eb : PyData.tuple (b.map PyData.int) = bg b := rfl
    unfold rL at *
    simp [setS_free, f8, e1, hL, hcomp, e3, e2, n3, n4, eb]
theorem ok9 (a k : Nat) {rs : List Rule} (h : RulesOk k rs) {ot : List (List Int)} (hne : ot ≠ []) (hl : ot.length ≤ 11) (hc : ∀ c ∈ ot, c.length = k ∧ partsIn 60 c = true) (s2 s3 s5 s6 s7 s9 s10 s11 s17 : Sl) : exec ⟨⟨Φ, T.md⟩, T.sub⟩ t9 (rL scr nums a s2 s3 (.fz (.list (rls rs))) s5 s6 s7 (.ow (.list (ot.map bg))) s9 s10 s11 s17) = .ok .next (rL scr nums a s2 s3 (.fz (.list (rls rs))) s5 s6 s7 (.ow (.list (ot.map bg))) s9 s10 s11 s17) := by
  have e1 := F.chain k rs ot h hne (by omega) hc
  have e2 := F.lchain k rs ot h hne (by omega) hc
  have e3 := F.eqB (chainB rs ot)
  generalize chainB rs ot = cb at *
  unfold t9 rL
  simp [callF_d, okSlots_d, e1, e2, e3]
theorem ok10 (a : Nat) (s2 s3 s4 s5 s6 s7 s8 s9 s10 s11 s17 : Sl) (f9 : freeS s9 = true) : ∃ (m a' : Nat), m ≤ 30 ∧ exec ⟨⟨Φ, T.md⟩, T.sub⟩ t10 (rL scr nums a s2 s3 s4 s5 s6 s7 s8 s9 s10 s11 s17) = .ok .next (rL scr nums a' s2 s3 s4 s5 s6 s7 s8 (.fz (.int m)) s10 s11 s17) := by
  obtain ⟨j, hj, d⟩ := dr_two (scr := scr) F a 8 15 (by omega) (by omega)
  refine ⟨j, a + 2, by omega, ?_⟩
  unfold t10
  rw [ex_asg, d]
  unfold rL
  simp [setS_free, f9]
theorem bag5 (a k : Nat) (k3 : k ≤ 3) (s2 s4 s5 s6 s7 s8 s9 s10 s11 s17 : Sl) (f7 : idlS s7 = true) : ∃ (b : List Int) (a' : Nat), b.length = k ∧ partsIn 60 b = true ∧ (ev ⟨Φ, T.md⟩ (.bi .tup [.comp .rng1 [.var 3] (.nm 7) [7] (.nop) (.bin .mod (.call n__law_draw [.var 1]) (.con (.int 5)))])).P (rL scr nums a s2 (.fz (.int k)) s4 s5 s6 s7 s8 s9 s10 s11 s17) = .ok (.fz (bg b)) (rL scr nums a' s2 (.fz (.int k)) s4 s5 s6 s7 s8 s9 s10 s11 s17) := dr_bag (scr := scr) (nums := nums) (Φ := Φ) _ 60 1 (fun a => by
    obtain ⟨j, hj, d⟩ := dr_mod (scr := scr) F a 5 (by omega)
    exact ⟨j, by omega, d⟩) k a k3 s2 s4 s5 s6 s7 s8 s9 s10 s11 s17 f7
theorem ok11 (a k : Nat) (k3 : k ≤ 3) (s2 s4 s5 s6 s7 s8 s9 s10 s11 s17 : Sl) (f5 : freeS s5 = true) (f7 : idlS s7 = true) : ∃ (b : List Int) (a' : Nat), b.length = k ∧ partsIn 60 b = true ∧ exec ⟨⟨Φ, T.md⟩, T.sub⟩ t11 (rL scr nums a s2 (.fz (.int k)) s4 s5 s6 s7 s8 s9 s10 s11 s17) = .ok .next (rL scr nums a' s2 (.fz (.int k)) s4 (.fz (bg b)) s6 s7 s8 s9 s10 s11 s17) := by
  obtain ⟨b, a', h1, h2, h3⟩ := bag5 (scr := scr) F a k k3 s2 s4 s5 s6 s7 s8 s9 s10 s11 s17 f7
  refine ⟨b, a', h1, h2, ?_⟩
  unfold t11
  rw [ex_asg, h3]
  unfold rL
  simp [setS_free, f5]
theorem ok12 (a k : Nat) {rs : List Rule} (h : RulesOk k rs) {b : List Int} (hb : b.length = k) (pb : partsIn 60 b = true) (s2 s3 s6 s7 s8 s9 s10 s11 s17 : Sl) (f10 : freeS s10 = true) : ∃ ch a', Walk k rs b ch ∧ exec ⟨⟨Φ, T.md⟩, T.sub⟩ t12 (rL scr nums a s2 s3 (.fz (.list (rls rs))) (.fz (bg b)) s6 s7 s8 s9 s10 s11 s17) = .ok .next (rL scr nums a' s2 s3 (.fz (.list (rls rs))) (.fz (bg b)) s6 s7 s8 s9 (.ow (.list (ch.map bg))) s11 s17) := by
  obtain ⟨j, hj, d⟩ := dr_mod (scr := scr) F a 6 (by omega)
  obtain ⟨ch, a', w, wk, wl⟩ := F.walked k rs b j (a + 1) h hb pb (by omega)
  refine ⟨ch, a', wk, ?_⟩
  have d := d s2 s3 (.fz (.list (rls rs))) (.fz (bg b)) s6 s7 s8 s9 s10 s11 s17
  unfold t12
  generalize E.bin .mod (.call n__law_draw [.var 1]) (.con (.int 6)) = el at d ⊢
  unfold rL at *
  simp [d, setS_free, f10, callF_d, okSlots_d, w]
theorem ok13 (a k : Nat) {ch : List (List Int)} (hne : ch ≠ []) (hc : ∀ c ∈ ch, c.length = k ∧ partsIn 60 c = true) (s2 s3 s4 s5 s6 s7 s8 s9 s11 s17 : Sl) (f11 : freeS s11 = true) : ∃ g : List Int, g.length = k ∧ partsIn 60 g = true ∧ exec ⟨⟨Φ, T.md⟩, T.sub⟩ t13 (rL scr nums a s2 s3 s4 s5 s6 s7 s8 s9 (.ow (.list (ch.map bg))) s11 s17) = .ok .next (rL scr nums a s2 s3 s4 s5 s6 s7 s8 s9 (.ow (.list (ch.map bg))) (.fz (bg g)) s17) := by
  have hp : 0 < ch.length := List.length_pos_iff.mpr hne
  have hj : ch.length - 1 < ch.length := by omega
  have e := at_bags hj
  have e1 : ((ch.length : Nat) : Int) - 1 = ((ch.length - 1 : Nat) : Int) := by omega
  have kg := hc _ (List.getElem_mem hj)
  refine ⟨_, kg.1, kg.2, ?_⟩
  unfold t13 rL
  have hl : ((ch.map bg).length : Int) = ch.length := by simp
  generalize ch.map bg = xs at hl e ⊢
  simp [hl, e1, e, setS_free, f11]
theorem ok14 (a k : Nat) (k3 : k ≤ 3) {g : List Int} (hg : g.length = k) (pg : partsIn 60 g = true) (s2 s4 s5 s6 s7 s8 s9 s10 s17 : Sl) (f7 : idlS s7 = true) : ∃ (g' : List Int) (a' : Nat), g'.length = k ∧ partsIn 60 g' = true ∧ exec ⟨⟨Φ, T.md⟩, T.sub⟩ t14 (rL scr nums a s2 (.fz (.int k)) s4 s5 s6 s7 s8 s9 s10 (.fz (bg g)) s17) = .ok .next (rL scr nums a' s2 (.fz (.int k)) s4 s5 s6 s7 s8 s9 s10 (.fz (bg g')) s17) := by
  obtain ⟨j, hj, d⟩ := dr_mod (scr := scr) F a 4 (by omega)
  have d := d s2 (.fz (.int k)) s4 s5 s6 s7 s8 s9 s10 (.fz (bg g)) s17
  by_cases e : j = 0
  · subst e
    obtain ⟨b, a', h1, h2, h3⟩ := bag5 (scr := scr) F (a + 1) k k3 s2 s4 s5 s6 s7 s8 s9 s10 (.fz (bg g)) s17 f7
    refine ⟨b, a', h1, h2, ?_⟩
    unfold t14
    generalize E.bin .mod (.call n__law_draw [.var 1]) (.con (.int 4)) = el at d ⊢
    generalize E.bi .tup [.comp .rng1 [.var 3] (.nm 7) [7] (.nop) (.bin .mod (.call n__law_draw [.var 1]) (.con (.int 5)))] = el2 at h3 ⊢
    unfold rL at *
    simp [d, exs_sq, h3, setS_free]
  · refine ⟨g, a + 1, hg, pg, ?_⟩
    have e2 : ¬ (j : Int) = 0 := by omega
    unfold t14
    generalize E.bin .mod (.call n__law_draw [.var 1]) (.con (.int 4)) = el at d ⊢
    unfold rL at *
    simp [d, exs_sq, e]
theorem ok15 (a k : Nat) {rs : List Rule} (h : RulesOk k rs) {b g : List Int} (hb : b.length = k) (pb : partsIn 60 b = true) (hg : g.length = k) (pg : partsIn 60 g = true) (m : Nat) (hm : m ≤ 30) (s2 s3 s6 s7 s8 s10 s17 : Sl) : exec ⟨⟨Φ, T.md⟩, T.sub⟩ t15 (rL scr nums a s2 s3 (.fz (.list (rls rs))) (.fz (bg b)) s6 s7 s8 (.fz (.int m)) s10 (.fz (bg g)) s17) = .ok .next (rL scr nums a s2 s3 (.fz (.list (rls rs))) (.fz (bg b)) s6 s7 s8 (.fz (.int m)) s10 (.fz (bg g)) s17) := by
  obtain ⟨fr, fr', d, e1, e2, e3⟩ := F.short k rs b g m h hb pb hg pg hm
  unfold t15 rL
  cases fr <;> cases fr' <;> simp [callF_d, okSlots_d, e1, e2, e3]
theorem turn_ok (a : Nat) (s2 s3 s4 s5 s6 s7 s8 s9 s10 s11 s17 : Sl) (f3 : freeS s3 = true) (f4 : freeS s4 = true) (f5 : freeS s5 = true) (f6 : freeS s6 = true) (f7 : idlS s7 = true) (f8 : freeS s8 = true) (f9 : freeS s9 = true) (f10 : freeS s10 = true) (f11 : freeS s11 = true) (f17 : idlS s17 = true) :
    ∃ a' s3' s4' s5' s6' s7' s8' s9' s10' s11', freeS s3' = true ∧ freeS s4' = true ∧ freeS s5' = true ∧ freeS s6' = true ∧ idlS s7' = true ∧ freeS s8' = true ∧ freeS s9' = true ∧ freeS s10' = true ∧ freeS s11' = true ∧
      execs ⟨⟨Φ, T.md⟩, T.sub⟩ tb (rL scr nums a s2 s3 s4 s5 s6 s7 s8 s9 s10 s11 s17) = .ok .next (rL scr nums a' s2 s3' s4' s5' s6' s7' s8' s9' s10' s11' s17) := by
  obtain ⟨k, k1, k3, e1⟩ := ok1 (scr := scr) F a s2 s3 s4 s5 s6 s7 s8 s9 s10 s11 s17 f3
  obtain ⟨rs, a2, ro, e2⟩ := ok2 (scr := scr) F (a + 1) k k1 k3 s2 s4 s5 s6 s7 s8 s9 s10 s11 s17 f4
  obtain ⟨b, a3, hb, pb, e3⟩ := ok3 (scr := scr) F a2 k k3 s2 (.ow (.list (rls rs))) s5 s6 s7 s8 s9 s10 s11 s17 f5 f7
  have e4 := ok4 (scr := scr) F a3 k ro hb pb s2 (.fz (.int k)) s6 s7 s8 s9 s10 s11 s17
  obtain ⟨ch, a5, wk, wl, e5⟩ := ok5 (scr := scr) F a3 k ro hb pb s2 (.fz (.int k)) s6 s7 s8 s9 s10 s11 s17 f6
  have e6 := ok6 (scr := scr) F a5 k ro wk wl s2 (.fz (.int k)) (.fz (bg b)) s7 s8 s9 s10 s11 s17
  obtain ⟨j, hj, e7⟩ := ok7 (scr := scr) F a5 (walk_ne F wk) s2 (.fz (.int k)) (.fz (.list (rls rs))) (.fz (bg b)) s7 s8 s9 s10 s11 s17 (idl_free f7)
  obtain ⟨ot, a8, o1, o2, o3, e8⟩ := ok8 (scr := scr) F (a5 + 1) k k3 wk.ok wl j hj s2 (.fz (.int k)) (.fz (.list (rls rs))) (.fz (bg b)) s8 s9 s10 s11 s17 f8 f17
  have e9 := ok9 (scr := scr) F a8 k ro o1 o2 o3 s2 (.fz (.int k)) (.fz (bg b)) (.ow (.list (ch.map bg))) (.fz (.int j)) s9 s10 s11 s17
  obtain ⟨m, a10, hm, e10⟩ := ok10 (scr := scr) F a8 s2 (.fz (.int k)) (.fz (.list (rls rs))) (.fz (bg b)) (.ow (.list (ch.map bg))) (.fz (.int j)) (.ow (.list (ot.map bg))) s9 s10 s11 s17 f9
  obtain ⟨b2, a11, hb2, pb2, e11⟩ := ok11 (scr := scr) F a10 k k3 s2 (.fz (.list (rls rs))) (.fz (bg b)) (.ow (.list (ch.map bg))) (.fz (.int j)) (.ow (.list (ot.map bg))) (.fz (.int m)) s10 s11 s17 rfl rfl
  obtain ⟨ch2, a12, wk2, e12⟩ := ok12 (scr := scr) F a11 k ro hb2 pb2 s2 (.fz (.int k)) (.ow (.list (ch.map bg))) (.fz (.int j)) (.ow (.list (ot.map bg))) (.fz (.int m)) s10 s11 s17 f10
  obtain ⟨g, hg, pg, e13⟩ := ok13 (scr := scr) F a12 k (walk_ne F wk2) wk2.ok s2 (.fz (.int k)) (.fz (.list (rls rs))) (.fz (bg b2)) (.ow (.list (ch.map bg))) (.fz (.int j)) (.ow (.list (ot.map bg))) (.fz (.int m)) s11 s17 f11
  obtain ⟨g2, a14, hg2, pg2, e14⟩ := ok14 (scr := scr) F a12 k k3 hg pg s2 (.fz (.list (rls rs))) (.fz (bg b2)) (.ow (.list (ch.map bg))) (.fz (.int j)) (.ow (.list (ot.map bg))) (.fz (.int m)) (.ow (.list (ch2.map bg))) s17 rfl
  have e15 := ok15 (scr := scr) F a14 k ro hb2 pb2 hg2 pg2 m hm s2 (.fz (.int k)) (.ow (.list (ch.map bg))) (.fz (.int j)) (.ow (.list (ot.map bg))) (.ow (.list (ch2.map bg))) s17
  refine ⟨a14, .fz (.int k), .fz (.list (rls rs)), .fz (bg b2), .ow (.list (ch.map bg)), .fz (.int j), .ow (.list (ot.map bg)), .fz (.int m), .ow (.list (ch2.map bg)), .fz (bg g2), rfl, rfl, rfl, rfl, rfl, rfl, rfl, rfl, rfl, ?_⟩
  unfold tb
  rw [exs_next _ e1, exs_next _ e2, exs_next _ e3, exs_next _ e4, exs_next _ e5, exs_next _ e6, exs_next _ e7, exs_next _ e8, exs_next _ e9, exs_next _ e10, exs_next _ e11, exs_next _ e12, exs_next _ e13, exs_next _ e14, exs_next _ e15, exs_nil]
end
end K40
end

section
set_option Elab.async false
set_option linter.all false
set_option maxRecDepth 100000
set_option autoImplicit false
namespace K40
open PySem hiding exec execs settle finish
open PySem.W DL
def u10 : D := .tuple [.int 1, .int 0]
def u01 : D := .tuple [.int 0, .int 1]
def fineD : D := .list [.tuple [u10, u01]]
def bads : List D := [.none, .list [], .list [.tuple [.tuple [.int 1], u01]], .list [.tuple [u10, u10]], .list [.tuple [.tuple [.int 5, .int 0], u01]], .list [.tuple [u10]], .list [.list [u10, u01]],
  .list [.tuple [.tuple [.int (-1), .int 0], u01]], .list [.tuple [u10, u01], .tuple [u10, u01], .tuple [u10, u01], .tuple [u10, u01], .tuple [u10, u01]], .list [.tuple [.tuple [.bool true, .int 0], u01]],
  .list [.tuple [.tuple [.int 1, .int 0, .int 0, .int 0], .tuple [.int 0, .int 0, .int 0, .int 1]]], .list [.tuple [.tuple [], .tuple []]], .tuple [.tuple [u10, u01]]]
def odds : List D := [.none, .tuple [.int 1], .tuple [.int 61, .int 0], .tuple [.int (-1), .int 0], .tuple [.bool true, .int 0], .list [.int 1, .int 0], .tuple [.int 1, .int 0, .int 0], .tuple [.str (PySem.Str.ofString "1"), .int 0]]
def mosts : List D := [.int (-1), .int 31, .bool true, .none]
def nots : List D := [.none, .list [], .tuple [u10]]
theorem bads_exc (n : Nat) : ∀ d ∈ bads, runF T (n + 3) n_check_rules [d] = some (.exc 0 [none]) := by
  have lim : ∀ (xs : List D) {m : Nat}, m ≤ 10 → xs.length = m → ∀ ys, PyData.tuple xs = .tuple ys → ys.length ≤ LIM := fun xs m hm e ys h => by
    cases h
    unfold LIM
    omega
  intro d hd
  unfold bads at hd
  simp only [List.mem_cons, List.not_mem_nil, or_false] at hd
  rcases hd with rfl | rfl | rfl | rfl | rfl | rfl | rfl | rfl | rfl | rfl | rfl | rfl | rfl
  · exact bad_first n _ (by decide +kernel) (fun xs h => by cases h)
  · exact bad_first n _ (by decide +kernel) (fun xs h => by cases h; simp)
  · exact bad_pair n _ _ (by decide +kernel) (lim _ (m := 2) (by omega) rfl) (.inr (by decide +kernel))
  · exact bad_pair n _ _ (by decide +kernel) (lim _ (m := 2) (by omega) rfl) (.inr (by decide +kernel))
  · exact bad_pair n _ _ (by decide +kernel) (lim _ (m := 2) (by omega) rfl) (.inr (by decide +kernel))
  · exact bad_second n _ (by decide +kernel) (fun xs h => by cases h; simp)
  · exact bad_second n _ (by decide +kernel) (fun xs h => by cases h)
  · exact bad_pair n _ _ (by decide +kernel) (lim _ (m := 2) (by omega) rfl) (.inr (by decide +kernel))
  · exact bad_first n _ (by decide +kernel) (fun xs h => by cases h; simp)
  · exact bad_pair n _ _ (by decide +kernel) (lim _ (m := 2) (by omega) rfl) (.inr (by decide +kernel))
  · exact bad_pair n _ _ (by decide +kernel) (lim _ (m := 4) (by omega) rfl) (.inl (by simp))
  · exact bad_pair n _ _ (by decide +kernel) (lim _ (m := 0) (by omega) rfl) (.inl (by simp))
  · exact bad_first n _ (by decide +kernel) (fun xs h => by cases h)
theorem fine_ok : RulesOk 2 [([1, 0], [0, 1])] := by
  refine ⟨by simp, by simp, by omega, by omega, ?_, ?_, ?_⟩
  · intro r hr
    rw [List.mem_singleton.mp hr]
    exact ⟨rfl, rfl⟩
  · intro r hr
    rw [List.mem_singleton.mp hr]
    exact ⟨by decide, by decide⟩
  · intro r hr
    rw [List.mem_singleton.mp hr]
    decide
theorem fine_eq : fineD = .list (rls [([1, 0], [0, 1])]) := rfl
theorem odds_ok : ∀ d ∈ odds, okD d = true ∧ d.depth ≤ 39 ∧ (∀ xs, d = .tuple xs → xs.length ≤ LIM) ∧ isBag d 2 60 = false := by
  intro d hd
  unfold odds at hd
  simp only [List.mem_cons, List.not_mem_nil, or_false] at hd
  rcases hd with rfl | rfl | rfl | rfl | rfl | rfl | rfl | rfl <;>
    exact ⟨by decide +kernel, by decide +kernel, fun xs h => by cases h; all_goals (unfold LIM; simp), by decide +kernel⟩
theorem mosts_ok : ∀ d ∈ mosts, d.plain = true ∧ inB 0 30 d = false := by
  intro d hd
  unfold mosts at hd
  simp only [List.mem_cons, List.not_mem_nil, or_false] at hd
  rcases hd with rfl | rfl | rfl | rfl <;> exact ⟨by decide +kernel, by decide +kernel⟩
theorem nots_ok : ∀ d ∈ nots, d.plain = true ∧ (d.isList = false ∨ d = .list []) := by
  intro d hd
  unfold nots at hd
  simp only [List.mem_cons, List.not_mem_nil, or_false] at hd
  rcases hd with rfl | rfl | rfl
  · exact ⟨by decide +kernel, .inl (by decide +kernel)⟩
  · exact ⟨by decide +kernel, .inr rfl⟩
  · exact ⟨by decide +kernel, .inl (by decide +kernel)⟩
/-- the errors that law asks for -/
structure FyL (Φ : Nat → List D → Option FR) : Prop where
  bad : ∀ s ∈ [sEx, sIs, sCh], ∀ d ∈ bads, Φ n__law_error [s, d, u10, u01, .int 5] = some (.ret false sProg [none, none, none, none, none])
  stA : ∀ s ∈ [sEx, sCh], ∀ d ∈ odds, Φ n__law_error [s, fineD, d, u01, .int 5] = some (.ret false sStand [none, none, none, none, none])
  stB : ∀ d ∈ odds, Φ n__law_error [sCh, fineD, u10, d, .int 5] = some (.ret false sStand [none, none, none, none, none])
  arg : ∀ d ∈ mosts, Φ n__law_error [sCh, fineD, u10, u01, d] = some (.ret false sArg [none, none, none, none, none])
  stC : ∀ d ∈ odds, Φ n_is_chain [fineD, .list [d]] = some (.ret false (.bool false) [none, none])
  non : ∀ d ∈ nots, Φ n_is_chain [fineD, d] = some (.ret false (.bool false) [none, none])
theorem fy_ok (n : Nat) : FyL (runF T (n + 6)) := by
  have c0 : runF T (n + 4) n_check_bag [fineD, u10] = some (.ret false .none [none, none]) := check_bag_ok n 2 _ [1, 0] fine_ok rfl (by decide)
  have c1 : runF T (n + 4) n_check_bag [fineD, u01] = some (.ret false .none [none, none]) := check_bag_ok n 2 _ [0, 1] fine_ok rfl (by decide)
  refine ⟨?_, ?_, ?_, ?_, ?_, ?_⟩
  · intro s hs d hd
    have b := bads_exc (n + 1) d hd
    have c := check_bag_exc n d u10 (bads_exc n d hd)
    simp only [List.mem_cons, List.not_mem_nil, or_false] at hs
    rcases hs with rfl | rfl | rfl
    · exact law_error_ex (n + 5) 0 (by omega) d u10 u01 (.int 5) (exchanges_exc n 0 d u10 c)
    · exact law_error_is (n + 5) 0 (by omega) d u10 u01 (.int 5) (is_chain_exc n d _ b)
    · exact law_error_ch (n + 5) 0 (by omega) d u10 u01 (.int 5) (shortest_exc n 0 d u10 u01 (.int 5) c)
  · intro s hs d hd
    obtain ⟨h1, h2, h3, h4⟩ := odds_ok d hd
    have c := check_bag_st n 2 _ fine_ok d h1 h3 h4
    rw [← fine_eq] at c
    simp only [List.mem_cons, List.not_mem_nil, or_false] at hs
    rcases hs with rfl | rfl
    · exact law_error_ex (n + 5) 1 (by omega) fineD d u01 (.int 5) (exchanges_exc n 1 fineD d c)
    · exact law_error_ch (n + 5) 1 (by omega) fineD d u01 (.int 5) (shortest_exc n 1 fineD d u01 (.int 5) c)
  · intro d hd
    obtain ⟨h1, h2, h3, h4⟩ := odds_ok d hd
    have c := check_bag_st n 2 _ fine_ok d h1 h3 h4
    rw [← fine_eq] at c
    exact law_error_ch (n + 5) 1 (by omega) fineD u10 d (.int 5) (shortest_exc2 n 1 fineD u10 d (.int 5) c0 c)
  · intro d hd
    obtain ⟨h1, h2⟩ := mosts_ok d hd
    exact law_error_ch (n + 5) 2 (by omega) fineD u10 u01 d (shortest_exc3 n 2 fineD u10 u01 d c0 c1 (check_sum_exc (n + 2) d h1 h2))
  · intro d hd
    obtain ⟨h1, h2, h3, h4⟩ := odds_ok d hd
    have := is_chain_st (n + 2) 2 _ fine_ok d h1 h2 h3 h4
    rw [← fine_eq] at this
    exact this
  · intro d hd
    obtain ⟨h1, h2⟩ := nots_ok d hd
    have := is_chain_no (n + 2) 2 _ fine_ok d h1 h2
    rw [← fine_eq] at this
    exact this
end K40
end

section
set_option Elab.async false
set_option linter.all false
set_option maxRecDepth 100000
set_option autoImplicit false
namespace K40
open PySem hiding exec execs settle finish
open PySem.W DL
section
variable {scr : D} {nums : List Int} {Φ : Nat → List D → Option FR} (F : FxL Φ nums) (G : FyL Φ) (s2 s3 s4 s5 s6 s7 s8 s9 s10 s11 : Sl)
def rZ (scr : D) (nums : List Int) (s2 s3 s4 s5 s6 s7 s8 s9 s10 s11 : Sl) (a : Nat) (s12 s13 s14 s15 s16 s17 : Sl) : Rho := [.fz scr, .ow (drw nums a), s2, s3, s4, s5, s6, s7, s8, s9, s10, s11, s12, s13, s14, s15, s16, s17]
include F in
theorem dz_mod (a : Nat) (q : Int) (hq : 0 < q) : ∃ j : Nat, (j : Int) < q ∧ ∀ s12 s13 s14 s15 s16 s17, (ev ⟨Φ, T.md⟩ (.bin .mod (.call n__law_draw [.var 1]) (.con (.int q)))).P (rZ scr nums s2 s3 s4 s5 s6 s7 s8 s9 s10 s11 a s12 s13 s14 s15 s16 s17) = .ok (.fz (.int (j : Int))) (rZ scr nums s2 s3 s4 s5 s6 s7 s8 s9 s10 s11 (a + 1) s12 s13 s14 s15 s16 s17) := by
  obtain ⟨v, w, v0, v1⟩ := F.draw a
  have f := fmod_in v hq
  obtain ⟨j, hj⟩ : ∃ j : Nat, v.fmod q = (j : Int) := ⟨(v.fmod q).toNat, by omega⟩
  have hq0 : q ≠ 0 := by omega
  refine ⟨j, by omega, fun s12 s13 s14 s15 s16 s17 => ?_⟩
  unfold rZ
  simp [callF_d, okSlots_d, w, hq0, hj]
theorem z2 (a : Nat) (s12 s13 s14 s15 s16 s17 : Sl) (f12 : freeS s12 = true) : exec ⟨⟨Φ, T.md⟩, T.sub⟩ l2 (rZ scr nums s2 s3 s4 s5 s6 s7 s8 s9 s10 s11 a s12 s13 s14 s15 s16 s17) = .ok .next (rZ scr nums s2 s3 s4 s5 s6 s7 s8 s9 s10 s11 a (.ow fineD) s13 s14 s15 s16 s17) := by
  have hL : LIM = 1000000 := rfl
  unfold l2 rZ
  simp [hL, setS_free, f12, fineD, u10, u01]
theorem z3 (a : Nat) (s13 s14 s15 s16 s17 : Sl) (f13 : freeS s13 = true) : exec ⟨⟨Φ, T.md⟩, T.sub⟩ l3 (rZ scr nums s2 s3 s4 s5 s6 s7 s8 s9 s10 s11 a (.ow fineD) s13 s14 s15 s16 s17) = .ok .next (rZ scr nums s2 s3 s4 s5 s6 s7 s8 s9 s10 s11 a (.ow fineD) (.ow (.list bads)) s14 s15 s16 s17) := by
  have hL : LIM = 1000000 := rfl
  have e1 : binD .mul fineD (.int 5) = some (true, .list [.tuple [u10, u01], .tuple [u10, u01], .tuple [u10, u01], .tuple [u10, u01], .tuple [u10, u01]]) := rfl
  have e2 : subD fineD (.int 0) = some (.tuple [u10, u01]) := rfl
  have e3 : (PyData.list bads) = .list [.none, .list [], .list [.tuple [.tuple [.int 1], u01]], .list [.tuple [u10, u10]], .list [.tuple [.tuple [.int 5, .int 0], u01]], .list [.tuple [u10]], .list [.list [u10, u01]],
    .list [.tuple [.tuple [.int (-1), .int 0], u01]], .list [.tuple [u10, u01], .tuple [u10, u01], .tuple [u10, u01], .tuple [u10, u01], .tuple [u10, u01]], .list [.tuple [.tuple [.bool true, .int 0], u01]],
    .list [.tuple [.tuple [.int 1, .int 0, .int 0, .int 0], .tuple [.int 0, .int 0, .int 0, .int 1]]], .list [.tuple [.tuple [], .tuple []]], .tuple [.tuple [u10, u01]]] := rfl
  rw [e3]
  unfold l3 rZ
  generalize fineD = fD at e1 e2 ⊢
  simp [hL, setS_free, f13, e1, e2]
  exact ⟨rfl, rfl, rfl, rfl, rfl⟩
include F in
theorem z4 (a : Nat) (s12 s14 s15 s16 s17 : Sl) (f14 : freeS s14 = true) : ∃ d ∈ bads, exec ⟨⟨Φ, T.md⟩, T.sub⟩ l4 (rZ scr nums s2 s3 s4 s5 s6 s7 s8 s9 s10 s11 a s12 (.ow (.list bads)) s14 s15 s16 s17) = .ok .next (rZ scr nums s2 s3 s4 s5 s6 s7 s8 s9 s10 s11 (a + 1) s12 (.ow (.list bads)) (.fz d) s15 s16 s17) := by
  obtain ⟨v, w, v0, v1⟩ := F.draw a
  have hl : bads.length = 13 := rfl
  have f := fmod_in v (b := 13) (by omega)
  obtain ⟨j, hj⟩ : ∃ j : Nat, v.fmod 13 = (j : Int) := ⟨(v.fmod 13).toNat, by omega⟩
  have hjl : j < bads.length := by omega
  have e := atI_nat hjl
  refine ⟨bads[j], List.getElem_mem hjl, ?_⟩
  unfold l4 rZ
  generalize bads[j] = dd at e ⊢
  generalize bads = xs at hl e ⊢
  simp [callF_d, okSlots_d, w, hl, hj, e, setS_free, f14]
include F in
theorem z5 (a : Nat) (s12 s13 s14 s15 s16 s17 : Sl) (f15 : freeS s15 = true) : ∃ d ∈ odds, exec ⟨⟨Φ, T.md⟩, T.sub⟩ l5 (rZ scr nums s2 s3 s4 s5 s6 s7 s8 s9 s10 s11 a s12 s13 s14 s15 s16 s17) = .ok .next (rZ scr nums s2 s3 s4 s5 s6 s7 s8 s9 s10 s11 (a + 1) s12 s13 s14 (.fz d) s16 s17) := by
  obtain ⟨j, hj, d⟩ := dz_mod (scr := scr) F s2 s3 s4 s5 s6 s7 s8 s9 s10 s11 a 8 (by omega)
  have d := d s12 s13 s14 s15 s16 s17
  have hL : LIM = 1000000 := rfl
  have hl : odds.length = 8 := rfl
  have hjl : j < odds.length := by omega
  have e := atI_nat hjl
  have e1 : odds = [.none, .tuple [.int 1], .tuple [.int 61, .int 0], .tuple [.int (-1), .int 0], .tuple [.bool true, .int 0], .list [.int 1, .int 0], .tuple [.int 1, .int 0, .int 0], .tuple [.str (PySem.Str.ofString "1"), .int 0]] := rfl
  refine ⟨odds[j], List.getElem_mem hjl, ?_⟩
  generalize odds[j] = dd at e ⊢
  rw [e1] at e
  unfold l5
  generalize E.bin .mod (.call n__law_draw [.var 1]) (.con (.int 8)) = el at d ⊢
  unfold rZ at *
  simp [hL, d, e, setS_free, f15]
theorem r1 : cmpD .ne sProg sProg = some false := by decide +kernel
theorem r2 : cmpD .ne sStand sStand = some false := by decide +kernel
theorem r3 : cmpD .ne sEx sIs = some true := by decide +kernel
theorem r4 : cmpD .ne sIs sIs = some false := by decide +kernel
theorem r5 : cmpD .ne sCh sIs = some true := by decide +kernel
theorem r6 : cmpD .eq sArg sArg = some true := by decide +kernel
include G in
theorem z6 (a : Nat) (d e : D) (hd : d ∈ bads) (he : e ∈ odds) (s13 s16 s17 : Sl) (f16 : freeS s16 = true) : exec ⟨⟨Φ, T.md⟩, T.sub⟩ l6 (rZ scr nums s2 s3 s4 s5 s6 s7 s8 s9 s10 s11 a (.ow fineD) s13 (.fz d) (.fz e) s16 s17) = .ok .next (rZ scr nums s2 s3 s4 s5 s6 s7 s8 s9 s10 s11 a (.ow fineD) s13 (.fz d) (.fz e) (.fz sCh) s17) := by
  have hL : LIM = 1000000 := rfl
  have b1 := G.bad sEx (by simp) d hd
  have b2 := G.bad sIs (by simp) d hd
  have b3 := G.bad sCh (by simp) d hd
  have c1 := G.stA sEx (by simp) e he
  have c3 := G.stA sCh (by simp) e he
  have fs : ∀ s ∈ [sProg, sStand], flat s = true := fun s hs => by
    simp only [List.mem_cons, List.not_mem_nil, or_false] at hs
    rcases hs with rfl | rfl <;> rfl
  have f1 : flat sProg = true := rfl
  have f2 : flat sStand = true := rfl
  have g1 := r1
  have g2 := r2
  have g3 := r3
  have g4 := r4
  have g5 := r5
  have hl6 : l6 = .forS .seq [.lst [.con sEx, .con sIs, .con sCh]] (.nm 16) [.ifS (.cmp .ne (.call n__law_error [.var 16, .var 14, .tup [.con (.int 1), .con (.int 0)], .tup [.con (.int 0), .con (.int 1)], .con (.int 5)]) (.con sProg)) [.ret (.con (.bool false))] [], .ifS (.and (.cmp .ne (.var 16) (.con sIs)) (.cmp .ne (.call n__law_error [.var 16, .var 12, .var 15, .tup [.con (.int 0), .con (.int 1)], .con (.int 5)]) (.con sStand))) [.ret (.con (.bool false))] []] := rfl
  rw [hl6]
  have k1 : (PyData.tuple [.int 1, .int 0]) = u10 := rfl
  have k2 : (PyData.tuple [.int 0, .int 1]) = u01 := rfl
  unfold rZ
  generalize fineD = fD at *
  have q1 : flatR false sProg = true := rfl
  have q2 : flatR false sStand = true := rfl
  generalize sEx = xEx at *
  generalize sIs = xIs at *
  generalize sCh = xCh at *
  generalize sProg = xProg at *
  generalize sStand = xStand at *
  simp [hL, fRun_seq (seqD_list _), fLoop_lq, turnOf_d, setS_free, f16, exs_sq, callF_d, okSlots_d, k1, k2, b1, b2, b3, c1, c3, g1, g2, g3, g4, g5, q1, q2]
include F G in
theorem z7 (a : Nat) (e : D) (he : e ∈ odds) (s13 s14 s16 s17 : Sl) : exec ⟨⟨Φ, T.md⟩, T.sub⟩ l7 (rZ scr nums s2 s3 s4 s5 s6 s7 s8 s9 s10 s11 a (.ow fineD) s13 s14 (.fz e) s16 s17) = .ok .next (rZ scr nums s2 s3 s4 s5 s6 s7 s8 s9 s10 s11 (a + 1) (.ow fineD) s13 s14 (.fz e) s16 s17) := by
  obtain ⟨j, hj, d⟩ := dz_mod (scr := scr) F s2 s3 s4 s5 s6 s7 s8 s9 s10 s11 a 3 (by omega)
  have d := d (.ow fineD) s13 s14 (.fz e) s16 s17
  have hL : LIM = 1000000 := rfl
  have hl : nots.length = 3 := rfl
  have hjl : j < nots.length := by omega
  have e2 := atI_nat hjl
  have e1 : nots = [.none, .list [], .tuple [.tuple [.int 1, .int 0]]] := rfl
  have n1 := G.non _ (List.getElem_mem hjl)
  generalize nots[j] = dd at e2 n1
  rw [e1] at e2
  have n2 := G.stC e he
  have n3 := F.eqB false
  unfold l7
  generalize E.bin .mod (.call n__law_draw [.var 1]) (.con (.int 3)) = el at d ⊢
  unfold rZ at *
  generalize fineD = fD at *
  simp [hL, d, e2, callF_d, okSlots_d, n1, n2, n3]
include G in
theorem z8 (a : Nat) (e : D) (he : e ∈ odds) (s13 s14 s16 s17 : Sl) : exec ⟨⟨Φ, T.md⟩, T.sub⟩ l8 (rZ scr nums s2 s3 s4 s5 s6 s7 s8 s9 s10 s11 a (.ow fineD) s13 s14 (.fz e) s16 s17) = .ok .next (rZ scr nums s2 s3 s4 s5 s6 s7 s8 s9 s10 s11 a (.ow fineD) s13 s14 (.fz e) s16 s17) := by
  have hL : LIM = 1000000 := rfl
  have n1 := G.stB e he
  have k1 : (PyData.tuple [.int 1, .int 0]) = u10 := rfl
  have g2 := r2
  have q2 : flatR false sStand = true := rfl
  have hl8 : l8 = .ifS (.cmp .ne (.call n__law_error [.con sCh, .var 12, .tup [.con (.int 1), .con (.int 0)], .var 15, .con (.int 5)]) (.con sStand)) [.ret (.con (.bool false))] [] := rfl
  rw [hl8]
  unfold rZ
  generalize fineD = fD at *
  generalize sCh = xCh at *
  generalize sStand = xStand at *
  simp [hL, callF_d, okSlots_d, k1, n1, g2, q2]
include F G in
theorem z9 (a : Nat) (s13 s14 s15 s16 s17 : Sl) : exec ⟨⟨Φ, T.md⟩, T.sub⟩ l9 (rZ scr nums s2 s3 s4 s5 s6 s7 s8 s9 s10 s11 a (.ow fineD) s13 s14 s15 s16 s17) = .ok (.ret false (.bool true)) (rZ scr nums s2 s3 s4 s5 s6 s7 s8 s9 s10 s11 (a + 1) (.ow fineD) s13 s14 s15 s16 s17) := by
  obtain ⟨j, hj, d⟩ := dz_mod (scr := scr) F s2 s3 s4 s5 s6 s7 s8 s9 s10 s11 a 4 (by omega)
  have d := d (.ow fineD) s13 s14 s15 s16 s17
  have hL : LIM = 1000000 := rfl
  have hl : mosts.length = 4 := rfl
  have hjl : j < mosts.length := by omega
  have e2 := atI_nat hjl
  have e1 : mosts = [.int (-1), .int 31, .bool true, .none] := rfl
  have n1 := G.arg _ (List.getElem_mem hjl)
  generalize mosts[j] = dd at e2 n1
  rw [e1] at e2
  have k1 : (PyData.tuple [.int 1, .int 0]) = u10 := rfl
  have k2 : (PyData.tuple [.int 0, .int 1]) = u01 := rfl
  have g2 := r6
  have q2 : flatR false sArg = true := rfl
  have hl9 : l9 = .ret (.cmp .eq (.call n__law_error [.con sCh, .var 12, .tup [.con (.int 1), .con (.int 0)], .tup [.con (.int 0), .con (.int 1)], .sub (.lst [.neg (.con (.int 1)), .con (.int 31), .con (.bool true), .con .none]) (.bin .mod (.call n__law_draw [.var 1]) (.con (.int 4)))]) (.con sArg)) := rfl
  rw [hl9]
  generalize E.bin .mod (.call n__law_draw [.var 1]) (.con (.int 4)) = el at d ⊢
  unfold rZ at *
  generalize fineD = fD at *
  generalize sCh = xCh at *
  generalize sArg = xArg at *
  simp [hL, d, e2, callF_d, okSlots_d, k1, k2, n1, g2, q2, retO]
end
end K40
end

section
set_option Elab.async false
set_option linter.all false
set_option maxRecDepth 100000
set_option autoImplicit false
namespace K40
open PySem hiding exec execs settle finish
open PySem.W DL
theorem eq_ans (n : Nat) {k : Nat} {rs : List Rule} (h : RulesOk k rs) {b g : List Int} {m : Nat} (hm : m ≤ 30) (hb : b.length = k) (nb : nonneg b) {d : D} (hd : Ans rs m b g d) (hq : ∀ q : List (List Int), d = .list (q.map bg) → q.length ≤ 30000) : Eq1 (n + 10) d := by
  rcases hd with ⟨o1, o2, N, q, lq, mn, rfl⟩ | ⟨rfl, _⟩
  · have hk3 := h.k3
    refine eq_bags (n + 5) q ?_ fun e he => ?_
    · have := hq q rfl
      unfold LIM
      omega
    · have go : ∀ (N : Nat) (v w : List Int) (q : List (List Int)), Ch (NB rs m) N v w q → v.length = k → ∀ e ∈ q, e.length = k := by
        intro N v w q hc
        induction hc with
        | nil v =>
          intro hv e he
          rw [List.mem_singleton.mp he]
          exact hv
        | cons hn _ ih =>
          intro hv e he
          rcases List.mem_cons.mp he with e1 | he
          · rw [e1]
            exact hv
          · exact ih (nxt_ok h hv (List.mem_filter.mp hn).1).1 e he
      have := go N b g q lq.1 hb e he
      unfold LIM
      omega
  · exact eq_none (n + 9)
theorem fx_ok (n : Nat) (nums : List Int) (hin : ∀ x ∈ nums, 0 ≤ x ∧ x < 1000000) : FxL (runF T (n + 11)) nums := by
  refine ⟨?_, ?_, ?_, ?_, ?_, ?_, ?_, ?_, ?_, ?_⟩
  · exact draw_at (n + 9) nums hin
  · intro k many a k1 k3 m1 m4
    exact law_rules_ok (n + 8) nums hin k many a k1 k3 m1 m4
  · intro k rs b h hb pb
    exact exchanges_ok (n + 6) k rs b h hb pb
  · intro k rs b h hb
    have h3 := h.k3
    have h4 := h.n4
    exact law_exchanges_ok (n + 9) k rs b h.kinds hb (by omega) (by omega)
  · intro k rs b h hb
    have h3 := h.k3
    have h4 := h.n4
    have hl := exAcc_len rs b rs.length
    have := eq_exs (n + 4) (excs rs b) (by unfold LIM excs; omega) (fun e he => by
      have := (nxt_ok (c := e.2.2) h hb (List.mem_map.mpr ⟨e, he, rfl⟩)).1
      unfold LIM
      omega)
    exact this
  · intro b
    exact eq_bool (n + 10) b
  · intro k rs b steps a h hb pb hs
    exact law_walked_ok (n + 8) nums hin k rs h b hb pb steps a hs
  · intro k rs ch h hne hl hc
    exact is_chain_ok (n + 7) k rs h ch hne hl hc
  · intro k rs ch h hne hl hc
    exact law_is_chain_ok (n + 8) k rs h ch hne hl hc
  · intro k rs b g m h hb pb hg pg hm
    obtain ⟨fr, d, e1, a1, q1⟩ := shortest_ok (n + 6) k rs h b g hb pb hg pg m hm
    obtain ⟨fr', d', e2, a2⟩ := law_shortest_ok (n + 8) k rs h b g hb (parts_nonneg pb) m hm
    have := ans_one a1 a2
    subst this
    exact ⟨fr, fr', d, e1, e2, eq_ans (n + 1) h hm hb (parts_nonneg pb) a1 q1⟩
theorem k40_run (ns : List Int) (hn : ns.length ≤ 63) : ∃ os, runF T 60 25 [.list (ns.map PyData.int)] = some (.ret false (.bool true) os) := by
  obtain ⟨nums, hnum, hin⟩ := law_numbers_ok 57 ns hn
  have F := fx_ok 48 nums hin
  have G := fy_ok 53
  refine ⟨[none], ?_⟩
  show runF T 60 n_law _ = _
  rw [run_def at_law rfl, law_body]
  generalize runF T 59 = Φ at hnum F G ⊢
  have hL : LIM = 1000000 := rfl
  have p0 : exec ⟨⟨Φ, T.md⟩, T.sub⟩ l0 (startR fd_law [.list (ns.map PyData.int)]) = .ok .next (rL (.list (ns.map PyData.int)) nums 0 .no .no .no .no .no .no .no .no .no .no .no) := by
    unfold l0 rL
    have e : startR fd_law [.list (ns.map PyData.int)] = [.fz (.list (ns.map PyData.int)), .no, .no, .no, .no, .no, .no, .no, .no, .no, .no, .no, .no, .no, .no, .no, .no, .no] := rfl
    rw [e]
    have e2 : drw nums 0 = .list [.list (nums.map PyData.int), .int 0] := rfl
    rw [e2]
    simp [callF_d, okSlots_d, hnum, hL, setS_free]
  have T1 := turn_ok (scr := .list (ns.map PyData.int)) F
  obtain ⟨a1, x3, x4, x5, x6, x7, x8, x9, x10, x11, g3, g4, g5, g6, g7, g8, g9, g10, g11, q1⟩ := T1 0 (.fz (.int 0)) .no .no .no .no .no .no .no .no .no .no rfl rfl rfl rfl rfl rfl rfl rfl rfl rfl
  obtain ⟨a2, y3, y4, y5, y6, y7, y8, y9, y10, y11, h3, h4, h5, h6, h7, h8, h9, h10, h11, q2⟩ := T1 a1 (.fz (.int 1)) x3 x4 x5 x6 x7 x8 x9 x10 x11 .no g3 g4 g5 g6 g7 g8 g9 g10 g11 rfl
  obtain ⟨a3, z3', z4', z5', z6', z7', z8', z9', z10', z11', i3, i4, i5, i6, i7, i8, i9, i10, i11, q3⟩ := T1 a2 (.fz (.int 2)) y3 y4 y5 y6 y7 y8 y9 y10 y11 .no h3 h4 h5 h6 h7 h8 h9 h10 h11 rfl
  have p1 : exec ⟨⟨Φ, T.md⟩, T.sub⟩ l1 (rL (.list (ns.map PyData.int)) nums 0 .no .no .no .no .no .no .no .no .no .no .no) = .ok .next (rL (.list (ns.map PyData.int)) nums a3 (.fz (.int 2)) z3' z4' z5' z6' z7' z8' z9' z10' z11' .no) := by
    unfold l1
    generalize tb = body at q1 q2 q3 ⊢
    unfold rL at *
    simp [fRun_three, fLoop_lq, turnOf_d, setS_free, q1, q2, q3]
  obtain ⟨d, hd, w4⟩ := z4 (scr := .list (ns.map PyData.int)) F (.fz (.int 2)) z3' z4' z5' z6' z7' z8' z9' z10' z11' a3 (.ow fineD) .no .no .no .no rfl
  obtain ⟨e, he, w5⟩ := z5 (scr := .list (ns.map PyData.int)) F (.fz (.int 2)) z3' z4' z5' z6' z7' z8' z9' z10' z11' (a3 + 1) (.ow fineD) (.ow (.list bads)) (.fz d) .no .no .no rfl
  have w2 := z2 (scr := .list (ns.map PyData.int)) (nums := nums) (Φ := Φ) (.fz (.int 2)) z3' z4' z5' z6' z7' z8' z9' z10' z11' a3 .no .no .no .no .no .no rfl
  have w3 := z3 (scr := .list (ns.map PyData.int)) (nums := nums) (Φ := Φ) (.fz (.int 2)) z3' z4' z5' z6' z7' z8' z9' z10' z11' a3 .no .no .no .no .no rfl
  have w6 := z6 (scr := .list (ns.map PyData.int)) (nums := nums) G (.fz (.int 2)) z3' z4' z5' z6' z7' z8' z9' z10' z11' (a3 + 2) d e hd he (.ow (.list bads)) .no .no rfl
  have w7 := z7 (scr := .list (ns.map PyData.int)) F G (.fz (.int 2)) z3' z4' z5' z6' z7' z8' z9' z10' z11' (a3 + 2) e he (.ow (.list bads)) (.fz d) (.fz sCh) .no
  have w8 := z8 (scr := .list (ns.map PyData.int)) (nums := nums) G (.fz (.int 2)) z3' z4' z5' z6' z7' z8' z9' z10' z11' (a3 + 3) e he (.ow (.list bads)) (.fz d) (.fz sCh) .no
  have w9 := z9 (scr := .list (ns.map PyData.int)) F G (.fz (.int 2)) z3' z4' z5' z6' z7' z8' z9' z10' z11' (a3 + 3) (.ow (.list bads)) (.fz d) (.fz e) (.fz sCh) .no
  rw [exs_next _ p0, exs_next _ p1]
  show finish _ (execs _ [l2, l3, l4, l5, l6, l7, l8, l9] (rZ (.list (ns.map PyData.int)) nums (.fz (.int 2)) z3' z4' z5' z6' z7' z8' z9' z10' z11' a3 .no .no .no .no .no .no)) = _
  rw [exs_next _ w2, exs_next _ w3, exs_next _ w4, exs_next _ w5, exs_next _ w6, exs_next _ w7, exs_next _ w8, exs_ret _ w9]
  rfl
end K40
end

section
set_option Elab.async false
set_option linter.all false
set_option maxRecDepth 100000
set_option maxHeartbeats 4000000
open PySem PySem.W PySem.Calls PyProof.Rows
theorem PySem.Challenge.cw_everypurse_k40_exchanges_and_chains_holds : PySem.Challenge.rw_everypurse_k40_exchanges_and_chains.Holds := by
  w_on; o_law
  refine HandSHeadRun.head_any (r := OpenLaw.row PySem.Challenge.rw_everypurse_k40_exchanges_and_chains) (q := view (OpenLaw.row PySem.Challenge.rw_everypurse_k40_exchanges_and_chains).prog [46]) (H := K40.hk) (ob := K40.ob) (M := 20000) (loose := K40.nmL) (d := HandSHeadRun.topDef (OpenLaw.row PySem.Challenge.rw_everypurse_k40_exchanges_and_chains).prog 46) (kwd := []) K40.ob_eq
    (by kernel_rfl) (fun s => by kernel_rfl) K40.run (by kernel_rfl) (by kernel_rfl) (by kernel_rfl) (by rfl) (by first | assumption | decide +kernel) (by decide +kernel) ⟨rfl, rfl, rfl, rfl, rfl, by decide +kernel⟩ ?hw ?hc
  case hw => w_witness2
  case hc =>
    refine DL.walk_ofY (l := PySem.Challenge.rw_everypurse_k40_exchanges_and_chains) (n := 63) (k := 60) (x := (PySem.Str.ofString "script")) rfl (by decide) (by kernel_rfl) ⟨rfl, by decide, by decide⟩ ?F
    intro w mg fa h Y G hmg0
    obtain ⟨K, KX, c, no⟩ := Y
    have hmg : mg (PySem.Str.ofString "law") = some (.ref fa) := by
      have e : (HandSHeadRun.topDef (OpenLaw.row PySem.Challenge.rw_everypurse_k40_exchanges_and_chains).prog 46).name = (PySem.Str.ofString "law") := by kernel_rfl
      rw [← e]
      exact hmg0
    obtain ⟨fd, hb, hF⟩ := K40.facts (P := (PySem.Challenge.rw_everypurse_k40_exchanges_and_chains).prog) (w := w) (n := 60) KX G hmg c
    exact ⟨K, fd, _, KX, hb, fun H a ns hl _ hS => (K40.k40_run ns hl).elim fun os e => DL.sp_law no hS rfl e, hF⟩
end
